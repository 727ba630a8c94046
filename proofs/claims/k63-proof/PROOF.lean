import PyProof.Rows.All
import Wide.All
import OpenK.AllK
import Wide.FinOn
import HandS.ForMost
import HandS.Exc
import HandS.Lambda
import HandS.ExcInit
import HandS.ExcOwn
import HandS.WordsExc
import HandS.IsInst
import HandS.Wide
import HandS.Style
import HandS.TupAny
import HandS.WordsDict
import HandS.Conv
import PyProof.ReprRoads
import HandS.MakeKwOnly
import HandS.OwnEq
import HandS.NoneIn
import KE.KEqNest
import KE.KDictLaw
import HandS.Ends
import PyProof.StrLawsRepr
import PyProof.FitsInt
import HandS.TryMany
import HandS.EndTab
import HandS.Gcd
import HandS.WideBits
import HandS.TupLe
import KE.KNest
import HandS.ExcIs
import KE.KExcIs
import HandS.TryOnly
import HandS.TupMul
import HandS.Zip
import KE.KTupSum
import HandS.SortRule
import HandS.NamedTupSort
import KE.KSortTup
import PyProof.P3Eq
import PyProof.Claim2Refuses
import KE.GoesMore
import HandS.TupSets
import PySem.Challenge.RW_partialpapers_k63_what_is_free_by_corner
set_option Elab.async false
set_option linter.all false
set_option maxRecDepth 100000
set_option maxHeartbeats 4000000
/-! DL1: values, the store, what stands for what; the core of a functional reading. -/
namespace DL
open PySem PySem.Spec PyProof.Rows L2

/-- plain values; lists and instances told here do not change any more; ref: a thing of the store -/
inductive D where
  | non | bl (b : Bool) | int (i : Int) | str (s : Str)
  | tup (xs : List D) | lst (xs : List D) | ob (c : Str) (xs : List D)
  | cst (x : V) | ref (n : Nat) | clo (k : Nat) (xs : List D)
  | scr (ns : List Int) | er (c : Str) (xs : List D) | gl (f : Str)
instance : Inhabited D := ⟨.non⟩

/-- what may change -/
inductive SO where
  | dead
  | lst (xs : List D)
  | dk (kvs : List (Key × D))
  | dt (kvs : List (List Key × D))
  | ins (c : Str) (fs : List (Str × D))
  | fr (vs : Option (List (Option D)))
instance : Inhabited SO := ⟨.dead⟩
abbrev Store := List SO

inductive Res (α : Type) where
  | ok (a : α) (st : Store)
  | exc (c : Str) (ds : List D) (st : Store)
  | stuck
abbrev M (α : Type) := Store → Res α
@[reducible] def M.pure {α : Type} (a : α) : M α := fun st => .ok a st
def M.bind {α β : Type} (m : M α) (f : α → M β) : M β := fun st =>
  match m st with
  | .ok a st' => f a st'
  | .exc c ds st' => .exc c ds st'
  | .stuck => .stuck
def M.stuck {α : Type} : M α := fun _ => .stuck
instance : Monad M where
  pure := M.pure
  bind := M.bind
@[simp] theorem pure_eq {α : Type} (a : α) (st : Store) : (pure a : M α) st = .ok a st := rfl
@[simp] theorem mpure_eq {α : Type} (a : α) (st : Store) : (M.pure a : M α) st = .ok a st := rfl
theorem bind_eq {α β : Type} (m : M α) (f : α → M β) (st : Store) : (m >>= f) st = (match m st with | .ok a st' => f a st' | .exc c ds st' => .exc c ds st' | .stuck => .stuck) := rfl
@[simp] theorem stuck_eq {α : Type} (st : Store) : (M.stuck : M α) st = .stuck := rfl

/-- the fields of the classes; law's captured names and their cells; the name of its lambdas, the lambdas -/
structure Fls where
  f : Str → List Str
  cs : List (Str × Addr) := []
  tb : Addr := 0
  q : Str := ""
  lm : List (Arguments × Expr × Scope) := []
instance : CoeFun Fls (fun _ => Str → List Str) := ⟨Fls.f⟩
instance : CoeHead Fls (Str → List Str) := ⟨Fls.f⟩
/-- what the module's names and classes are -/
structure Tab where
  K : PySem.W.Frag
  mg : Str → Option Value
  fl : Fls
def Tab.ca (T : Tab) (c : Str) (C : Addr) : Prop := T.mg c = some (.ref C)

/-- where the things of the store stand; pv: what is being made, and not told yet -/
structure Rho where
  ix : List Addr
  pv : Addr → Prop
def Live (ρ : Rho) (st : Store) (a : Addr) : Prop := (∃ (i : Nat) (o : SO), ρ.ix[i]? = some a ∧ st[i]? = some o ∧ o ≠ .dead) ∨ ρ.pv a
abbrev Rho.snoc (ρ : Rho) (p : Addr) : Rho := ⟨ρ.ix ++ [p], ρ.pv⟩

/-- a tuple of the written part -/
def KTup (K : PySem.W.Frag) (a : Addr) (xs : List V) : Prop := ∃ (o : Obj) (its : Array Value) (n : Nat), K.lookup a = some o ∧ o.cls = .type "tuple" ∧ o.data = .seq its n ∧ its.size ≤ sizeLine ∧ Vals xs its.toList
/-- an error, made, not raised -/
def ErAt (lv : Addr → Prop) (H : Hp) (a C : Addr) (fs : List Str) (vs : List V) : Prop :=
  (H a = some (exo a C none) ∧ ¬ lv a ∧ fs = [] ∧ vs = []) ∨ ∃ d, H a = some (exo a C (some d)) ∧ ¬ lv a ∧ H d = some (exd d (fs.zip vs)) ∧ ¬ lv d
section
variable (T : Tab) (ρ : Rho) (st : Store) (H : Hp)
mutual
def R : D → V → Prop
  | .non, x => x = .non
  | .bl b, x => x = .bl b
  | .int i, x => x = .int i
  | .str s, x => x = .str s
  | .tup ds, x => ∃ a vs, x = .ref a ∧ ((H a = some (.tup vs) ∧ ¬ Live ρ st a) ∨ KTup T.K a vs) ∧ RAll ds vs
  | .lst ds, x => ∃ a vs, x = .ref a ∧ H a = some (.lst vs) ∧ ¬ Live ρ st a ∧ RAll ds vs
  | .ob c ds, x => ∃ a C dx vs, x = .ref a ∧ T.ca c C ∧ H a = some (.ins C dx ((T.fl c).zip vs)) ∧ ¬ Live ρ st a ∧ RAll ds vs
  | .cst y, x => x = y
  | .ref n, x => ∃ a, x = .ref a ∧ ρ.ix[n]? = some a
  | .clo k _, x => ∃ a ps body sc pm c' ctv, x = .ref a ∧ T.fl.lm[k]? = some (ps, body, sc) ∧ H a = some (.ext fun h => h.get? a = some (PySem.W.kla_obj "<lambda>" T.fl.q ps body sc (cloFrom T.fl.cs sc.names []) pm c' ctv)) ∧ ¬ Live ρ st a ∧ H c' = some (LamX.CodeO c' T.fl.q) ∧ ¬ Live ρ st c'
  | .er c ds, x => ∃ a C vs, x = .ref a ∧ T.ca c C ∧ ErAt (Live ρ st) H a C (T.fl c) vs ∧ RAll ds vs
  | .gl f, x => ∃ a, T.mg f = some (.ref a) ∧ x = .ref a
  | .scr ns, x => ∃ a, x = .ref a ∧ ((∃ o, H a = some (.frz o (.lst (ns.map V.int))) ∧ ¬ Live ρ st a) ∨ ∀ H', SqL T.K H' a (ns.map V.int))
def RAll : List D → List V → Prop
  | [], vs => vs = []
  | d :: ds, vs => ∃ x xs, vs = x :: xs ∧ R d x ∧ RAll ds xs
end
def RKV {κ : Type} : List (κ × D) → List (κ × V) → Prop
  | [], vs => vs = []
  | (k, d) :: ds, vs => ∃ x xs, vs = (k, x) :: xs ∧ R T ρ st H d x ∧ RKV ds xs
/-- law's cells, while a def runs that law called -/
def CellR : List (Str × Addr) → List (Option D) → Prop
  | [], ds => ds = []
  | (_, c) :: cs, ds => ∃ d ds' ob, ds = d :: ds' ∧ H c = some (.frz ob (.own c)) ∧ (¬ Live ρ st c ∧ c ∉ ρ.ix) ∧ (∃ u, ob.data = .cell u) ∧ (∀ d0, d = some d0 → ∃ x u, ob.data = .cell (some u) ∧ RelV x u ∧ R T ρ st H d0 x) ∧ CellR cs ds'
/-- the table of law's code -/
def TabR (a : Addr) : Prop := ∃ ps, H a = some (.tbl ps) ∧ TriplesOk ps.toList ∧ ∀ (pos : Pos) (cv : Value), codeAmong pos ps.toList = some cv → ∃ c, cv = .ref c ∧ H c = some (LamX.CodeO c T.fl.q) ∧ ¬ Live ρ st c
def FrR : Option (List (Option D)) → Prop
  | none => True
  | some ds => CellR T ρ st H T.fl.cs ds
def RObj : SO → Addr → Prop
  | .dead, _ => True
  | .lst ds, a => ∃ vs, H a = some (.lst vs) ∧ RAll T ρ st H ds vs
  | .dk kvs, a => ∃ vs, H a = some (.dK vs) ∧ RKV T ρ st H kvs vs
  | .dt kvs, a => ∃ vs, H a = some (.dT vs) ∧ RKV T ρ st H kvs vs
  | .ins c fs, a => ∃ C dx vs, T.ca c C ∧ H a = some (.ins C dx vs) ∧ RKV T ρ st H fs vs
  | .fr o, a => a = T.fl.tb ∧ TabR T ρ st H a ∧ FrR T ρ st H o
/-- the store is held -/
structure Mt : Prop where
  len : ρ.ix.length = st.length
  nd : ρ.ix.Nodup
  trk : ∀ a ∈ ρ.ix, ∃ o, H a = some o
  ptr : ∀ a, ρ.pv a → ∃ o, H a = some o
  dj : ∀ a, ρ.pv a → a ∉ ρ.ix
  obj : ∀ (i : Nat) (a : Addr) (o : SO), ρ.ix[i]? = some a → st[i]? = some o → RObj T ρ st H o a
/-- the slots are held -/
structure EnvOk (δ : List (Option D)) (σ : L2.St) : Prop where
  len : δ.length = σ.length
  get : ∀ (i : Nat) (d : D), δ[i]? = some (some d) → ∃ x, σ[i]? = some (some x) ∧ R T ρ st H d x
end

def Plain (o : HO) : Prop := ∀ ps, o ≠ .tbl ps
/-- from (ρ, st, H) one comes to (ρ', st', H') -/
structure Ext (ρ : Rho) (st : Store) (H : Hp) (ρ' : Rho) (st' : Store) (H' : Hp) : Prop where
  pre : ∀ (n : Nat) (a : Addr), ρ.ix[n]? = some a → ρ'.ix[n]? = some a
  pvs : ∀ a, ρ.pv a → ρ'.pv a
  hid : ∀ a, ρ.pv a → H' a = H a
  live : ∀ a o, H a = some o → Plain o → ¬ Live ρ st a → ¬ Live ρ' st' a
  stay : ∀ a o, H a = some o → Plain o → ¬ Live ρ st a → H' a = some o
  nix : ∀ a o, H a = some o → Plain o → a ∈ ρ'.ix → a ∈ ρ.ix

section
variable {T : Tab} {ρ ρ1 ρ2 : Rho} {st st1 st2 : Store} {H H1 H2 : Hp}
theorem plain_exo {e C : Addr} {d : Option Addr} : Plain (exo e C d) := fun _ z => by cases z
theorem plain_exd {d : Addr} {fs : List (Str × V)} : Plain (exd d fs) := fun _ z => by cases z
theorem plain_tup {vs : List V} : Plain (.tup vs) := fun _ z => by cases z
theorem plain_lst {vs : List V} : Plain (.lst vs) := fun _ z => by cases z
theorem plain_ins {C dx : Addr} {fs : List (Str × V)} : Plain (.ins C dx fs) := fun _ z => by cases z
theorem Ext.refl : Ext ρ st H ρ st H := ⟨fun _ _ h => h, fun _ h => h, fun _ _ => rfl, fun _ _ _ _ h => h, fun _ _ h _ _ => h, fun _ _ _ _ h => h⟩
theorem Ext.trans (a : Ext ρ st H ρ1 st1 H1) (b : Ext ρ1 st1 H1 ρ2 st2 H2) : Ext ρ st H ρ2 st2 H2 :=
  ⟨fun n x h => b.pre n x (a.pre n x h), fun x h => b.pvs x (a.pvs x h), fun x h => (b.hid x (a.pvs x h)).trans (a.hid x h), fun x o h p l => b.live x o (a.stay x o h p l) p (a.live x o h p l),
   fun x o h p l => b.stay x o (a.stay x o h p l) p (a.live x o h p l), fun x o h p k => by
    by_cases l : Live ρ st x
    · rcases l with ⟨i, _, h1, _, _⟩ | l
      · exact List.mem_of_getElem? h1
      · exact a.nix x o h p (b.nix x o ((a.hid x l).trans h) p k)
    · exact a.nix x o h p (b.nix x o (a.stay x o h p l) p k)⟩
/-- what values ask of a change -/
structure Tr (ρ : Rho) (st : Store) (H : Hp) (ρ' : Rho) (st' : Store) (H' : Hp) : Prop where
  pre : ∀ (n : Nat) (a : Addr), ρ.ix[n]? = some a → ρ'.ix[n]? = some a
  live : ∀ a o, H a = some o → Plain o → ¬ Live ρ st a → ¬ Live ρ' st' a
  stay : ∀ a o, H a = some o → Plain o → ¬ Live ρ st a → H' a = some o
  nix : ∀ a o, H a = some o → Plain o → ¬ Live ρ st a → a ∉ ρ.ix → a ∉ ρ'.ix
theorem Ext.tr (e : Ext ρ st H ρ1 st1 H1) : Tr ρ st H ρ1 st1 H1 := ⟨e.pre, e.live, e.stay, fun a o h p _ n k => n (e.nix a o h p k)⟩
mutual
theorem R.tr (e : Tr ρ st H ρ1 st1 H1) : ∀ (d : D) (x : V), R T ρ st H d x → R T ρ1 st1 H1 d x
  | .non, x, h => by simpa only [R] using h
  | .bl b, x, h => by simpa only [R] using h
  | .int i, x, h => by simpa only [R] using h
  | .str s, x, h => by simpa only [R] using h
  | .tup ds, x, h => by
    simp only [R] at h ⊢
    obtain ⟨a, vs, e1, h1, h2⟩ := h
    refine ⟨a, vs, e1, ?_, RAll.tr e ds vs h2⟩
    rcases h1 with ⟨k, l⟩ | k
    · exact .inl ⟨e.stay a _ k plain_tup l, e.live a _ k plain_tup l⟩
    · exact .inr k
  | .lst ds, x, h => by
    simp only [R] at h ⊢
    obtain ⟨a, vs, e1, k, l, h2⟩ := h
    exact ⟨a, vs, e1, e.stay a _ k plain_lst l, e.live a _ k plain_lst l, RAll.tr e ds vs h2⟩
  | .ob c ds, x, h => by
    simp only [R] at h ⊢
    obtain ⟨a, C, dx, vs, e1, hc, k, l, h2⟩ := h
    exact ⟨a, C, dx, vs, e1, hc, e.stay a _ k plain_ins l, e.live a _ k plain_ins l, RAll.tr e ds vs h2⟩
  | .cst y, x, h => by simpa only [R] using h
  | .ref n, x, h => by
    simp only [R] at h ⊢
    obtain ⟨a, e1, k⟩ := h
    exact ⟨a, e1, e.pre _ _ k⟩
  | .clo k ds, x, h => by
    simp only [R] at h ⊢
    obtain ⟨a, ps, body, sc, pm, c', ctv, e1, e2, k1, l1, k2, l2⟩ := h
    exact ⟨a, ps, body, sc, pm, c', ctv, e1, e2, e.stay a _ k1 (fun _ z => by cases z) l1, e.live a _ k1 (fun _ z => by cases z) l1, e.stay c' _ k2 LamX.codeO_ne l2, e.live c' _ k2 LamX.codeO_ne l2⟩
  | .er c ds, x, h => by
    simp only [R] at h ⊢
    obtain ⟨a, C, vs, e1, hc, he, h2⟩ := h
    refine ⟨a, C, vs, e1, hc, ?_, RAll.tr e ds vs h2⟩
    rcases he with ⟨k, l, z⟩ | ⟨d, k, l, k2, l2⟩
    · exact .inl ⟨e.stay a _ k plain_exo l, e.live a _ k plain_exo l, z⟩
    · exact .inr ⟨d, e.stay a _ k plain_exo l, e.live a _ k plain_exo l, e.stay d _ k2 plain_exd l2, e.live d _ k2 plain_exd l2⟩
  | .gl f, x, h => by simpa only [R] using h
  | .scr ns, x, h => by
    simp only [R] at h ⊢
    obtain ⟨a, e1, h1⟩ := h
    refine ⟨a, e1, ?_⟩
    rcases h1 with ⟨o, k, l⟩ | k
    · exact .inl ⟨o, e.stay a _ k (fun _ z => by cases z) l, e.live a _ k (fun _ z => by cases z) l⟩
    · exact .inr k
theorem RAll.tr (e : Tr ρ st H ρ1 st1 H1) : ∀ (ds : List D) (vs : List V), RAll T ρ st H ds vs → RAll T ρ1 st1 H1 ds vs
  | [], vs, h => by simpa only [RAll] using h
  | d :: ds, vs, h => by
    simp only [RAll] at h ⊢
    obtain ⟨x, xs, e1, h1, h2⟩ := h
    exact ⟨x, xs, e1, R.tr e d x h1, RAll.tr e ds xs h2⟩
end
theorem RKV.tr {κ : Type} (e : Tr ρ st H ρ1 st1 H1) : ∀ (ds : List (κ × D)) (vs : List (κ × V)), RKV T ρ st H ds vs → RKV T ρ1 st1 H1 ds vs
  | [], vs, h => h
  | (k, d) :: ds, vs, h => by
    obtain ⟨x, xs, e1, h1, h2⟩ := h
    exact ⟨x, xs, e1, R.tr e d x h1, RKV.tr e ds xs h2⟩
theorem R.ext (e : Ext ρ st H ρ1 st1 H1) (d : D) (x : V) (h : R T ρ st H d x) : R T ρ1 st1 H1 d x := R.tr e.tr d x h
theorem RAll.ext (e : Ext ρ st H ρ1 st1 H1) (ds : List D) (vs : List V) (h : RAll T ρ st H ds vs) : RAll T ρ1 st1 H1 ds vs := RAll.tr e.tr ds vs h
theorem RKV.ext {κ : Type} (e : Ext ρ st H ρ1 st1 H1) (ds : List (κ × D)) (vs : List (κ × V)) (h : RKV T ρ st H ds vs) : RKV T ρ1 st1 H1 ds vs := RKV.tr e.tr ds vs h
theorem EnvOk.ext {δ : List (Option D)} {σ : L2.St} (h : EnvOk T ρ st H δ σ) (e : Ext ρ st H ρ1 st1 H1) : EnvOk T ρ1 st1 H1 δ σ :=
  ⟨h.len, fun i d k => let ⟨x, k1, k2⟩ := h.get i d k; ⟨x, k1, k2.ext e d x⟩⟩
theorem RAll.length : ∀ {ds : List D} {vs : List V}, RAll T ρ st H ds vs → ds.length = vs.length
  | [], vs, h => by simp only [RAll] at h; rw [h]; rfl
  | d :: ds, vs, h => by
    simp only [RAll] at h
    obtain ⟨x, xs, e1, h1, h2⟩ := h
    rw [e1, List.length_cons, List.length_cons, RAll.length h2]
theorem RAll.nil : RAll T ρ st H [] [] := by simp only [RAll]
theorem RAll.cons {d : D} {x : V} {ds : List D} {vs : List V} (h : R T ρ st H d x) (t : RAll T ρ st H ds vs) : RAll T ρ st H (d :: ds) (x :: vs) := by
  simp only [RAll]
  exact ⟨x, vs, rfl, h, t⟩
theorem RAll.get : ∀ {ds : List D} {vs : List V} {i : Nat} {d : D}, RAll T ρ st H ds vs → ds[i]? = some d → ∃ x, vs[i]? = some x ∧ R T ρ st H d x
  | [], _, i, d, _, e => by simp at e
  | d0 :: ds, vs, 0, d, h, e => by
    simp only [RAll] at h
    obtain ⟨x, xs, e1, h1, h2⟩ := h
    simp at e
    subst e
    exact ⟨x, by rw [e1]; rfl, h1⟩
  | d0 :: ds, vs, i + 1, d, h, e => by
    simp only [RAll] at h
    obtain ⟨x, xs, e1, h1, h2⟩ := h
    obtain ⟨y, h3, h4⟩ := RAll.get (i := i) h2 (by simpa using e)
    exact ⟨y, by rw [e1]; simpa using h3, h4⟩
theorem RAll.append : ∀ {ds es : List D} {vs ws : List V}, RAll T ρ st H ds vs → RAll T ρ st H es ws → RAll T ρ st H (ds ++ es) (vs ++ ws)
  | [], _, vs, _, h, k => by simp only [RAll] at h; rw [h]; exact k
  | d :: ds, es, vs, ws, h, k => by
    simp only [RAll] at h
    obtain ⟨x, xs, e1, h1, h2⟩ := h
    rw [e1]
    exact RAll.cons h1 (RAll.append h2 k)
theorem RAll.take : ∀ {ds : List D} {vs : List V} (n : Nat), RAll T ρ st H ds vs → RAll T ρ st H (ds.take n) (vs.take n)
  | [], vs, n, h => by simp only [RAll] at h; rw [h]; simp [RAll]
  | d :: ds, vs, 0, h => by simp [RAll]
  | d :: ds, vs, n + 1, h => by
    simp only [RAll] at h
    obtain ⟨x, xs, e1, h1, h2⟩ := h
    rw [e1]
    exact RAll.cons h1 (RAll.take n h2)
theorem RAll.drop : ∀ {ds : List D} {vs : List V} (n : Nat), RAll T ρ st H ds vs → RAll T ρ st H (ds.drop n) (vs.drop n)
  | [], vs, n, h => by simp only [RAll] at h; rw [h]; simp [RAll]
  | d :: ds, vs, 0, h => h
  | d :: ds, vs, n + 1, h => by
    simp only [RAll] at h
    obtain ⟨x, xs, e1, h1, h2⟩ := h
    rw [e1]
    exact RAll.drop n h2
theorem R.int_of {i : Int} {x : V} (h : R T ρ st H (.int i) x) : x = .int i := by simpa only [R] using h
theorem R.bl_of {i : Bool} {x : V} (h : R T ρ st H (.bl i) x) : x = .bl i := by simpa only [R] using h
theorem R.str_of {i : Str} {x : V} (h : R T ρ st H (.str i) x) : x = .str i := by simpa only [R] using h
theorem R.non_of {x : V} (h : R T ρ st H .non x) : x = .non := by simpa only [R] using h
theorem R.int {i : Int} : R T ρ st H (.int i) (.int i) := by simp only [R]
theorem R.bl {i : Bool} : R T ρ st H (.bl i) (.bl i) := by simp only [R]
theorem R.str {i : Str} : R T ρ st H (.str i) (.str i) := by simp only [R]
theorem R.non : R T ρ st H .non .non := by simp only [R]
/-- a live thing is tracked -/
theorem Mt.nin (m : Mt T ρ st H) {a : Addr} (h : H a = none) : a ∉ ρ.ix := fun k => by
  obtain ⟨o, q⟩ := m.trk a k
  rw [h] at q
  cases q
theorem Mt.live (m : Mt T ρ st H) {a : Addr} (l : Live ρ st a) : ∃ o, H a = some o := by
  rcases l with ⟨i, o, h1, h2, h3⟩ | l
  case inr => exact m.ptr a l
  have q := m.obj i a o h1 h2
  cases o with
  | dead => exact absurd rfl h3
  | lst ds => obtain ⟨vs, q, _⟩ := q; exact ⟨_, q⟩
  | dk ds => obtain ⟨vs, q, _⟩ := q; exact ⟨_, q⟩
  | dt ds => obtain ⟨vs, q, _⟩ := q; exact ⟨_, q⟩
  | ins c ds => obtain ⟨_, _, vs, _, q, _⟩ := q; exact ⟨_, q⟩
  | fr vs => obtain ⟨_, ⟨_, q, _⟩, _⟩ := q; exact ⟨_, q⟩
theorem Mt.notLive (m : Mt T ρ st H) {a : Addr} (h : H a = none) : ¬ Live ρ st a := fun l => by
  obtain ⟨o, q⟩ := m.live l
  rw [h] at q
  cases q
theorem CellR.tr (e : Tr ρ st H ρ1 st1 H1) : ∀ {cs : List (Str × Addr)} {ds : List (Option D)}, CellR T ρ st H cs ds → CellR T ρ1 st1 H1 cs ds
  | [], ds, h => h
  | (_, c) :: cs, ds, h => by
    obtain ⟨d, ds', ob, e1, k, l, hu, hr, r⟩ := h
    refine ⟨d, ds', ob, e1, e.stay c _ k (fun _ z => by cases z) l.1, ⟨e.live c _ k (fun _ z => by cases z) l.1, e.nix c _ k (fun _ z => by cases z) l.1 l.2⟩, hu, fun d0 h0 => ?_, r.tr e⟩
    obtain ⟨x, u, q1, q2, q3⟩ := hr d0 h0
    exact ⟨x, u, q1, q2, q3.tr e _ _⟩
theorem RObj.tr (e : Tr ρ st H ρ1 st1 H1) {o : SO} {a : Addr} (h : RObj T ρ st H o a) (k : H1 a = H a) : RObj T ρ1 st1 H1 o a := by
  cases o with
  | dead => trivial
  | lst ds => obtain ⟨vs, q, r⟩ := h; exact ⟨vs, by rw [k]; exact q, r.tr e _ _⟩
  | dk ds => obtain ⟨vs, q, r⟩ := h; exact ⟨vs, by rw [k]; exact q, r.tr e _ _⟩
  | dt ds => obtain ⟨vs, q, r⟩ := h; exact ⟨vs, by rw [k]; exact q, r.tr e _ _⟩
  | ins c ds => obtain ⟨C, dx, vs, c1, q, r⟩ := h; exact ⟨C, dx, vs, c1, by rw [k]; exact q, r.tr e _ _⟩
  | fr vs =>
    obtain ⟨ep, ⟨ps, q, t, ha⟩, r⟩ := h
    refine ⟨ep, ⟨ps, by rw [k]; exact q, t, fun pos cv hc => ?_⟩, ?_⟩
    · obtain ⟨c, e1, k1, l1⟩ := ha pos cv hc
      exact ⟨c, e1, e.stay c _ k1 LamX.codeO_ne l1, e.live c _ k1 LamX.codeO_ne l1⟩
    · cases vs with
      | none => trivial
      | some ds => exact CellR.tr e r
theorem RObj.ext (e : Ext ρ st H ρ1 st1 H1) {o : SO} {a : Addr} (h : RObj T ρ st H o a) (k : H1 a = H a) : RObj T ρ1 st1 H1 o a := h.tr e.tr k
/-- a new tracked object beside the store -/
theorem Mt.pne (m : Mt T ρ st H) {p a : Addr} (h : H p = none) (l : ρ.pv a) : a ≠ p := by
  obtain ⟨o, q⟩ := m.ptr a l
  exact ne_of_none q h
theorem Ext.new {p : Addr} {o : HO} (m : Mt T ρ st H) (h : H p = none) : Ext ρ st H ρ st (upd H p o) :=
  ⟨fun _ _ h => h, fun _ h => h, fun a l => upd_ne (m.pne h l), fun _ _ _ _ l => l, fun a u e _ _ => by rw [upd_ne (ne_of_none e h)]; exact e, fun _ _ _ _ k => k⟩
theorem Mt.new {p : Addr} {o : HO} (m : Mt T ρ st H) (h : H p = none) : Mt T ρ st (upd H p o) :=
by
  refine ⟨m.len, m.nd, fun a ha => ?_, fun a ha => ?_, m.dj, fun i a so h1 h2 => ?_⟩
  · obtain ⟨u, q⟩ := m.trk a ha
    exact ⟨u, by rw [upd_ne (ne_of_none q h)]; exact q⟩
  · obtain ⟨u, q⟩ := m.ptr a ha
    exact ⟨u, by rw [upd_ne (ne_of_none q h)]; exact q⟩
  · by_cases hd : so = .dead
    · subst hd
      trivial
    · obtain ⟨u, q⟩ := m.live (.inl ⟨i, so, h1, h2, hd⟩)
      exact (m.obj i a so h1 h2).ext (Ext.new m h) (upd_ne (ne_of_none q h))
/-- a new object enters the store -/
theorem Live.snoc {p a : Addr} {o : SO} (hl : ρ.ix.length = st.length) (l : Live (ρ.snoc p) (st ++ [o]) a) : Live ρ st a ∨ a = p := by
  rcases l with ⟨i, u, h1, h2, h3⟩ | l
  case inr => exact .inl (.inr l)
  simp only [Rho.snoc] at h1
  by_cases hi : i < ρ.ix.length
  · rw [List.getElem?_append_left hi] at h1
    rw [List.getElem?_append_left (by omega)] at h2
    exact .inl (.inl ⟨i, u, h1, h2, h3⟩)
  · rw [List.getElem?_append_right (by omega)] at h1
    right
    have h4 := List.mem_of_getElem? h1
    simpa using h4
theorem Ext.push {p : Addr} {u : HO} {o : SO} (m : Mt T ρ st H) (h : H p = none) : Ext ρ st H (ρ.snoc p) (st ++ [o]) (upd H p u) :=
by
  refine ⟨fun n a k => ?_, fun _ h => h, fun a l => upd_ne (m.pne h l), fun a w e _ l z => ?_, fun a w e _ _ => ?_, fun a w e _ k => ?_⟩
  · simp only [Rho.snoc]
    rw [List.getElem?_append_left (List.getElem?_eq_some_iff.mp k).1]
    exact k
  · rcases Live.snoc m.len z with z | z
    · exact l z
    · rw [z, h] at e
      cases e
  · rw [upd_ne (ne_of_none e h)]
    exact e
  · rcases List.mem_append.mp k with k | k
    · exact k
    · have ep : a = p := by simpa using k
      rw [ep, h] at e
      cases e
theorem Mt.push {p : Addr} {u : HO} {o : SO} (m : Mt T ρ st H) (h : H p = none) (ho : RObj T (ρ.snoc p) (st ++ [o]) (upd H p u) o p) : Mt T (ρ.snoc p) (st ++ [o]) (upd H p u) := by
  have hp := m.nin h
  refine ⟨by simp [Rho.snoc, m.len], ?_, fun a ha => ?_, fun a ha => ?_, fun a ha z => ?_, fun i a so h1 h2 => ?_⟩
  · simp only [Rho.snoc]
    rw [List.nodup_append]
    refine ⟨m.nd, by simp, fun a ha b hb => ?_⟩
    have e : b = p := by simpa using hb
    intro z
    rw [z, e] at ha
    exact hp ha
  · rcases List.mem_append.mp ha with z | z
    · obtain ⟨w, q⟩ := m.trk a z
      exact ⟨w, by rw [upd_ne (ne_of_none q h)]; exact q⟩
    · have e : a = p := by simpa using z
      subst e
      exact ⟨u, upd_same⟩
  · obtain ⟨w, q⟩ := m.ptr a ha
    exact ⟨w, by rw [upd_ne (ne_of_none q h)]; exact q⟩
  · rcases List.mem_append.mp z with z | z
    · exact m.dj a ha z
    · exact m.pne h ha (by simpa using z)
  · simp only [Rho.snoc] at h1
    by_cases hi : i < ρ.ix.length
    · rw [List.getElem?_append_left hi] at h1
      rw [List.getElem?_append_left (by have := m.len; omega)] at h2
      by_cases hd : so = .dead
      · subst hd
        trivial
      · obtain ⟨w, q⟩ := m.live (.inl ⟨i, so, h1, h2, hd⟩)
        exact (m.obj i a so h1 h2).ext (Ext.push m h) (upd_ne (ne_of_none q h))
    · rw [List.getElem?_append_right (by omega)] at h1
      rw [List.getElem?_append_right (by have := m.len; omega)] at h2
      have e1 : a = p := by simpa using List.mem_of_getElem? h1
      have e2 : so = o := by simpa using List.mem_of_getElem? h2
      subst e1
      subst e2
      exact ho
end
end DL
/-! DL2: readings by functions; expressions. -/
namespace DL
open PySem PySem.Spec PyProof.Rows L2

section
variable {α β : Type} (T : Tab) (ρ : Rho) (st : Store) (H : Hp) (σ : L2.St) (Wx : WX)
/-- what is wanted of a result -/
def Post (P : α → Rho → Store → Hp → Prop) : Res α → Prop
  | .ok v st' => ∀ ρ' H', Ext ρ st H ρ' st' H' → Mt T ρ' st' H' → P v ρ' st' H'
  | .exc c ds st' => ∀ ρ' H' (C d : Addr) (vs : List V), Ext ρ st H ρ' st' H' → Mt T ρ' st' H' → T.ca c C → H' d = some (.xd ((T.fl c).zip vs)) → ¬ Live ρ' st' d → RAll T ρ' st' H' ds vs → Wx (.ref C) (some d) σ H'
  | .stuck => False
end
section
variable {α β : Type} {T : Tab} {ρ ρ1 : Rho} {st st1 : Store} {H H1 : Hp} {σ : L2.St} {Wx : WX} {P P' : α → Rho → Store → Hp → Prop} {P2 : β → Rho → Store → Hp → Prop}
theorem Post.mono {r : Res α} (h : Post T ρ st H σ Wx P r) (i : ∀ v ρ' st' H', P v ρ' st' H' → P' v ρ' st' H') : Post T ρ st H σ Wx P' r := by
  cases r with
  | ok v st' => exact fun ρ' H' e m => i _ _ _ _ (h ρ' H' e m)
  | exc c ds st' => exact h
  | stuck => exact h
theorem Post.monoE {r : Res α} (h : Post T ρ st H σ Wx P r) (i : ∀ v ρ' st' H', Ext ρ st H ρ' st' H' → Mt T ρ' st' H' → P v ρ' st' H' → P' v ρ' st' H') : Post T ρ st H σ Wx P' r := by
  cases r with
  | ok v st' => exact fun ρ' H' e m => i _ _ _ _ e m (h ρ' H' e m)
  | exc c ds st' => exact h
  | stuck => exact h
theorem Post.ext {r : Res α} (h : Post T ρ st H σ Wx P r) (e : Ext ρ st H ρ1 st1 H1) : Post T ρ1 st1 H1 σ Wx P r := by
  cases r with
  | ok v st' => exact fun ρ' H' e' m => h ρ' H' (e.trans e') m
  | exc c ds st' => exact fun ρ' H' C d vs e' => h ρ' H' C d vs (e.trans e')
  | stuck => exact h
theorem Post.bind {m : M α} {f : α → M β} (h : Post T ρ st H σ Wx P2 ((m >>= f) st)) : Post T ρ st H σ Wx (fun v ρ1 st1 H1 => Post T ρ1 st1 H1 σ Wx P2 (f v st1)) (m st) := by
  rw [bind_eq] at h
  cases q : m st with
  | ok v st' =>
    rw [q] at h
    exact fun ρ' H' e _ => h.ext e
  | exc c ds st' =>
    rw [q] at h
    exact h
  | stuck =>
    rw [q] at h
    exact h
end

/-- the module's names as a table -/
abbrev XT (X : Cx) (fl : Fls) : Tab := ⟨X.K, X.mg, fl⟩
abbrev DEnv := List (Option D)
abbrev EM := DEnv → M D
abbrev AM := DEnv → M (List D)
abbrev TM := DEnv → M Bool
inductive Fl where
  | next | ret (d : D) | brk | cont
abbrev SM := DEnv → M (Fl × DEnv)

section
variable (T : Tab) (Wx : WX)
/-- what is, at slots σ and heap H -/
def At (σ : L2.St) (H : Hp) (k : Rho → DEnv → Store → Prop) : Prop := ∃ ρ δ st, Mt T ρ st H ∧ EnvOk T ρ st H δ σ ∧ k ρ δ st
def tD (m : EM) : TE := fun σ H Q => At T σ H fun ρ δ st => Post T ρ st H σ Wx (fun v ρ' st' H' => ∀ x, R T ρ' st' H' v x → Q x H') (m δ st)
def tDA (m : AM) : TA := fun σ H Q => At T σ H fun ρ δ st => Post T ρ st H σ Wx (fun v ρ' st' H' => ∀ x, RAll T ρ' st' H' v x → Q x H') (m δ st)
def tDT (m : TM) : TT := fun σ H Q => At T σ H fun ρ δ st => Post T ρ st H σ Wx (fun v ρ' st' H' => Q v H') (m δ st)
def FlP (D : Ends) (v : Fl × DEnv) (ρ' : Rho) (st' : Store) (H' : Hp) : Prop :=
  match v.1 with
  | .next => ∀ σ', EnvOk T ρ' st' H' v.2 σ' → D.nx σ' H'
  | .ret d => ∀ x, R T ρ' st' H' d x → D.rt x H'
  | .brk => ∀ σ', EnvOk T ρ' st' H' v.2 σ' → D.bk σ' H'
  | .cont => ∀ σ', EnvOk T ρ' st' H' v.2 σ' → D.ct σ' H'
end
/-- an exception's wish at any slots of the frame: what is wanted must not hang on slots that the statement may have changed -/
def tDS (T : Tab) (Wx : XK) (m : SM) : TS := fun D σ H => At T σ H fun ρ δ st => Post T ρ st H σ (fun c d _ H => Wx c d H) (FlP T D) (m δ st)
abbrev wx (Wx : XK) : WX := fun c d _ H => Wx c d H

theorem pe_imp {X : Cx} {e : Expr} {t t' : TE} (h : PE X e t) (i : ∀ σ H Q, t' σ H Q → t σ H Q) : PE X e t' := ⟨fun pins s σ H Q I q => h.run pins s σ H Q I (i σ H Q q)⟩
theorem pa_imp {X : Cx} {e : List Expr} {t t' : TA} (h : PA X e t) (i : ∀ σ H Q, t' σ H Q → t σ H Q) : PA X e t' := ⟨fun pos pins s σ H Q I q => h.run pos pins s σ H Q I (i σ H Q q)⟩
theorem pt_imp {X : Cx} {e : Expr} {t t' : TT} (h : PT X e t) (i : ∀ σ H Q, t' σ H Q → t σ H Q) : PT X e t' := ⟨fun pins s σ H Q I q => h.run pins s σ H Q I (i σ H Q q)⟩
theorem pw_imp {X : Cx} {e : Expr} {t t' : TT} (h : PW X e t) (i : ∀ σ H Q, t' σ H Q → t σ H Q) : PW X e t' := ⟨fun wh pins s σ H Q I q => h.run wh pins s σ H Q I (i σ H Q q)⟩
theorem ps_imp {X : Cx} {e : Stmt} {t t' : TS} (h : PS X e t) (i : ∀ D σ H, t' D σ H → t D σ H) : PS X e t' := ⟨fun pins s σ H Q I q => h.run pins s σ H Q I (i Q σ H q)⟩
theorem pss_imp {X : Cx} {e : List Stmt} {t t' : TS} (h : PSs X e t) (i : ∀ D σ H, t' D σ H → t D σ H) : PSs X e t' := ⟨fun pins s σ H Q I q => h.run pins s σ H Q I (i Q σ H q)⟩

/-! ### expressions -/
def lift (o : Option D) : M D := fun st => match o with | some v => .ok v st | none => .stuck
@[simp] theorem lift_some (v : D) (st : Store) : lift (some v) st = .ok v st := rfl
@[simp] theorem lift_none (st : Store) : lift none st = .stuck := rfl
def eVar (i : Nat) : EM := fun δ => lift (δ[i]?).join
def eC (d : D) : EM := fun _ => pure d
def e1 (f : Store → D → Option D) (a : EM) : EM := fun δ => a δ >>= fun x st => lift (f st x) st
def e2 (f : Store → D → D → Option D) (a b : EM) : EM := fun δ => a δ >>= fun x => b δ >>= fun y st => lift (f st x y) st
def eN (f : Store → List D → Option D) (a : AM) : EM := fun δ => a δ >>= fun x st => lift (f st x) st
def aNil : AM := fun _ => pure []
def aCons (a : EM) (r : AM) : AM := fun δ => a δ >>= fun x => r δ >>= fun xs => pure (x :: xs)
def eTup (a : AM) : EM := fun δ => a δ >>= fun xs => if xs.length ≤ sizeLine then pure (.tup xs) else M.stuck
def eLst (a : AM) : EM := fun δ => a δ >>= fun xs => if xs.length ≤ sizeLine then pure (.lst xs) else M.stuck
/-- a list of the store -/
def eNew (a : AM) : EM := fun δ => a δ >>= fun xs st => if xs.length ≤ sizeLine then .ok (.ref st.length) (st ++ [.lst xs]) else .stuck
def eIf (t : TM) (a b : EM) : EM := fun δ => t δ >>= fun c => if c = true then a δ else b δ

theorem Post.lift_inv {T : Tab} {ρ : Rho} {st : Store} {H : Hp} {σ : L2.St} {Wx : WX} {P : D → Rho → Store → Hp → Prop} {o : Option D} (h : Post T ρ st H σ Wx P (lift o st)) :
    ∃ v, o = some v ∧ ∀ ρ' H', Ext ρ st H ρ' st H' → Mt T ρ' st H' → P v ρ' st H' := by
  cases o with
  | none => exact False.elim h
  | some v => exact ⟨v, rfl, h⟩

section
variable {X : Cx} {fl : Fls} {Wx : WX} {e a b : Expr} {es : List Expr} {ma mb : EM} {mA : AM} {pos : Pos}
abbrev DE (X : Cx) (fl : Fls) (Wx : WX) (e : Expr) (m : EM) : Prop := PE X e (tD (XT X fl) Wx m)
abbrev DA (X : Cx) (fl : Fls) (Wx : WX) (es : List Expr) (m : AM) : Prop := PA X es (tDA (XT X fl) Wx m)
abbrev DT (X : Cx) (fl : Fls) (Wx : WX) (e : Expr) (m : TM) : Prop := PT X e (tDT (XT X fl) Wx m)

/-- a one-place rule by values -/
def V1 (T : Tab) (r : V → Hp → VK → Prop) (f : Store → D → Option D) : Prop :=
  ∀ ρ st H d x v Q, Mt T ρ st H → R T ρ st H d x → f st d = some v → (∀ H' z, Ext ρ st H ρ st H' → Mt T ρ st H' → R T ρ st H' v z → Q z H') → r x H Q
def V2 (T : Tab) (r : V → V → Hp → VK → Prop) (f : Store → D → D → Option D) : Prop :=
  ∀ ρ st H d d' x y v Q, Mt T ρ st H → R T ρ st H d x → R T ρ st H d' y → f st d d' = some v → (∀ H' z, Ext ρ st H ρ st H' → Mt T ρ st H' → R T ρ st H' v z → Q z H') → r x y H Q
def VN (T : Tab) (r : List V → Hp → VK → Prop) (f : Store → List D → Option D) : Prop :=
  ∀ ρ st H ds xs v Q, Mt T ρ st H → RAll T ρ st H ds xs → f st ds = some v → (∀ H' z, Ext ρ st H ρ st H' → Mt T ρ st H' → R T ρ st H' v z → Q z H') → r xs H Q

theorem de_var {i : Nat} {x : Str} (hN : X.N[i]? = some x) (hv : Vis X.env.scope x) (hd : (x == ("__debug__" : Str)) = false := by decide) (hcd : (x == ("__classdict__" : Str)) = false := by decide) : DE X fl Wx (.Name x pos) (eVar i) := by
  refine pe_imp (pe_var hN hv hd hcd) fun σ H Q ⟨ρ, δ, st, m, en, h⟩ => ?_
  obtain ⟨d, e, h⟩ := Post.lift_inv h
  have e' : δ[i]? = some (some d) := by
    cases q : δ[i]? with
    | none => rw [q] at e; cases e
    | some o => rw [q] at e; exact congrArg some e
  obtain ⟨y, hy, r⟩ := en.get i d e'
  exact ⟨y, hy, h ρ H .refl m y r⟩
theorem de_c {d : D} {v : V} (h : PE X e (tC v)) (r : ∀ ρ st H, R (XT X fl) ρ st H d v) : DE X fl Wx e (eC d) := by
  refine pe_imp h fun σ H Q ⟨ρ, δ, st, m, en, h⟩ => ?_
  exact h ρ H .refl m v (r ρ st H)
theorem de_int {i j} : DE X fl Wx (.Constant (.int i) j pos) (eC (.int i)) := de_c pe_int fun _ _ _ => R.int
theorem de_bl {i j} : DE X fl Wx (.Constant (.bool i) j pos) (eC (.bl i)) := de_c pe_bl fun _ _ _ => R.bl
theorem de_str {i j} : DE X fl Wx (.Constant (.str i) j pos) (eC (.str i)) := de_c pe_str fun _ _ _ => R.str
theorem de_non {j} : DE X fl Wx (.Constant .none j pos) (eC .non) := de_c pe_non fun _ _ _ => R.non
/-- a class or def of the module as a value -/
theorem de_glob {x : Str} {v : V} {u : Value} (hg : Gl X x) (hm : X.mg x = some u) (r : RelV v u) (hd : (x == ("__debug__" : Str)) = false := by decide) : DE X fl Wx (.Name x pos) (eC (.cst v)) :=
  de_c (pe_glob hg hm r hd) fun _ _ _ => by simp only [R]
theorem de_bltn {x : Str} {v : V} {u : Value} (hg : Gl X x) (hm : X.mg x = none) (hv : bootBuiltins x = some u) (r : RelV v u) (hn : x ≠ "__name__" := by decide) (hd : (x == ("__debug__" : Str)) = false := by decide) : DE X fl Wx (.Name x pos) (eC (.cst v)) :=
  de_c (pe_bltn hg hm hv r hn hd) fun _ _ _ => by simp only [R]

theorem go1 {r : V → Hp → VK → Prop} {f : Store → D → Option D} (hv : V1 (XT X fl) r f) {σ : L2.St} {H : Hp} {Q : VK} (h : tD (XT X fl) Wx (e1 f ma) σ H Q) : tD (XT X fl) Wx ma σ H fun x H1 => r x H1 Q := by
  obtain ⟨ρ, δ, st, m, en, h⟩ := h
  refine ⟨ρ, δ, st, m, en, (Post.bind h).monoE fun d ρ1 st1 H1 e1 m1 h1 x rx => ?_⟩
  obtain ⟨v, ev, h2⟩ := Post.lift_inv h1
  exact hv ρ1 st1 H1 d x v Q m1 rx ev fun H' z e' m' rz => h2 ρ1 H' e' m' z rz
theorem go2 {r : V → V → Hp → VK → Prop} {f : Store → D → D → Option D} (hv : V2 (XT X fl) r f) {σ : L2.St} {H : Hp} {Q : VK} (h : tD (XT X fl) Wx (e2 f ma mb) σ H Q) : tD (XT X fl) Wx ma σ H fun x H1 => tD (XT X fl) Wx mb σ H1 fun y H2 => r x y H2 Q := by
  obtain ⟨ρ, δ, st, m, en, h⟩ := h
  refine ⟨ρ, δ, st, m, en, (Post.bind h).monoE fun d ρ1 st1 H1 e1 m1 h1 x rx => ?_⟩
  refine ⟨ρ1, δ, st1, m1, en.ext e1, (Post.bind h1).monoE fun d' ρ2 st2 H2 e2 m2 h2 y ry => ?_⟩
  obtain ⟨v, ev, h3⟩ := Post.lift_inv h2
  exact hv ρ2 st2 H2 d d' x y v Q m2 (rx.ext e2 _ _) ry ev fun H' z e' m' rz => h3 ρ2 H' e' m' z rz
theorem goN {r : List V → Hp → VK → Prop} {f : Store → List D → Option D} (hv : VN (XT X fl) r f) {σ : L2.St} {H : Hp} {Q : VK} (h : tD (XT X fl) Wx (eN f mA) σ H Q) : tDA (XT X fl) Wx mA σ H fun x H1 => r x H1 Q := by
  obtain ⟨ρ, δ, st, m, en, h⟩ := h
  refine ⟨ρ, δ, st, m, en, (Post.bind h).monoE fun d ρ1 st1 H1 e1 m1 h1 x rx => ?_⟩
  obtain ⟨v, ev, h2⟩ := Post.lift_inv h1
  exact hv ρ1 st1 H1 d x v Q m1 rx ev fun H' z e' m' rz => h2 ρ1 H' e' m' z rz

theorem de_op {op : Operator} {r : R2} {f : Store → D → D → Option D} (ho : OpR X (binaryOp op) r) (hv : V2 (XT X fl) r f) (ha : DE X fl Wx a ma) (hb : DE X fl Wx b mb) : DE X fl Wx (.BinOp a op b pos) (e2 f ma mb) :=
  pe_imp (pe_op ho ha hb) fun _ _ _ h => go2 hv h
theorem de_un {op : UnaryOp} {r : V → Hp → VK → Prop} {f : Store → D → Option D} (ho : UnR X (unaryOp op) r) (hv : V1 (XT X fl) r f) (ha : DE X fl Wx a ma) : DE X fl Wx (.UnaryOp op a pos) (e1 f ma) :=
  pe_imp (pe_un ho ha) fun _ _ _ h => go1 hv h
theorem de_cmp {op : CmpOp} {r : R2} {f : Store → D → D → Option D} (ho : OpR X (compareOp op) r) (hv : V2 (XT X fl) r f) (ha : DE X fl Wx a ma) (hb : DE X fl Wx b mb) (hm : behindInMarks op b = false) : DE X fl Wx (.Compare a [op] [b] pos) (e2 f ma mb) :=
  pe_imp (pe_cmpR ho ha hb hm) fun _ _ _ h => go2 hv h
theorem da_nil : DA X fl Wx [] aNil := by
  refine pa_imp pa_nil fun σ H Q ⟨ρ, δ, st, m, en, h⟩ => ?_
  exact h ρ H .refl m [] RAll.nil
theorem da_cons (ha : DE X fl Wx e ma) (hr : DA X fl Wx es mA) (hs : starEach (e :: es) X.env = (false, eval e X.env) :: starEach es X.env := by rfl) : DA X fl Wx (e :: es) (aCons ma mA) := by
  refine pa_imp (pa_cons ha hr hs) fun σ H Q ⟨ρ, δ, st, m, en, h⟩ => ?_
  refine ⟨ρ, δ, st, m, en, (Post.bind h).monoE fun d ρ1 st1 H1 e1 m1 h1 x rx => ?_⟩
  refine ⟨ρ1, δ, st1, m1, en.ext e1, (Post.bind h1).monoE fun ds ρ2 st2 H2 e2 m2 h2 xs rxs => ?_⟩
  exact h2 ρ2 H2 .refl m2 (x :: xs) (.cons (rx.ext e2 _ _) rxs)
theorem de_tup {k} (h : DA X fl Wx es mA) : DE X fl Wx (.Tuple es k pos) (eTup mA) := by
  refine pe_imp (pe_tup h) fun σ H Q ⟨ρ, δ, st, m, en, h⟩ => ?_
  refine ⟨ρ, δ, st, m, en, (Post.bind h).monoE fun ds ρ1 st1 H1 e1 m1 h1 xs rxs => ?_⟩
  by_cases hl : ds.length ≤ sizeLine
  · rw [if_pos hl] at h1
    refine ⟨by rw [← rxs.length]; exact hl, fun p hp => ?_⟩
    have e := Ext.new (ρ := ρ1) (st := st1) (o := .tup xs) m1 hp
    refine h1 ρ1 _ e (m1.new hp) (.ref p) ?_
    simp only [R]
    exact ⟨p, xs, rfl, .inl ⟨upd_same, m1.notLive hp⟩, rxs.ext e _ _⟩
  · rw [if_neg hl] at h1
    exact False.elim h1
theorem de_lst (h : DA X fl Wx es mA) : DE X fl Wx (.List es pos) (eLst mA) := by
  refine pe_imp (pe_lst h) fun σ H Q ⟨ρ, δ, st, m, en, h⟩ => ?_
  refine ⟨ρ, δ, st, m, en, (Post.bind h).monoE fun ds ρ1 st1 H1 e1 m1 h1 xs rxs => ?_⟩
  by_cases hl : ds.length ≤ sizeLine
  · rw [if_pos hl] at h1
    refine ⟨by rw [← rxs.length]; exact hl, fun p hp => ?_⟩
    have e := Ext.new (ρ := ρ1) (st := st1) (o := .lst xs) m1 hp
    refine h1 ρ1 _ e (m1.new hp) (.ref p) ?_
    simp only [R]
    exact ⟨p, xs, rfl, upd_same, m1.notLive hp, rxs.ext e _ _⟩
  · rw [if_neg hl] at h1
    exact False.elim h1
theorem push_last {ρ : Rho} {st : Store} {a : Addr} (h : ρ.ix.length = st.length) : (ρ.snoc a).ix[st.length]? = some a := by
  simp only [Rho.snoc]
  rw [List.getElem?_append_right (by omega), h]
  simp
theorem de_new (h : DA X fl Wx es mA) : DE X fl Wx (.List es pos) (eNew mA) := by
  refine pe_imp (pe_lst h) fun σ H Q ⟨ρ, δ, st, m, en, h⟩ => ?_
  refine ⟨ρ, δ, st, m, en, (Post.bind h).monoE fun ds ρ1 st1 H1 e1 m1 h1 xs rxs => ?_⟩
  by_cases hl : ds.length ≤ sizeLine
  · rw [if_pos hl] at h1
    refine ⟨by rw [← rxs.length]; exact hl, fun p hp => ?_⟩
    have e := Ext.push (u := .lst xs) (o := .lst ds) m1 hp
    refine h1 (ρ1.snoc p) _ e (m1.push hp ⟨xs, upd_same, rxs.ext e _ _⟩) (.ref p) ?_
    simp only [R]
    exact ⟨p, rfl, push_last m1.len⟩
  · rw [if_neg hl] at h1
    exact False.elim h1
theorem de_if {c : Expr} {mt : TM} (hc : DT X fl Wx c mt) (ha : DE X fl Wx a ma) (hb : DE X fl Wx b mb) : DE X fl Wx (.IfExp c a b pos) (eIf mt ma mb) := by
  refine pe_imp (pe_ifExp hc ha hb) fun σ H Q ⟨ρ, δ, st, m, en, h⟩ => ?_
  refine ⟨ρ, δ, st, m, en, (Post.bind h).monoE fun c ρ1 st1 H1 e1 m1 h1 => ?_⟩
  cases c with
  | true => exact ⟨ρ1, δ, st1, m1, en.ext e1, h1⟩
  | false => exact ⟨ρ1, δ, st1, m1, en.ext e1, h1⟩
end
end DL
/-! DL3: tests, statements. -/
namespace DL
open PySem PySem.Spec PyProof.Rows L2

/-! ### tests -/
def asBool : D → M Bool
  | .bl b => pure b
  | _ => M.stuck
@[simp] theorem asBool_bl (b : Bool) (st : Store) : asBool (.bl b) st = .ok b st := rfl
def tOf (m : EM) : TM := fun δ => m δ >>= asBool
def tAndM (a b : TM) : TM := fun δ => a δ >>= fun c => if c = true then b δ else pure false
def tOrM (a b : TM) : TM := fun δ => a δ >>= fun c => if c = true then pure true else b δ
def tNotM (a : TM) : TM := fun δ => a δ >>= fun c => pure (!c)
def truthD (st : Store) : D → Option Bool
  | .non => some false
  | .bl b => some b
  | .int i => some (i != 0)
  | .str s => if s.length ≤ sizeLine then some ((s.length : Int) != 0) else none
  | .tup xs => some !xs.isEmpty
  | .lst xs => some !xs.isEmpty
  | .ref n => match st[n]? with
    | some (.lst xs) => some !xs.isEmpty
    | some (.dk xs) => some !xs.isEmpty
    | _ => none
  | _ => none
def liftB (o : Option Bool) : M Bool := fun st => match o with | some v => .ok v st | none => .stuck
@[simp] theorem liftB_some (v : Bool) (st : Store) : liftB (some v) st = .ok v st := rfl
def tTru (m : EM) : TM := fun δ => m δ >>= fun d st => liftB (truthD st d) st
/-- values that are bools -/
def eAnd (a b : EM) : EM := fun δ => a δ >>= fun d => asBool d >>= fun c => if c = true then b δ else pure (.bl false)
def eOr (a b : EM) : EM := fun δ => a δ >>= fun d => asBool d >>= fun c => if c = true then pure (.bl true) else b δ
def eNot (a : EM) : EM := fun δ => a δ >>= fun d => asBool d >>= fun c => pure (.bl !c)

section
variable {T : Tab} {ρ : Rho} {st : Store} {H : Hp} {σ : L2.St} {Wx : WX}
theorem Post.asBool_inv {P : Bool → Rho → Store → Hp → Prop} {d : D} (h : Post T ρ st H σ Wx P (asBool d st)) : ∃ b, d = .bl b ∧ ∀ ρ' H', Ext ρ st H ρ' st H' → Mt T ρ' st H' → P b ρ' st H' := by
  cases d with
  | bl b => exact ⟨b, rfl, h⟩
  | _ => exact False.elim h
theorem Post.asBool_bind {β : Type} {P : β → Rho → Store → Hp → Prop} {d : D} {f : Bool → M β} (h : Post T ρ st H σ Wx P ((asBool d >>= f) st)) : ∃ b, d = .bl b ∧ Post T ρ st H σ Wx P (f b st) := by
  cases d with
  | bl b => exact ⟨b, rfl, h⟩
  | _ => exact False.elim h
theorem bind_assoc' {α β γ : Type} (m : M α) (f : α → M β) (g : β → M γ) : m >>= f >>= g = m >>= fun x => f x >>= g := by
  funext st
  rw [bind_eq, bind_eq, bind_eq]
  cases m st with
  | ok a s => rfl
  | exc c d s => rfl
  | stuck => rfl
end

section
variable {X : Cx} {fl : Fls} {Wx : WX} {e a b : Expr} {es rest : List Expr} {ma mb : EM} {mt mu : TM} {mA : AM} {pos : Pos}
abbrev DW (X : Cx) (fl : Fls) (Wx : WX) (e : Expr) (m : TM) : Prop := PW X e (tDT (XT X fl) Wx m)
theorem go_bool {σ : L2.St} {H : Hp} {Q : Bool → Hp → Prop} (h : tDT (XT X fl) Wx (tOf ma) σ H Q) : tD (XT X fl) Wx ma σ H fun x H1 => ∃ k, x = .bl k ∧ Q k H1 := by
  obtain ⟨ρ, δ, st, m, en, h⟩ := h
  refine ⟨ρ, δ, st, m, en, (Post.bind h).monoE fun d ρ1 st1 H1 e1 m1 h1 x rx => ?_⟩
  obtain ⟨b, e, h2⟩ := Post.asBool_inv h1
  subst e
  exact ⟨b, R.bl_of rx, h2 ρ1 H1 .refl m1⟩
theorem dt_val (h : DE X fl Wx e ma) (he : ∀ whole, isTrue e X.env whole = (do let v ← whole; standAt e.pos; holding [v] (truthy v)) := by intro _; rfl) : DT X fl Wx e (tOf ma) :=
  pt_imp (pt_val h he) fun _ _ _ h => go_bool h
theorem dt_cmp {op : CmpOp} {r : R2} {f : Store → D → D → Option D} (ho : OpR X (compareOp op) r) (hv : V2 (XT X fl) r f) (ha : DE X fl Wx a ma) (hb : DE X fl Wx b mb) (hm : behindInMarks op b = false) : DT X fl Wx (.Compare a [op] [b] pos) (tOf (e2 f ma mb)) := by
  refine pt_imp (pt_cmpR ho ha hb hm) fun σ H Q h => ?_
  obtain ⟨ρ, δ, st, m, en, h⟩ := h
  unfold tOf at h
  refine go2 (Wx := Wx) hv ⟨ρ, δ, st, m, en, (Post.bind h).monoE fun d ρ1 st1 H1 e1 m1 h1 x rx => ?_⟩
  obtain ⟨b, e, h2⟩ := Post.asBool_inv h1
  subst e
  exact ⟨b, R.bl_of rx, h2 ρ1 H1 .refl m1⟩
theorem truth_ok {ρ : Rho} {st : Store} {H : Hp} {d : D} {x : V} {k : Bool} {T : Tab} (m : Mt T ρ st H) (r : R T ρ st H d x) (h : truthD st d = some k) : TruV T.K x H k := by
  cases d with
  | non => cases R.non_of r; simpa [truthD, TruV, eq_comm] using h
  | bl b => cases R.bl_of r; simpa [truthD, TruV, eq_comm] using h
  | int i => cases R.int_of r; simpa [truthD, TruV, eq_comm] using h
  | str s =>
    cases R.str_of r
    simp only [truthD] at h
    by_cases hl : s.length ≤ sizeLine
    · rw [if_pos hl] at h
      exact ⟨hl, (Option.some.inj h).symm⟩
    · rw [if_neg hl] at h
      cases h
  | tup ds =>
    simp only [R] at r
    obtain ⟨a, vs, e1, q, ra⟩ := r
    subst e1
    have hs : SqT T.K H a vs := q.elim (fun z => SqT.of z.1) .inr
    refine .inr (.inl ⟨vs, hs, ?_⟩)
    have e := ra.length
    rw [← Option.some.inj h]
    cases ds <;> cases vs <;> simp_all
  | lst ds =>
    simp only [R] at r
    obtain ⟨a, vs, e1, q, l, ra⟩ := r
    subst e1
    refine .inl ⟨vs, SqL.of q, ?_⟩
    have e := ra.length
    rw [← Option.some.inj h]
    cases ds <;> cases vs <;> simp_all
  | ref n =>
    simp only [R] at r
    obtain ⟨a, e1, hn⟩ := r
    subst e1
    simp only [truthD] at h
    cases q : st[n]? with
    | none => rw [q] at h; cases h
    | some o =>
      rw [q] at h
      have ho := m.obj n a o hn q
      cases o with
      | lst ds =>
        obtain ⟨vs, q2, ra⟩ := ho
        refine .inl ⟨vs, SqL.of q2, ?_⟩
        have e := ra.length
        rw [← Option.some.inj h]
        cases ds <;> cases vs <;> simp_all
      | dk ds =>
        obtain ⟨vs, q2, ra⟩ := ho
        refine .inr (.inr ⟨vs, q2, ?_⟩)
        rw [← Option.some.inj h]
        cases ds with
        | nil => simp only [RKV] at ra; rw [ra]; rfl
        | cons p r =>
          obtain ⟨x, xs, e, _⟩ := ra
          rw [e]
          rfl
      | _ => cases h
  | _ => cases h
theorem dt_tru (h : DE X fl Wx e ma) (he : ∀ whole, isTrue e X.env whole = (do let v ← whole; standAt e.pos; holding [v] (truthy v)) := by intro _; rfl) : DT X fl Wx e (tTru ma) := by
  refine pt_imp (pt_truth h he) fun σ H Q ⟨ρ, δ, st, m, en, h⟩ => ?_
  refine ⟨ρ, δ, st, m, en, (Post.bind h).monoE fun d ρ1 st1 H1 e1 m1 h1 x rx => ?_⟩
  cases q : truthD st1 d with
  | none => rw [q] at h1; exact False.elim h1
  | some k =>
    rw [q] at h1
    exact ⟨k, truth_ok m1 rx q, h1 ρ1 H1 .refl m1⟩
theorem dw_and1 (ha : DT X fl Wx a mt) : DW X fl Wx (.BoolOp .And [a] pos) mt := pw_and1 ha
theorem dw_or1 (ha : DT X fl Wx a mt) : DW X fl Wx (.BoolOp .Or [a] pos) mt := pw_or1 ha
theorem dw_and (ha : DT X fl Wx a mt) (hb : DW X fl Wx (.BoolOp .And (b :: rest) pos) mu) : DW X fl Wx (.BoolOp .And (a :: b :: rest) pos) (tAndM mt mu) := by
  refine pw_imp (pw_and ha hb) fun σ H Q ⟨ρ, δ, st, m, en, h⟩ => ?_
  refine ⟨ρ, δ, st, m, en, (Post.bind h).monoE fun c ρ1 st1 H1 e1 m1 h1 => ?_⟩
  cases c with
  | true => exact ⟨ρ1, δ, st1, m1, en.ext e1, h1⟩
  | false => exact h1 ρ1 H1 .refl m1
theorem dw_or (ha : DT X fl Wx a mt) (hb : DW X fl Wx (.BoolOp .Or (b :: rest) pos) mu) : DW X fl Wx (.BoolOp .Or (a :: b :: rest) pos) (tOrM mt mu) := by
  refine pw_imp (pw_or ha hb) fun σ H Q ⟨ρ, δ, st, m, en, h⟩ => ?_
  refine ⟨ρ, δ, st, m, en, (Post.bind h).monoE fun c ρ1 st1 H1 e1 m1 h1 => ?_⟩
  cases c with
  | true => exact h1 ρ1 H1 .refl m1
  | false => exact ⟨ρ1, δ, st1, m1, en.ext e1, h1⟩
theorem dt_w {e : Expr} (h : DW X fl Wx e mt) : DT X fl Wx e mt := PW.pt h
theorem dt_not (ha : DT X fl Wx a mt) : DT X fl Wx (.UnaryOp .Not a pos) (tNotM mt) := by
  refine pt_imp (pt_not ha) fun σ H Q ⟨ρ, δ, st, m, en, h⟩ => ?_
  refine ⟨ρ, δ, st, m, en, (Post.bind h).monoE fun c ρ1 st1 H1 e1 m1 h1 => ?_⟩
  exact h1 ρ1 H1 .refl m1
theorem de_one {op : BoolOp} (h : DE X fl Wx a ma) : DE X fl Wx (.BoolOp op [a] pos) ma := pe_one h
theorem de_and (ha : DE X fl Wx a ma) (hb : DE X fl Wx (.BoolOp .And (b :: rest) pos) mb) : DE X fl Wx (.BoolOp .And (a :: b :: rest) pos) (eAnd ma mb) := by
  refine pe_imp (pe_and ha hb) fun σ H Q ⟨ρ, δ, st, m, en, h⟩ => ?_
  refine ⟨ρ, δ, st, m, en, (Post.bind h).monoE fun c ρ1 st1 H1 e1 m1 h1 x rx => ?_⟩
  obtain ⟨k, e, h2⟩ := Post.asBool_bind h1
  subst e
  refine ⟨k, R.bl_of rx, ?_⟩
  cases k with
  | true => exact ⟨ρ1, δ, st1, m1, en.ext e1, h2⟩
  | false => exact h2 ρ1 H1 .refl m1 _ R.bl
theorem de_or (ha : DE X fl Wx a ma) (hb : DE X fl Wx (.BoolOp .Or (b :: rest) pos) mb) : DE X fl Wx (.BoolOp .Or (a :: b :: rest) pos) (eOr ma mb) := by
  refine pe_imp (pe_or ha hb) fun σ H Q ⟨ρ, δ, st, m, en, h⟩ => ?_
  refine ⟨ρ, δ, st, m, en, (Post.bind h).monoE fun c ρ1 st1 H1 e1 m1 h1 x rx => ?_⟩
  obtain ⟨k, e, h2⟩ := Post.asBool_bind h1
  subst e
  refine ⟨k, R.bl_of rx, ?_⟩
  cases k with
  | true => exact h2 ρ1 H1 .refl m1 _ R.bl
  | false => exact ⟨ρ1, δ, st1, m1, en.ext e1, h2⟩
theorem de_not (ha : DE X fl Wx a ma) : DE X fl Wx (.UnaryOp .Not a pos) (eNot ma) := by
  refine pe_imp (pe_not ha) fun σ H Q ⟨ρ, δ, st, m, en, h⟩ => ?_
  refine ⟨ρ, δ, st, m, en, (Post.bind h).monoE fun c ρ1 st1 H1 e1 m1 h1 x rx => ?_⟩
  obtain ⟨k, e, h2⟩ := Post.asBool_bind h1
  subst e
  exact ⟨k, R.bl_of rx, h2 ρ1 H1 .refl m1 _ R.bl⟩

/-! ### statements -/
def sNil : SM := fun δ => pure (.next, δ)
def sSeq (a b : SM) : SM := fun δ => a δ >>= fun p => match p.1 with
  | .next => b p.2
  | f => pure (f, p.2)
def sSet (i : Nat) (m : EM) : SM := fun δ => m δ >>= fun d => pure (.next, δ.set i (some d))
def sEx (m : EM) : SM := fun δ => m δ >>= fun _ => pure (.next, δ)
def sRet (m : EM) : SM := fun δ => m δ >>= fun d => pure (.ret d, δ)
def sRetN : SM := fun δ => pure (.ret .non, δ)
def sBrk : SM := fun δ => pure (.brk, δ)
def sCont : SM := fun δ => pure (.cont, δ)
def sIf (t : TM) (a b : SM) : SM := fun δ => t δ >>= fun c => if c = true then a δ else b δ
def sNever : SM := fun _ => M.stuck
variable {E : XK} {s : Stmt} {ss : List Stmt} {mm nn : SM}
abbrev DS (X : Cx) (fl : Fls) (E : XK) (s : Stmt) (m : SM) : Prop := PS X s (tDS (XT X fl) E m)
abbrev DSs (X : Cx) (fl : Fls) (E : XK) (s : List Stmt) (m : SM) : Prop := PSs X s (tDS (XT X fl) E m)
theorem Post.sig {α : Type} {T : Tab} {ρ : Rho} {st : Store} {H : Hp} {σ σ' : L2.St} {E : XK} {P : α → Rho → Store → Hp → Prop} {r : Res α} (h : Post T ρ st H σ (wx E) P r) : Post T ρ st H σ' (wx E) P r := by
  cases r with
  | ok v st' => exact h
  | exc c ds st' => exact h
  | stuck => exact h
theorem dss_nil : DSs X fl E [] sNil := by
  refine pss_imp pss_nil fun D σ H ⟨ρ, δ, st, m, en, h⟩ => ?_
  exact h ρ H .refl m σ en
theorem go_seq {D : Ends} {σ : L2.St} {H : Hp} (h : tDS (XT X fl) E (sSeq mm nn) D σ H) : tDS (XT X fl) E mm { D with nx := tDS (XT X fl) E nn D } σ H := by
  obtain ⟨ρ, δ, st, m, en, h⟩ := h
  refine ⟨ρ, δ, st, m, en, (Post.bind h).monoE fun p ρ1 st1 H1 e1 m1 h1 => ?_⟩
  obtain ⟨f, δ1⟩ := p
  cases f with
  | next => exact fun σ1 en1 => ⟨ρ1, δ1, st1, m1, en1, h1.sig⟩
  | ret d => exact h1 ρ1 H1 .refl m1
  | brk => exact h1 ρ1 H1 .refl m1
  | cont => exact h1 ρ1 H1 .refl m1
theorem dss_cons (h1 : DS X fl E s mm) (h2 : DSs X fl E ss nn) : DSs X fl E (s :: ss) (sSeq mm nn) := pss_imp (pss_cons h1 h2) fun _ _ _ h => go_seq h
theorem dss_one (h1 : DS X fl E s mm) : DSs X fl E [s] mm := pss_one h1
theorem EnvOk.set {T : Tab} {ρ : Rho} {st : Store} {H : Hp} {δ : DEnv} {σ : L2.St} (en : EnvOk T ρ st H δ σ) (i : Nat) {d : D} {x : V} (r : R T ρ st H d x) : EnvOk T ρ st H (δ.set i (some d)) (σ.set i (some x)) := by
  refine ⟨by simp [en.len], fun j d' h => ?_⟩
  by_cases hj : i = j
  · subst hj
    have hi : i < δ.length := by
      have := (List.getElem?_eq_some_iff.mp h).1
      simpa using this
    rw [List.getElem?_set_self hi] at h
    cases h
    exact ⟨x, List.getElem?_set_self (by rw [← en.len]; exact hi), r⟩
  · rw [List.getElem?_set_ne hj] at h
    obtain ⟨y, h1, h2⟩ := en.get j d' h
    exact ⟨y, by rw [List.getElem?_set_ne hj]; exact h1, h2⟩
theorem ds_set {i : Nat} {x : Str} {pos' : Pos} (hN : X.N.Nodup) (hi : X.N[i]? = some x) (hx : Loc X.env.scope x) (he : DE X fl (wx E) e ma) (hs : swapsWith e (some (.Name x pos')) pos.line X.env = pure false := by rfl) (hf : X.fn x = true ∨ X.env.scope.names.lookup x = some .local := by first | exact .inl rfl | exact .inr rfl | assumption) :
    DS X fl E (.Assign [.Name x pos'] e pos) (sSet i ma) := by
  refine ps_imp (ps_set hN hi hx he hs hf) fun D σ H ⟨ρ, δ, st, m, en, h⟩ => ?_
  refine ⟨ρ, δ, st, m, en, (Post.bind h).monoE fun d ρ1 st1 H1 e1 m1 h1 x rx => ?_⟩
  exact h1 ρ1 H1 .refl m1 _ ((en.ext e1).set i rx)
theorem ds_expr (he : DE X fl (wx E) e ma) (hs : swapsWith e none pos.line X.env = pure false := by rfl) : DS X fl E (.Expr e pos) (sEx ma) := by
  refine ps_imp (ps_expr he hs) fun D σ H ⟨ρ, δ, st, m, en, h⟩ => ?_
  refine ⟨ρ, δ, st, m, en, (Post.bind h).monoE fun d ρ1 st1 H1 e1 m1 h1 x rx => ?_⟩
  exact h1 ρ1 H1 .refl m1 _ (en.ext e1)
theorem ds_ret (he : DE X fl (wx E) e ma) : DS X fl E (.Return (some e) pos) (sRet ma) := by
  refine ps_imp (ps_ret he) fun D σ H ⟨ρ, δ, st, m, en, h⟩ => ?_
  refine ⟨ρ, δ, st, m, en, (Post.bind h).monoE fun d ρ1 st1 H1 e1 m1 h1 x rx => ?_⟩
  exact h1 ρ1 H1 .refl m1 x rx
theorem ds_retN : DS X fl E (.Return none pos) sRetN := by
  refine ps_imp ps_retN fun D σ H ⟨ρ, δ, st, m, en, h⟩ => ?_
  exact h ρ H .refl m .non R.non
theorem ds_pass : DS X fl E (.Pass pos) sNil := by
  refine ps_imp ps_pass fun D σ H ⟨ρ, δ, st, m, en, h⟩ => ?_
  exact h ρ H .refl m σ en
theorem ds_break : DS X fl E (.Break pos) sBrk := by
  refine ps_imp ps_break fun D σ H ⟨ρ, δ, st, m, en, h⟩ => ?_
  exact h ρ H .refl m σ en
theorem ds_cont : DS X fl E (.Continue pos) sCont := by
  refine ps_imp ps_continue fun D σ H ⟨ρ, δ, st, m, en, h⟩ => ?_
  exact h ρ H .refl m σ en
theorem ds_never : DS X fl E s sNever := ps_imp ps_never fun D σ H ⟨ρ, δ, st, m, en, h⟩ => h
theorem dss_never : DSs X fl E ss sNever := pss_imp pss_never fun D σ H ⟨ρ, δ, st, m, en, h⟩ => h
theorem ds_if {c : Expr} {aa bb : List Stmt} (hc : DT X fl (wx E) c mt) (ha : DSs X fl E aa mm) (hb : DSs X fl E bb nn) : DS X fl E (.If c aa bb pos) (sIf mt mm nn) := by
  refine ps_imp (ps_if hc ha hb) fun D σ H ⟨ρ, δ, st, m, en, h⟩ => ?_
  refine ⟨ρ, δ, st, m, en, (Post.bind h).monoE fun c ρ1 st1 H1 e1 m1 h1 => ?_⟩
  cases c with
  | true => exact ⟨ρ1, δ, st1, m1, en.ext e1, h1⟩
  | false => exact ⟨ρ1, δ, st1, m1, en.ext e1, h1⟩
end
end DL
/-! DL4: defs and their calls; loops; comprehensions. -/
namespace DL
open PySem PySem.Spec PyProof.Rows L2

/-! ### defs -/
/-- the promise: it computes m -/
def spD (T : Tab) (n : Nat) (m : List D → M D) : Sp := fun vs H Q E => ∃ ρ st ds, Mt T ρ st H ∧ RAll T ρ st H ds vs ∧ ds.length = n ∧ Post T ρ st H [] (wx E) (fun v ρ' st' H' => ∀ x, R T ρ' st' H' v x → Q x H') (m ds st)
def outOf (p : Fl × DEnv) : M D := match p.1 with
  | .ret d => pure d
  | .next => pure .non
  | _ => M.stuck
@[simp] theorem outOf_ret (d : D) (δ : DEnv) (st : Store) : outOf (.ret d, δ) st = .ok d st := rfl
@[simp] theorem outOf_next (δ : DEnv) (st : Store) : outOf (.next, δ) st = .ok .non st := rfl
def startD (N : Nat) (ds : List D) : DEnv := ds.map some ++ List.replicate (N - ds.length) none
def fn (N : Nat) (body : SM) : List D → M D := fun ds => body (startD N ds) >>= outOf
def eCall (n : Nat) (m : List D → M D) (a : AM) : EM := fun δ => a δ >>= fun ds => if ds.length = n then m ds else M.stuck

/-- room, and nothing is being shown -/
structure RoomG (k : Nat) (A : Around) : Prop where
  rm : Room k A
  gd : A.guards = some []
theorem RoomG.mono {j k : Nat} {A : Around} (r : RoomG k A) (h : j ≤ k) : RoomG j A := ⟨r.rm.mono h, r.gd⟩
/-- a def keeps the promise sp wherever nothing is being shown -/
structure FnG (P : Program) (w : World) (K : PySem.W.Frag) (mg : Str → Option Value) (base : Heap) (k : Nat) (f : Addr) (fd : FuncData) (ps : List Str) (sp : Sp) : Prop where
  len : ∀ vs H Q E, sp vs H Q E → vs.length = ps.length
  run : ∀ (A : Around) (outer : List Env) (s : Shared) (H : Hp) (args : Args) (us : List Value) (vs : List V) (Q : VK) (E : XK), RoomG k A → Env0 P w K mg base A outer s H → BindsTo s fd args (ps.zip us) → Vals vs us → sp vs H Q E →
    codeAny (model P w) A (.call (.ref f) args) (CR (L2.CX P w) outer P w H s Q E) s
section
variable {P : Program} {w : World} {K : PySem.W.Frag} {mg : Str → Option Value} {base : Heap}
theorem FnG.mono {j k : Nat} {f : Addr} {fd : FuncData} {ps : List Str} {sp : Sp} (F : FnG P w K mg base j f fd ps sp) (h : j ≤ k) : FnG P w K mg base k f fd ps sp :=
  ⟨F.len, fun A outer s H args us vs Q E hr => F.run A outer s H args us vs Q E (hr.mono h)⟩
theorem fnG_of {k : Nat} {x qual : Str} {st : Stmt} {f : Addr} {fd : FuncData} {N ps : List Str} {sp : Sp} (F : Fun K x qual st f fd) (S : FnScope N ps (defScope st)) (len : ∀ vs H Q E, sp vs H Q E → vs.length = ps.length)
    (hbody : ∀ (cdv : Value) (A : Around) (outer : List Env) (s : Shared) (H : Hp) (vs : List V) (Q : VK) (E : XK), RoomG k (A.deeper (envOfC qual (defScope st) s.heap.objs.size f cdv)) → sp vs H Q E →
      ∃ t, PSs (cxOf (L2.CX P w) P w K mg base N qual (defScope st) f cdv A outer s H E) (defBody st) t ∧ t { nx := fun _ H' => Q .non H', rt := Q } (L2.start N vs) H) : FnG P w K mg base (k + 1) f fd ps sp := by
  obtain ⟨oc, od, kV, doc, pm, an, cdv, ct, osl, rfl, lk, hcd⟩ := F.ex
  exact ⟨len, fun A outer s H args us vs Q E hr e0 hb r hsp => LamX.run_ofS lk hcd S hr.rm e0 hb r (len _ _ _ _ hsp) fun hr' => hbody cdv A outer s H vs Q E ⟨hr', hr.gd⟩ hsp⟩
end
/-- the callee runs, what is raised is wished for at the caller's slots -/
theorem run_fnG {X : Cx} {k : Nat} {f : Addr} {fd : FuncData} {ps : List Str} {sp : Sp} {E : XK} {pins : List (Addr × Obj)} {σ : L2.St} {H : Hp} {s : Shared} {Q : VK} {us : List Value} {vs : List V}
    (F : FnG X.prog X.w X.K X.mg X.base k f fd ps sp) (hr : RoomG k X.A) (hb : Binds X.K fd ps []) (hx : PassesAt (L2.CX X.prog X.w) X σ E)
    (I : Inv X pins σ H s) (r : Vals vs us) (h : sp vs H Q E) : wpAny (model X.prog X.w) X.A (call (.ref f) us) (EP X pins σ Q) X.xe s := by
  have hl : (us ++ []).length = ps.length := by rw [List.append_nil, ← r.length]; exact F.len _ _ _ _ h
  have hb' := hb s us I.kIn hl
  rw [List.append_nil] at hb'
  refine wpAny_call (codeAny_mono (F.run X.A X.stack s H ⟨us, []⟩ us vs Q E hr I.env0 hb' r h) fun r s' hq => ?_)
  match r, hq with
  | .error e, hq => exact hx pins H s e s' I hq
  | .ok (.ret u), hq => exact I.after hq
  | .ok .next, hq => exact False.elim hq
  | .ok .brk, hq => exact False.elim hq
  | .ok .cont, hq => exact False.elim hq

/-- a def of the text that computes m -/
structure Fd (P : Program) (w : World) (K : PySem.W.Frag) (mg : Str → Option Value) (base : Heap) (fl : Fls) (k : Nat) (x : Str) (n : Nat) (m : List D → M D) : Prop where
  ex : ∃ (f : Addr) (fd : FuncData) (ps : List Str), FnG P w K mg base k f fd ps (spD ⟨K, mg, fl⟩ n m) ∧ mg x = some (.ref f) ∧ PySem.W.keepIn K (.ref f) = true ∧ Binds K fd ps []

theorem start_ok {T : Tab} {ρ : Rho} {st : Store} {H : Hp} {ds : List D} {vs : List V} {N : List Str} (r : RAll T ρ st H ds vs) : EnvOk T ρ st H (startD N.length ds) (L2.start N vs) := by
  have hl := r.length
  refine ⟨by simp [startD, L2.start, hl], fun i d h => ?_⟩
  unfold startD at h
  have hi : i < ds.length := by
    by_cases hi : i < ds.length
    · exact hi
    · rw [List.getElem?_append_right (by simpa using hi), List.getElem?_replicate] at h
      split at h <;> cases h
  rw [List.getElem?_append_left (by simpa using hi), List.getElem?_map] at h
  have h' : ds[i]? = some d := by
    cases e : ds[i]? with
    | none => rw [e] at h; cases h
    | some a => rw [e] at h; cases h; rfl
  obtain ⟨x, e1, e2⟩ := r.get h'
  refine ⟨x, ?_, e2⟩
  unfold L2.start
  rw [List.getElem?_append_left (by rw [List.length_map, ← hl]; exact hi), List.getElem?_map, e1]
  rfl
section
variable {P : Program} {w : World} {K : PySem.W.Frag} {mg : Str → Option Value} {base : Heap} {fl : Fls} {k : Nat}
theorem fnok_of {x qual : Str} {st : Stmt} {f : Addr} {fd : FuncData} {N ps : List Str} {mm : SM} (F : Fun K x qual st f fd) (S : FnScope N ps (defScope st))
    (hb : ∀ (cdv : Value) (A : Around) (outer : List Env) (s : Shared) (H : Hp) (E : XK), RoomG k (A.deeper (envOfC qual (defScope st) s.heap.objs.size f cdv)) → DSs (cxOf (L2.CX P w) P w K mg base N qual (defScope st) f cdv A outer s H E) fl E (defBody st) mm) :
    FnG P w K mg base (k + 1) f fd ps (spD ⟨K, mg, fl⟩ ps.length (fn N.length mm)) := by
  refine fnG_of F S (fun vs H Q E h => ?_) fun cdv A outer s H vs Q E hr hsp => ⟨_, hb cdv A outer s H E hr, ?_⟩
  · obtain ⟨ρ, st, ds, m, r, hl, _⟩ := h
    rw [← r.length]
    exact hl
  · obtain ⟨ρ, st, ds, m, r, hl, h⟩ := hsp
    refine ⟨ρ, _, st, m, start_ok r, (Post.bind h).sig.monoE fun p ρ1 st1 H1 e1 m1 h1 => ?_⟩
    obtain ⟨fl, δ⟩ := p
    cases fl with
    | ret d => exact fun x rx => h1 ρ1 H1 .refl m1 x rx
    | next => exact fun σ' _ => h1 ρ1 H1 .refl m1 .non R.non
    | brk => exact fun σ' _ => h1
    | cont => exact fun σ' _ => h1
theorem fd_of {x : Str} {st : Stmt} {f : Addr} {fd : FuncData} {N ps : List Str} {mm : SM} (F : Fun K x x st f fd) (S : FnScope N ps (defScope st)) (hm : mg x = some (.ref f)) (hbd : Binds K fd ps [])
    (hb : ∀ (cdv : Value) (A : Around) (outer : List Env) (s : Shared) (H : Hp) (E : XK), RoomG k (A.deeper (envOfC x (defScope st) s.heap.objs.size f cdv)) → DSs (cxOf (L2.CX P w) P w K mg base N x (defScope st) f cdv A outer s H E) fl E (defBody st) mm) :
    Fd P w K mg base fl (k + 1) x ps.length (fn N.length mm) := ⟨⟨f, fd, ps, fnok_of F S hb, hm, F.kp, hbd⟩⟩
theorem Fd.mono {j : Nat} {x : Str} {n : Nat} {m : List D → M D} (F : Fd P w K mg base fl j x n m) (h : j ≤ k) : Fd P w K mg base fl k x n m := by
  obtain ⟨f, fd, ps, a, b⟩ := F.ex
  exact ⟨⟨f, fd, ps, a.mono h, b⟩⟩
end
section
variable {X : Cx} {fl : Fls} {Wx : WX} {e : Expr} {es : List Expr} {mA : AM} {p pos : Pos} {k n : Nat} {x : Str} {m : List D → M D}
theorem go_call {σ : L2.St} {H : Hp} {Q : VK} (h : tD (XT X fl) Wx (eCall n m mA) σ H Q) : tDA (XT X fl) Wx mA σ H fun vs H1 => spD (XT X fl) n m vs H1 Q (WE Wx σ) := by
  obtain ⟨ρ, δ, st, mt, en, h⟩ := h
  refine ⟨ρ, δ, st, mt, en, (Post.bind h).monoE fun ds ρ1 st1 H1 e1 m1 h1 xs rxs => ?_⟩
  by_cases hl : ds.length = n
  · rw [if_pos hl] at h1
    refine ⟨ρ1, st1, ds, m1, rxs, hl, ?_⟩
    cases q : m ds st1 with
    | ok v st' => rw [q] at h1; exact h1
    | exc c d st' => rw [q] at h1; exact h1
    | stuck => rw [q] at h1; exact h1
  · rw [if_neg hl] at h1
    exact False.elim h1
theorem de_call (F : Fd X.prog X.w X.K X.mg X.base fl k x n m) (hr : RoomG k X.A) (tk : Takes X Wx) (hg : Gl X x) (ha : DA X fl Wx (e :: es) mA) (hdb : (x == ("__debug__" : Str)) = false := by decide)
    (he : starEach (e :: es) X.env = (false, eval e X.env) :: starEach es X.env := by rfl) (hpl : (backTo pos (starEach es X.env)).any (·.1) = false := by rfl) : DE X fl Wx (.Call (.Name x p) (e :: es) [] pos) (eCall n m mA) := by
  obtain ⟨f, fd, ps, F, hm, hk, hb⟩ := F.ex
  refine ⟨fun pins s σ H Q I h => ?_⟩
  have h' := go_call h
  refine wpAny_Call_Name_kw (ld_glob I hg hm ?_ hdb)
  refine PySem.W.callWith_K (h₀ := X.base) I.ok.mod.kin hk (thn (ha.run pos pins s σ H _ I h') fun us s1 ⟨vs, H1, I1, r, q⟩ => ⟨I1.kIn, ?_⟩) he hpl
  exact run_fnG F hr hb (passAt tk σ) I1 r q
theorem de_call0 (F : Fd X.prog X.w X.K X.mg X.base fl k x n m) (hr : RoomG k X.A) (tk : Takes X Wx) (hg : Gl X x) (hdb : (x == ("__debug__" : Str)) = false := by decide) : DE X fl Wx (.Call (.Name x p) [] [] pos) (eCall n m aNil) := by
  obtain ⟨f, fd, ps, F, hm, hk, hb⟩ := F.ex
  refine ⟨fun pins s σ H Q I h => ?_⟩
  obtain ⟨ρ, δ, st, mt, en, h⟩ := go_call h
  have q := h ρ H .refl mt [] RAll.nil
  refine wpAny_Call_Name_kw (ld_glob I hg hm ?_ hdb)
  exact PySem.W.callWith_K0 I.kIn hk (run_fnG (us := []) F hr hb (passAt tk σ) I .nil q)
end

/-! ### targets -/
abbrev GM := D → DEnv → Option DEnv
abbrev GMs := List D → DEnv → Option DEnv
def gSet (i : Nat) : GM := fun d δ => some (δ.set i (some d))
def gsNil : GMs := fun ds δ => match ds with | [] => some δ | _ => none
def gsCons (g : GM) (r : GMs) : GMs := fun ds δ => match ds with | [] => none | d :: ds => (g d δ).bind fun δ1 => r ds δ1
def gTupD (n : Nat) (g : GMs) : GM := fun d δ => match d with
  | .tup ds => if ds.length = n then g ds δ else none
  | _ => none
section
variable (T : Tab) (vs : List Nat)
def tDG (g : GM) : TG := fun x σ H Q => ∃ ρ δ st d δ', Mt T ρ st H ∧ EnvOk T ρ st H δ σ ∧ R T ρ st H d x ∧ g d δ = some δ' ∧ ∀ σ', wipe σ' vs = wipe σ vs → EnvOk T ρ st H δ' σ' → Q σ' H
def tDGs (g : GMs) : TGs := fun xs σ H Q => ∃ ρ δ st ds δ', Mt T ρ st H ∧ EnvOk T ρ st H δ σ ∧ RAll T ρ st H ds xs ∧ g ds δ = some δ' ∧ ∀ σ', wipe σ' vs = wipe σ vs → EnvOk T ρ st H δ' σ' → Q σ' H
end
theorem wipe_set {σ : L2.St} {i : Nat} {x : Option V} : ∀ {vs : List Nat}, i ∈ vs → wipe (σ.set i x) vs = wipe σ vs
  | [], h => by simp at h
  | v :: vs, h => by
    show (wipe (σ.set i x) vs).set v none = (wipe σ vs).set v none
    by_cases hm : i ∈ vs
    · rw [wipe_set hm]
    · have e : i = v := by
        rcases List.mem_cons.mp h with e | e
        · exact e
        · exact absurd e hm
      subst e
      have k : ∀ (l : List Nat), i ∉ l → (wipe (σ.set i x) l).set i none = (wipe σ l).set i none := by
        intro l
        induction l with
        | nil => intro _; show (σ.set i x).set i none = σ.set i none; rw [List.set_set]
        | cons u l ih =>
          intro hl
          have n1 : i ≠ u := fun e => hl (by rw [e]; exact List.mem_cons_self)
          have n2 : i ∉ l := fun e => hl (List.mem_cons_of_mem _ e)
          show ((wipe (σ.set i x) l).set u none).set i none = ((wipe σ l).set u none).set i none
          rw [List.set_comm _ _ (Ne.symm n1), ih n2, List.set_comm _ _ (Ne.symm n1)]
      exact k vs hm
section
variable {X : Cx} {fl : Fls} {vs : List Nat} {tg : Expr} {tgs : List Expr} {g : GM} {gs : GMs} {pos : Pos}
abbrev DG (X : Cx) (fl : Fls) (vs : List Nat) (e : Expr) (g : GM) : Prop := PG X e (tDG (XT X fl) vs g)
abbrev DGs (X : Cx) (fl : Fls) (vs : List Nat) (e : List Expr) (g : GMs) : Prop := PGs X e (tDGs (XT X fl) vs g)
theorem pg_imp {t t' : TG} (h : PG X tg t) (i : ∀ v σ H Q, t' v σ H Q → t v σ H Q) : PG X tg t' := ⟨fun pins s σ H v u Q I r q => h.run pins s σ H v u Q I r (i v σ H Q q)⟩
theorem pgs_imp {t t' : TGs} (h : PGs X tgs t) (i : ∀ v σ H Q, t' v σ H Q → t v σ H Q) : PGs X tgs t' := ⟨fun pins s σ H v u Q I r q => h.run pins s σ H v u Q I r (i v σ H Q q)⟩
theorem dg_name {i : Nat} {x : Str} (hN : X.N.Nodup) (hi : X.N[i]? = some x) (hx : Loc X.env.scope x) (hv : i ∈ vs) (hf : X.fn x = true ∨ X.env.scope.names.lookup x = some .local := by first | exact .inl rfl | exact .inr rfl | assumption) : DG X fl vs (.Name x pos) (gSet i) := by
  refine pg_imp (pg_name hN hi hx hf) fun v σ H Q ⟨ρ, δ, st, d, δ', m, en, r, hg, h⟩ => ?_
  obtain rfl : δ.set i (some d) = δ' := Option.some.inj hg
  exact h _ (wipe_set hv) (en.set i r)
theorem dgs_nil : DGs X fl vs [] gsNil := by
  refine pgs_imp pgs_nil fun v σ H Q ⟨ρ, δ, st, ds, δ', m, en, r, hg, h⟩ => ?_
  cases ds with
  | nil =>
    simp only [RAll] at r
    subst r
    obtain rfl : δ = δ' := Option.some.inj hg
    exact ⟨rfl, h σ rfl en⟩
  | cons d ds => cases hg
theorem dgs_cons (h1 : DG X fl vs tg g) (h2 : DGs X fl vs tgs gs) (hs : (assignEach (tg :: tgs) X.env).map (·.2) = assign tg X.env :: (assignEach tgs X.env).map (·.2) := by rfl) : DGs X fl vs (tg :: tgs) (gsCons g gs) := by
  refine pgs_imp (pgs_cons h1 h2 hs) fun v σ H Q ⟨ρ, δ, st, ds, δ', m, en, r, hg, h⟩ => ?_
  cases ds with
  | nil => cases hg
  | cons d ds =>
    simp only [RAll] at r
    obtain ⟨x, xs, e, rx, rxs⟩ := r
    simp only [gsCons] at hg
    cases q : g d δ with
    | none => rw [q] at hg; cases hg
    | some δ1 =>
      rw [q] at hg
      exact ⟨x, xs, e, ρ, δ, st, d, δ1, m, en, rx, q, fun σ1 hw en1 => ⟨ρ, δ1, st, ds, δ', m, en1, rxs, hg, fun σ2 hw2 en2 => h σ2 (hw2.trans hw) en2⟩⟩
theorem dg_tup {k n : Nat} (hc : X.calm = true) (h : DGs X fl vs tgs gs) (hn : (assignEach tgs X.env).length = n := by rfl) (hst : (assignEach tgs X.env).findIdx? (·.1) = none := by rfl) : DG X fl vs (.Tuple tgs k pos) (gTupD n gs) := by
  refine pg_imp (pg_tup hc h hn hst) fun v σ H Q ⟨ρ, δ, st, d, δ', m, en, r, hg, h⟩ => ?_
  cases d with
  | tup ds =>
    simp only [R] at r
    obtain ⟨a, xs, e, q, rxs⟩ := r
    simp only [gTupD] at hg
    by_cases hl : ds.length = n
    · rw [if_pos hl] at hg
      exact ⟨a, xs, e, q.elim (fun z => SqT.of z.1) .inr, by rw [← rxs.length]; exact hl, ρ, δ, st, ds, δ', m, en, rxs, hg, h⟩
    · rw [if_neg hl] at hg
      cases hg
  | _ => cases hg
end

/-! ### what is walked -/
abbrev IM := DEnv → M (List D × Option Nat)
open Classical in
/-- the list of the store that is walked is as it was -/
noncomputable def chk {α : Type} (gd : Option Nat) (all : List D) (m : M α) : M α := fun st => match gd with
  | none => m st
  | some n => if st[n]? = some (.lst all) then m st else .stuck
@[simp] theorem chk_none {α : Type} (all : List D) (m : M α) (st : Store) : chk none all m st = m st := rfl
def GdOk (gd : Option Nat) (all : List D) (st : Store) : Prop := ∀ n, gd = some n → st[n]? = some (.lst all)
theorem Post.chk_inv {α : Type} {T : Tab} {ρ : Rho} {st : Store} {H : Hp} {σ : L2.St} {Wx : WX} {P : α → Rho → Store → Hp → Prop} {gd : Option Nat} {all : List D} {m : M α} (h : Post T ρ st H σ Wx P (chk gd all m st)) : GdOk gd all st ∧ Post T ρ st H σ Wx P (m st) := by
  cases gd with
  | none => exact ⟨fun n e => (by cases e), h⟩
  | some n =>
    unfold chk at h
    dsimp only at h
    by_cases e : st[n]? = some (.lst all)
    · rw [if_pos e] at h
      exact ⟨fun k q => by cases q; exact e, h⟩
    · rw [if_neg e] at h
      exact False.elim h
/-- the iterator J tells ds, whatever is done meanwhile -/
structure JOk (T : Tab) (ρ : Rho) (st : Store) (H : Hp) (J : It) (ds : List D) (gd : Option Nat) : Prop where
  go : ∀ ρ2 st2 H2, Ext ρ st H ρ2 st2 H2 → Mt T ρ2 st2 H2 → GdOk gd ds st2 → ∀ i d, ds[i]? = some d → J.go i H2 ∧ ∀ x H3, J.yld i H2 x H3 → Ext ρ2 st2 H2 ρ2 st2 H3 ∧ Mt T ρ2 st2 H3 ∧ R T ρ2 st2 H3 d x
  stop : ∀ ρ2 st2 H2, Ext ρ st H ρ2 st2 H2 → Mt T ρ2 st2 H2 → GdOk gd ds st2 → ∀ i, ds.length ≤ i → J.stop i H2
def tDI (T : Tab) (Wx : WX) (m : IM) : TI := fun σ H Rr => At T σ H fun ρ δ st => Post T ρ st H σ Wx (fun p ρ1 st1 H1 => ∀ J, JOk T ρ1 st1 H1 J p.1 p.2 → Rr J H1) (m δ st)
abbrev DI (X : Cx) (fl : Fls) (Wx : WX) (tg e : Expr) (m : IM) : Prop := PI X tg e (tDI (XT X fl) Wx m)
theorem pi_imp {X : Cx} {tg e : Expr} {t t' : TI} (h : PI X tg e t) (i : ∀ σ H Q, t' σ H Q → t σ H Q) : PI X tg e t' := ⟨fun pins s σ H Q I q => h.run pins s σ H Q I (i σ H Q q)⟩

/-! ### for -/
noncomputable def forL (gd : Option Nat) (all : List D) (g : GM) (body : SM) : List D → DEnv → M (Fl × DEnv)
  | [], δ => chk gd all (pure (.next, δ))
  | d :: ds, δ => chk gd all (match g d δ with
    | none => M.stuck
    | some δ1 => body δ1 >>= fun p => match p.1 with
      | .next => forL gd all g body ds p.2
      | .cont => forL gd all g body ds p.2
      | .brk => pure (.next, p.2)
      | .ret v => pure (.ret v, p.2))
noncomputable def sFor (it : IM) (g : GM) (body : SM) : SM := fun δ => it δ >>= fun p => forL p.2 p.1 g body p.1 δ
section
variable {X : Cx} {fl : Fls} {E : XK} {vs : List Nat} {tg iter : Expr} {body : List Stmt} {g : GM} {mi : IM} {mb : SM} {pos : Pos}
theorem ds_for (hp : PassesOwn (model X.prog X.w) X.A X.env X.xe) (hc : X.calm = true) (hi : DI X fl (wx E) tg iter mi) (hg : DG X fl vs tg g) (hb : DSs X fl E body mb)
    (hs : ∀ x, foldedSetIterable iter X.env x = pure x := by intro _; rfl) : DS X fl E (.For tg iter body [] pos) (sFor mi g mb) := by
  refine ps_imp (ps_for hp hc hi hg hb hs) fun D σ H ⟨ρ, δ, st, m, en, h⟩ => ?_
  refine ⟨ρ, δ, st, m, en, (Post.bind h).monoE fun p ρ1 st1 H1 e1 m1 h1 J jo => ?_⟩
  obtain ⟨ds, gd⟩ := p
  refine ⟨fun i mm σ2 H2 => mm = ds.length - i ∧ i ≤ ds.length ∧ ∃ ρ2 δ2 st2, Ext ρ1 st1 H1 ρ2 st2 H2 ∧ Mt (XT X fl) ρ2 st2 H2 ∧ EnvOk (XT X fl) ρ2 st2 H2 δ2 σ2 ∧ Post (XT X fl) ρ2 st2 H2 σ2 (wx E) (FlP (XT X fl) D) (forL gd ds g mb (ds.drop i) δ2 st2),
    ⟨ds.length, rfl, Nat.zero_le _, ρ1, δ, st1, .refl, m1, en.ext e1, h1⟩, ?_⟩
  rintro i mm σ2 H2 ⟨rfl, hi, ρ2, δ2, st2, e2, m2, en2, h2⟩
  by_cases hlt : i < ds.length
  · have hd : ds.drop i = ds[i] :: ds.drop (i + 1) := List.drop_eq_getElem_cons hlt
    rw [hd] at h2
    obtain ⟨gk, h3⟩ := Post.chk_inv h2
    obtain ⟨go, yl⟩ := jo.go ρ2 st2 H2 e2 m2 gk i ds[i] (List.getElem?_eq_getElem hlt)
    refine .inr ⟨go, fun σ' H' => ∃ ρ2 δ2 st2, Ext ρ1 st1 H1 ρ2 st2 H' ∧ Mt (XT X fl) ρ2 st2 H' ∧ EnvOk (XT X fl) ρ2 st2 H' δ2 σ' ∧ Post (XT X fl) ρ2 st2 H' σ' (wx E) (FlP (XT X fl) D) (forL gd ds g mb (ds.drop (i + 1)) δ2 st2),
      fun σ' H' ⟨ρ3, δ3, st3, q⟩ => ⟨ds.length - (i + 1), by omega, rfl, hlt, ρ3, δ3, st3, q⟩, fun x H3 y => ?_⟩
    obtain ⟨e3, m3, r3⟩ := yl x H3 y
    cases q : g ds[i] δ2 with
    | none => rw [q] at h3; exact False.elim h3
    | some δ3 =>
      rw [q] at h3
      refine ⟨ρ2, δ2, st2, ds[i], δ3, m3, en2.ext e3, r3, q, fun σ3 _ en3 => ?_⟩
      refine ⟨ρ2, δ3, st2, m3, en3, (Post.bind (Post.ext h3 e3)).sig.monoE fun p ρ4 st4 H4 e4 m4 h4 => ?_⟩
      obtain ⟨f, δ4⟩ := p
      have e14 : Ext ρ1 st1 H1 ρ4 st4 H4 := (e2.trans e3).trans e4
      cases f with
      | next => exact fun σ4 en4 => ⟨ρ4, δ4, st4, e14, m4, en4, h4.sig⟩
      | cont => exact fun σ4 en4 => ⟨ρ4, δ4, st4, e14, m4, en4, h4.sig⟩
      | brk => exact h4 ρ4 H4 .refl m4
      | ret v => exact h4 ρ4 H4 .refl m4
  · have e : i = ds.length := by omega
    subst e
    rw [List.drop_length] at h2
    obtain ⟨gk, h3⟩ := Post.chk_inv h2
    exact .inl ⟨jo.stop ρ2 st2 H2 e2 m2 gk _ (Nat.le_refl _), h3 ρ2 H2 .refl m2 σ2 en2⟩
end

/-! ### comprehensions -/
def wipeD (δ : DEnv) : List Nat → DEnv
  | [] => δ
  | v :: vs => (wipeD δ vs).set v none
def tYesM : TM := fun _ => pure true
/-- what raises is not followed -/
def nox {α : Type} (m : M α) : M α := fun st => match m st with
  | .exc _ _ _ => .stuck
  | r => r
noncomputable def compL (gd : Option Nat) (all : List D) (g : GM) (t : TM) (e : EM) (δ : DEnv) : List D → M (List D)
  | [] => chk gd all (pure [])
  | d :: ds => chk gd all (match g d δ with
    | none => M.stuck
    | some δ1 => t δ1 >>= fun b => if b = true then e δ1 >>= fun y => compL gd all g t e δ ds >>= fun ys => pure (y :: ys) else compL gd all g t e δ ds)
noncomputable def aComp (vs : List Nat) (it : IM) (g : GM) (t : TM) (e : EM) : AM := fun δ => it δ >>= fun p => if p.1.length ≤ sizeLine then nox (compL p.2 p.1 g t e (wipeD δ vs) p.1) else M.stuck
noncomputable def eComp (vs : List Nat) (it : IM) (g : GM) (t : TM) (e : EM) : EM := fun δ => aComp vs it g t e δ >>= fun ds => pure (.lst ds)
/-- made into a list of the store -/
noncomputable def eCompS (vs : List Nat) (it : IM) (g : GM) (t : TM) (e : EM) : EM := fun δ => aComp vs it g t e δ >>= fun ds st => .ok (.ref st.length) (st ++ [.lst ds])
theorem EnvOk.unset {T : Tab} {ρ : Rho} {st : Store} {H : Hp} {δ : DEnv} {σ : L2.St} (en : EnvOk T ρ st H δ σ) (i : Nat) : EnvOk T ρ st H (δ.set i none) (σ.set i none) := by
  refine ⟨by simp [en.len], fun j d' h => ?_⟩
  by_cases hj : i = j
  · subst hj
    have hi : i < δ.length := by
      have := (List.getElem?_eq_some_iff.mp h).1
      simpa using this
    rw [List.getElem?_set_self hi] at h
    cases h
  · rw [List.getElem?_set_ne hj] at h
    obtain ⟨y, h1, h2⟩ := en.get j d' h
    exact ⟨y, by rw [List.getElem?_set_ne hj]; exact h1, h2⟩
theorem EnvOk.wipe {T : Tab} {ρ : Rho} {st : Store} {H : Hp} {δ : DEnv} {σ : L2.St} (en : EnvOk T ρ st H δ σ) : ∀ vs : List Nat, EnvOk T ρ st H (wipeD δ vs) (L2.wipe σ vs)
  | [] => en
  | v :: vs => (EnvOk.wipe en vs).unset v
/-- what is being made is told to no one -/
abbrev Rho.hid (ρ : Rho) (D : Addr) : Rho := ⟨ρ.ix, fun a => ρ.pv a ∨ a = D⟩
abbrev Rho.unh (ρ : Rho) (pv : Addr → Prop) : Rho := ⟨ρ.ix, pv⟩
section
variable {T : Tab} {ρ ρ1 ρ2 : Rho} {st st1 st2 : Store} {H H1 H2 : Hp} {p : Addr} {o : HO}
theorem Live.hid {a : Addr} : Live (ρ.hid p) st a ↔ (Live ρ st a ∨ a = p) := by
  unfold Live
  constructor
  · rintro (h | h | h)
    · exact .inl (.inl h)
    · exact .inl (.inr h)
    · exact .inr h
  · rintro ((h | h) | h)
    · exact .inl h
    · exact .inr (.inl h)
    · exact .inr (.inr h)
theorem Ext.hide (m : Mt T ρ st H) (h : H p = none) : Ext ρ st H (ρ.hid p) st (upd H p o) :=
  ⟨fun _ _ k => k, fun _ k => .inl k, fun a l => upd_ne (m.pne h l), fun a u q _ l z => (Live.hid.mp z).elim l (ne_of_none q h), fun a u q _ _ => by rw [upd_ne (ne_of_none q h)]; exact q, fun _ _ _ _ k => k⟩
theorem Mt.hide (m : Mt T ρ st H) (h : H p = none) : Mt T (ρ.hid p) st (upd H p o) := by
  refine ⟨m.len, m.nd, fun a ha => ?_, fun a ha => ?_, fun a ha => ?_, fun i a so h1 h2 => ?_⟩
  · obtain ⟨u, q⟩ := m.trk a ha
    exact ⟨u, by rw [upd_ne (ne_of_none q h)]; exact q⟩
  · rcases ha with ha | ha
    · obtain ⟨u, q⟩ := m.ptr a ha
      exact ⟨u, by rw [upd_ne (ne_of_none q h)]; exact q⟩
    · exact ⟨o, by rw [ha, upd_same]⟩
  · rcases ha with ha | ha
    · exact m.dj a ha
    · rw [ha]
      exact m.nin h
  · by_cases hd : so = .dead
    · subst hd
      trivial
    · obtain ⟨u, q⟩ := m.live (.inl ⟨i, so, h1, h2, hd⟩)
      exact (m.obj i a so h1 h2).ext (Ext.hide m h) (upd_ne (ne_of_none q h))
theorem Tr.chg (hp : ρ.pv p) : Tr ρ st H ρ st (upd H p o) := ⟨fun _ _ h => h, fun _ _ _ _ l => l, fun a u q _ l => by rw [upd_ne (fun z => l (by rw [z]; exact .inr hp))]; exact q, fun _ _ _ _ _ n => n⟩
theorem R.chg (hp : ρ.pv p) (d : D) (x : V) (h : R T ρ st H d x) : R T ρ st (upd H p o) d x := R.tr (Tr.chg hp) d x h
theorem RAll.chg (hp : ρ.pv p) (ds : List D) (vs : List V) (h : RAll T ρ st H ds vs) : RAll T ρ st (upd H p o) ds vs := RAll.tr (Tr.chg hp) ds vs h
theorem RKV.chg {κ : Type} (hp : ρ.pv p) (ds : List (κ × D)) (vs : List (κ × V)) (h : RKV T ρ st H ds vs) : RKV T ρ st (upd H p o) ds vs := RKV.tr (Tr.chg hp) ds vs h
theorem EnvOk.chg {δ : DEnv} {σ : L2.St} (hp : ρ.pv p) (en : EnvOk T ρ st H δ σ) : EnvOk T ρ st (upd H p o) δ σ :=
  ⟨en.len, fun i d k => let ⟨x, k1, k2⟩ := en.get i d k; ⟨x, k1, k2.chg hp d x⟩⟩
theorem Mt.chg (m : Mt T ρ st H) (hp : ρ.pv p) : Mt T ρ st (upd H p o) := by
  have hn := m.dj p hp
  refine ⟨m.len, m.nd, fun a ha => ?_, fun a ha => ?_, m.dj, fun i a so h1 h2 => ?_⟩
  · obtain ⟨u, q⟩ := m.trk a ha
    exact ⟨u, by rw [upd_ne (fun z => hn (by rw [← z]; exact ha))]; exact q⟩
  · by_cases z : a = p
    · exact ⟨o, by rw [z, upd_same]⟩
    · obtain ⟨u, q⟩ := m.ptr a ha
      exact ⟨u, by rw [upd_ne z]; exact q⟩
  · have q := m.obj i a so h1 h2
    have ne : a ≠ p := fun z => hn (by rw [← z]; exact List.mem_of_getElem? h1)
    exact RObj.tr (Tr.chg hp) q (upd_ne ne)
theorem Ext.chg (m : Mt T ρ st H) (h : H p = none) (e : Ext ρ st H ρ1 st1 H1) : Ext ρ st H ρ1 st1 (upd H1 p o) :=
  ⟨e.pre, e.pvs, fun a l => by rw [upd_ne (m.pne h l)]; exact e.hid a l, e.live, fun a u q pl l => by rw [upd_ne (ne_of_none q h)]; exact e.stay a u q pl l, e.nix⟩
theorem Tr.unh {pv : Addr → Prop} (hp : ∀ a, pv a → ρ.pv a) : Tr ρ st H (ρ.unh pv) st H := ⟨fun _ _ h => h, fun a _ _ _ l z => l (z.elim .inl fun z => .inr (hp a z)), fun _ _ q _ _ => q, fun _ _ _ _ _ n => n⟩
theorem R.unh {pv : Addr → Prop} (hp : ∀ a, pv a → ρ.pv a) (d : D) (x : V) (h : R T ρ st H d x) : R T (ρ.unh pv) st H d x := R.tr (Tr.unh hp) d x h
theorem RAll.unh {pv : Addr → Prop} (hp : ∀ a, pv a → ρ.pv a) (ds : List D) (vs : List V) (h : RAll T ρ st H ds vs) : RAll T (ρ.unh pv) st H ds vs := RAll.tr (Tr.unh hp) ds vs h
theorem RKV.unh {κ : Type} {pv : Addr → Prop} (hp : ∀ a, pv a → ρ.pv a) (ds : List (κ × D)) (vs : List (κ × V)) (h : RKV T ρ st H ds vs) : RKV T (ρ.unh pv) st H ds vs := RKV.tr (Tr.unh hp) ds vs h
theorem Mt.unh {pv : Addr → Prop} (m : Mt T ρ st H) (hp : ∀ a, pv a → ρ.pv a) : Mt T (ρ.unh pv) st H := by
  refine ⟨m.len, m.nd, m.trk, fun a ha => m.ptr a (hp a ha), fun a ha => m.dj a (hp a ha), fun i a so h1 h2 => ?_⟩
  have q := m.obj i a so h1 h2
  exact RObj.tr (Tr.unh hp) q rfl
theorem Ext.unh (e : Ext ρ st H ρ1 st1 H1) : Ext ρ st H (ρ1.unh ρ.pv) st1 H1 :=
  ⟨e.pre, fun _ h => h, e.hid, fun a u q pl l z => e.live a u q pl l (z.elim .inl fun z => .inr (e.pvs a z)), e.stay, e.nix⟩
/-- what was hidden enters the store -/
abbrev Rho.adopt (ρ : Rho) (pv : Addr → Prop) (p : Addr) : Rho := ⟨ρ.ix ++ [p], pv⟩
theorem Live.adopt {pv : Addr → Prop} {so : SO} {a : Addr} (hl : ρ.ix.length = st.length) (hq : ∀ a, pv a → ρ.pv a) (l : Live (ρ.adopt pv p) (st ++ [so]) a) : Live ρ st a ∨ a = p := by
  have l' : Live (ρ.snoc p) (st ++ [so]) a := l.elim .inl fun z => .inr (hq a z)
  exact Live.snoc hl l'
theorem Tr.adopt {pv : Addr → Prop} {so : SO} (hl : ρ.ix.length = st.length) (hp : ρ.pv p) (hq : ∀ a, pv a → ρ.pv a) : Tr ρ st H (ρ.adopt pv p) (st ++ [so]) (upd H p o) := by
  refine ⟨fun n a k => ?_, fun a u _ _ l z => (Live.adopt hl hq z).elim l fun z => l (by rw [z]; exact .inr hp), fun a u q _ l => by rw [upd_ne (fun z => l (by rw [z]; exact .inr hp))]; exact q, fun a u q _ l n k => ?_⟩
  · show (ρ.ix ++ [p])[n]? = some a
    rw [List.getElem?_append_left (List.getElem?_eq_some_iff.mp k).1]
    exact k
  · rcases List.mem_append.mp k with k | k
    · exact n k
    · have ep : a = p := by simpa using k
      exact l (by rw [ep]; exact .inr hp)
theorem Mt.adopt {pv : Addr → Prop} {so : SO} (m : Mt T ρ st H) (hp : ρ.pv p) (hq : ∀ a, pv a → ρ.pv a) (hn : ¬ pv p) (ho : RObj T (ρ.adopt pv p) (st ++ [so]) (upd H p o) so p) : Mt T (ρ.adopt pv p) (st ++ [so]) (upd H p o) := by
  have hnp := m.dj p hp
  refine ⟨by simp [m.len], ?_, fun a ha => ?_, fun a ha => ?_, fun a ha z => ?_, fun i a s1 h1 h2 => ?_⟩
  · show (ρ.ix ++ [p]).Nodup
    rw [List.nodup_append]
    refine ⟨m.nd, by simp, fun a ha b hb => ?_⟩
    have e : b = p := by simpa using hb
    intro z
    rw [z, e] at ha
    exact hnp ha
  · rcases List.mem_append.mp ha with z | z
    · obtain ⟨w, q⟩ := m.trk a z
      exact ⟨w, by rw [upd_ne (fun y => hnp (by rw [← y]; exact z))]; exact q⟩
    · have e : a = p := by simpa using z
      subst e
      exact ⟨o, upd_same⟩
  · obtain ⟨w, q⟩ := m.ptr a (hq a ha)
    exact ⟨w, by rw [upd_ne (fun y => hn (by rw [← y]; exact ha))]; exact q⟩
  · rcases List.mem_append.mp z with z | z
    · exact m.dj a (hq a ha) z
    · have e : a = p := by simpa using z
      exact hn (by rw [← e]; exact ha)
  · have h1' : (ρ.ix ++ [p])[i]? = some a := h1
    by_cases hi : i < ρ.ix.length
    · rw [List.getElem?_append_left hi] at h1'
      rw [List.getElem?_append_left (by have := m.len; omega)] at h2
      have ne : a ≠ p := fun z => hnp (by rw [← z]; exact List.mem_of_getElem? h1')
      have q := m.obj i a s1 h1' h2
      have t := Tr.adopt (H := H) (o := o) (so := so) m.len hp hq
      exact RObj.tr t q (upd_ne ne)
    · rw [List.getElem?_append_right (by omega)] at h1'
      rw [List.getElem?_append_right (by have := m.len; omega)] at h2
      have e1 : a = p := by simpa using List.mem_of_getElem? h1'
      have e2 : s1 = so := by simpa using List.mem_of_getElem? h2
      subst e1
      subst e2
      exact ho
theorem Ext.adopt {ρ0 : Rho} {st0 : Store} {H0 : Hp} {so : SO} (e : Ext ρ0 st0 H0 ρ st H) (m0 : Mt T ρ0 st0 H0) (hl : ρ.ix.length = st.length) (h0 : H0 p = none) : Ext ρ0 st0 H0 (ρ.adopt ρ0.pv p) (st ++ [so]) (upd H p o) := by
  refine ⟨fun n a k => ?_, fun _ h => h, fun a l => by rw [upd_ne (m0.pne h0 l)]; exact e.hid a l, fun a u q pl l z => ?_, fun a u q pl l => by rw [upd_ne (ne_of_none q h0)]; exact e.stay a u q pl l, fun a u q pl k => ?_⟩
  · have k' := e.pre n a k
    show (ρ.ix ++ [p])[n]? = some a
    rw [List.getElem?_append_left (List.getElem?_eq_some_iff.mp k').1]
    exact k'
  · rcases Live.adopt (pv := ρ0.pv) hl e.pvs z with z | z
    · exact e.live a u q pl l z
    · rw [z, h0] at q
      cases q
  · rcases List.mem_append.mp k with k | k
    · exact e.nix a u q pl k
    · have ep : a = p := by simpa using k
      rw [ep, h0] at q
      cases q
end
theorem wipe_none (σ : L2.St) : ∀ (vs : List Nat) (i : Nat), i ∈ vs → (L2.wipe σ vs).set i none = L2.wipe σ vs
  | [], i, h => by simp at h
  | v :: vs, i, h => by
    show ((L2.wipe σ vs).set v none).set i none = (L2.wipe σ vs).set v none
    by_cases e : v = i
    · subst e
      rw [List.set_set]
    · have hm : i ∈ vs := (List.mem_cons.mp h).elim (fun z => absurd z.symm e) id
      rw [List.set_comm _ _ e, wipe_none σ vs i hm]
theorem wipe_wipe (σ : L2.St) (vs : List Nat) : ∀ ws : List Nat, (∀ i ∈ ws, i ∈ vs) → L2.wipe (L2.wipe σ vs) ws = L2.wipe σ vs
  | [], _ => rfl
  | w :: ws, h => by
    show (L2.wipe (L2.wipe σ vs) ws).set w none = _
    rw [wipe_wipe σ vs ws fun i hi => h i (List.mem_cons_of_mem _ hi)]
    exact wipe_none σ vs w (h w List.mem_cons_self)
abbrev WF : WX := fun _ _ _ _ => False
section
variable {X : Cx} {fl : Fls} {Wx : WX} {tg iter elt : Expr} {ifs : List Expr} {scope : Scope} {own : List (Str × Nat)} {g : GM} {mi : IM} {mt : TM} {me : EM} {mA : AM} {pos : Pos} {vs : List Nat}
abbrev DTs (X : Cx) (fl : Fls) (Wx : WX) (es : List Expr) (m : TM) : Prop := PTs X es (tDT (XT X fl) Wx m)
theorem dts_nil : DTs X fl Wx [] tYesM := ⟨fun pins s σ H Q I ⟨ρ, δ, st, m, en, h⟩ => pts_nil.run pins s σ H Q I (h ρ H .refl m)⟩
theorem dts_one {c : Expr} (h : DT X fl Wx c mt) : DTs X fl Wx [c] mt := pts_one h
theorem Post.nox_inv {α : Type} {T : Tab} {ρ : Rho} {st : Store} {H : Hp} {σ : L2.St} {P : α → Rho → Store → Hp → Prop} {m : M α} (h : Post T ρ st H σ Wx P (nox m st)) : Post T ρ st H σ WF P (m st) := by
  unfold nox at h
  cases q : m st with
  | ok v st' => rw [q] at h; exact h
  | exc c d st' => rw [q] at h; exact False.elim h
  | stuck => rw [q] at h; exact h
theorem go_lc {σ : L2.St} {H : Hp} {P : List D → Rho → Store → Hp → Prop} {Q : V → Hp → Prop}
    (hP : ∀ ds ρ1 st1 H1 D accV, P ds ρ1 st1 H1 → H1 D = some (.lst accV) → ¬ Live ρ1 st1 D → D ∉ ρ1.ix → Mt (XT X fl) ρ1 st1 H1 → RAll (XT X fl) ρ1 st1 H1 ds accV → Q (.ref D) H1)
    (h : At (XT X fl) σ H fun ρ δ st => Post (XT X fl) ρ st H σ Wx P (aComp vs mi g mt me δ st)) :
    tLc (tDI (XT X fl) Wx mi) (tDG (XT X fl) vs g) (tDT (XT X fl) WF mt) (tD (XT X fl) WF me) vs σ H Q := by
  obtain ⟨ρ, δ, st, m, en, h⟩ := h
  refine ⟨ρ, δ, st, m, en, (Post.bind h).monoE fun p ρ1 st1 H1 e1 m1 h1 J jo D hD => ?_⟩
  obtain ⟨ds, gd⟩ := p
  by_cases hl : ds.length ≤ sizeLine
  case neg =>
    rw [if_neg hl] at h1
    exact False.elim h1
  rw [if_pos hl] at h1
  have nD : ¬ ρ1.pv D := fun z => by
    obtain ⟨o, q⟩ := m1.ptr D z
    rw [hD] at q
    cases q
  -- what is left to be made comes to its end
  have hfin : ∃ ys st3, compL gd ds g mt me (wipeD δ vs) ds st1 = .ok ys st3 ∧ ∀ ρ3 H3 accV', Ext ρ1 st1 H1 ρ3 st3 H3 → ρ3.pv D → Mt (XT X fl) ρ3 st3 H3 → H3 D = some (.lst accV') → RAll (XT X fl) ρ3 st3 H3 ([] ++ ys) accV' → Q (.ref D) H3 := by
    unfold nox at h1
    cases q : compL gd ds g mt me (wipeD δ vs) ds st1 with
    | stuck => rw [q] at h1; exact False.elim h1
    | exc c d st' => rw [q] at h1; exact False.elim h1
    | ok ys st3 =>
      rw [q] at h1
      refine ⟨ys, st3, rfl, fun ρ3 H3 accV' e3 hpv m3 h3 r3 => ?_⟩
      have m3' := m3.unh e3.pvs
      refine hP ys (ρ3.unh ρ1.pv) st3 H3 D accV' (h1 _ H3 e3.unh m3') h3 (fun z => ?_) (m3.dj D hpv) m3' (r3.unh e3.pvs _ _)
      rcases z with ⟨j, o, z1, _⟩ | z
      · exact m3.dj D hpv (List.mem_of_getElem? z1)
      · exact nD z
  refine ⟨fun i mm H2 => mm = ds.length - i ∧ i ≤ ds.length ∧ ∃ ρ2 st2 acc accV, Ext ρ1 st1 H1 ρ2 st2 H2 ∧ ρ2.pv D ∧ Mt (XT X fl) ρ2 st2 H2 ∧ acc.length ≤ i ∧ H2 D = some (.lst accV) ∧ RAll (XT X fl) ρ2 st2 H2 acc accV ∧
      ∃ ys st3, compL gd ds g mt me (wipeD δ vs) (ds.drop i) st2 = .ok ys st3 ∧ ∀ ρ3 H3 accV', Ext ρ1 st1 H1 ρ3 st3 H3 → ρ3.pv D → Mt (XT X fl) ρ3 st3 H3 → H3 D = some (.lst accV') → RAll (XT X fl) ρ3 st3 H3 (acc ++ ys) accV' → Q (.ref D) H3,
    ⟨ds.length, rfl, Nat.zero_le _, ρ1.hid D, st1, [], [], Ext.hide m1 hD, .inr rfl, m1.hide hD, Nat.le_refl _, upd_same, RAll.nil, by rw [List.drop_zero]; exact hfin⟩, ?_⟩
  rintro i mm H2 ⟨rfl, hi, ρ2, st2, acc, accV, e2, hpv, m2, hacc, hDv, rac, ys, st3, hq, fin⟩
  by_cases hlt : i < ds.length
  · have hd : ds.drop i = ds[i] :: ds.drop (i + 1) := List.drop_eq_getElem_cons hlt
    rw [hd] at hq
    have gk : GdOk gd ds st2 := by
      intro n en
      subst en
      simp only [compL, chk] at hq
      by_cases e : st2[n]? = some (.lst ds)
      · exact e
      · rw [if_neg e] at hq
        cases hq
    have hq2 : (match g ds[i] (wipeD δ vs) with
        | none => M.stuck
        | some δ1 => mt δ1 >>= fun b => if b = true then me δ1 >>= fun y => compL gd ds g mt me (wipeD δ vs) (ds.drop (i + 1)) >>= fun ys => pure (y :: ys) else compL gd ds g mt me (wipeD δ vs) (ds.drop (i + 1))) st2 = .ok ys st3 := by
      cases gd with
      | none => exact hq
      | some n =>
        simp only [compL, chk] at hq
        rw [if_pos (gk n rfl)] at hq
        exact hq
    obtain ⟨go, yl⟩ := jo.go ρ2 st2 H2 e2 m2 gk i ds[i] (List.getElem?_eq_getElem hlt)
    refine .inr ⟨go, fun H' => ∃ ρ2 st2 acc accV, Ext ρ1 st1 H1 ρ2 st2 H' ∧ ρ2.pv D ∧ Mt (XT X fl) ρ2 st2 H' ∧ acc.length ≤ i + 1 ∧ H' D = some (.lst accV) ∧ RAll (XT X fl) ρ2 st2 H' acc accV ∧
      ∃ ys st3, compL gd ds g mt me (wipeD δ vs) (ds.drop (i + 1)) st2 = .ok ys st3 ∧ ∀ ρ3 H3 accV', Ext ρ1 st1 H1 ρ3 st3 H3 → ρ3.pv D → Mt (XT X fl) ρ3 st3 H3 → H3 D = some (.lst accV') → RAll (XT X fl) ρ3 st3 H3 (acc ++ ys) accV' → Q (.ref D) H3,
      fun H' ⟨ρ3, st3, q⟩ => ⟨ds.length - (i + 1), by omega, rfl, hlt, ρ3, st3, q⟩, fun x H3 y => ?_⟩
    obtain ⟨e3, m3, r3⟩ := yl x H3 y
    cases qg : g ds[i] (wipeD δ vs) with
    | none => rw [qg] at hq2; cases hq2
    | some δ1 =>
      rw [qg] at hq2
      dsimp only at hq2
      rw [bind_eq] at hq2
      have en2 := (((en.ext e1).wipe vs).ext e2).ext e3
      refine ⟨ρ2, _, st2, ds[i], δ1, m3, en2, r3, qg, fun σ1 hw en1 => ⟨hw.trans (wipe_wipe σ vs vs fun _ h => h), ρ2, δ1, st2, m3, en1, ?_⟩⟩
      cases qt : mt δ1 st2 with
      | stuck => rw [qt] at hq2; cases hq2
      | exc c d st' => rw [qt] at hq2; cases hq2
      | ok b st4 =>
        rw [qt] at hq2
        show Post (XT X fl) ρ2 st2 H3 σ1 WF _ (mt δ1 st2)
        rw [qt]
        intro ρ4 H4 e4 m4
        have e14 := (e2.trans e3).trans e4
        have hD4 : H4 D = some (.lst accV) := (e4.hid D hpv).trans ((e3.hid D hpv).trans hDv)
        have rac4 := (rac.ext e3 _ _).ext e4 _ _
        have hpv4 := e4.pvs D hpv
        cases b with
        | false =>
          refine iteF ?_
          exact ⟨ρ4, st4, acc, accV, e14, hpv4, m4, by omega, hD4, rac4, ys, st3, hq2, fin⟩
        | true =>
          refine iteT ?_
          have hq3 : (me δ1 >>= fun y => compL gd ds g mt me (wipeD δ vs) (ds.drop (i + 1)) >>= fun ys => pure (y :: ys)) st4 = .ok ys st3 := hq2
          rw [bind_eq] at hq3
          refine ⟨ρ4, δ1, st4, m4, en1.ext e4, ?_⟩
          cases qe : me δ1 st4 with
          | stuck => rw [qe] at hq3; cases hq3
          | exc c d st' => rw [qe] at hq3; cases hq3
          | ok y st5 =>
            rw [qe] at hq3
            show Post (XT X fl) ρ4 st4 H4 σ1 WF _ (me δ1 st4)
            rw [qe]
            intro ρ5 H5 e5 m5 z rz
            have hD5 : H5 D = some (.lst accV) := (e5.hid D hpv4).trans hD4
            have hpv5 := e5.pvs D hpv4
            have rac5 := rac4.ext e5 _ _
            refine ⟨accV, hD5, by have := rac5.length; omega, ρ5, st5, acc ++ [y], accV ++ [z], Ext.chg m1 hD (e14.trans e5), hpv5, m5.chg hpv5, by simp; omega, upd_same, (rac5.append (RAll.cons rz RAll.nil)).chg hpv5 _ _, ?_⟩
            have hq4 : (compL gd ds g mt me (wipeD δ vs) (ds.drop (i + 1)) >>= fun ys => (pure (y :: ys) : M (List DL.D))) st5 = .ok ys st3 := hq3
            rw [bind_eq] at hq4
            cases qr : compL gd ds g mt me (wipeD δ vs) (ds.drop (i + 1)) st5 with
            | stuck => rw [qr] at hq4; cases hq4
            | exc c d st' => rw [qr] at hq4; cases hq4
            | ok ys' st6 =>
              rw [qr] at hq4
              have e6 : ys = y :: ys' ∧ st3 = st6 := by
                injection hq4 with a b
                exact ⟨a.symm, b.symm⟩
              obtain ⟨rfl, rfl⟩ := e6
              refine ⟨ys', st3, rfl, fun ρ3 H3 accV' a1 a2 a3 a4 a5 => fin ρ3 H3 accV' a1 a2 a3 a4 ?_⟩
              rw [List.append_assoc] at a5
              exact a5
  · have e : i = ds.length := by omega
    subst e
    rw [List.drop_length] at hq
    have gk : GdOk gd ds st2 := by
      intro n en
      subst en
      simp only [compL, chk] at hq
      by_cases e : st2[n]? = some (.lst ds)
      · exact e
      · rw [if_neg e] at hq
        cases hq
    have hq2 : (pure [] : M (List DL.D)) st2 = .ok ys st3 := by
      cases gd with
      | none => exact hq
      | some n =>
        simp only [compL, chk] at hq
        rw [if_pos (gk n rfl)] at hq
        exact hq
    have e6 : ys = [] ∧ st3 = st2 := by
      injection hq2 with a b
      exact ⟨a.symm, b.symm⟩
    obtain ⟨rfl, rfl⟩ := e6
    exact .inl ⟨jo.stop ρ2 st3 H2 e2 m2 gk _ (Nat.le_refl _), fin ρ2 H2 accV e2 hpv m2 hDv (by rw [List.append_nil]; exact rac)⟩
theorem de_lc (hc : X.calm = true) (hN : X.N.Nodup) (hi : DI X fl Wx tg iter mi) (ok : BlkOk X.N X.env.scope scope own) (hv : own.map (·.2) = vs)
    (hg : ∀ (s : Shared) (H : Hp) (C : Addr) (cl : List (Str × Addr)) (fp : List Addr), DG (X.blk s H scope (compEnvC scope cl C X.env) fp) fl vs tg g) (ht : ∀ (s : Shared) (H : Hp) (C : Addr) (cl : List (Str × Addr)) (fp : List Addr), DTs (X.blk s H scope (compEnvC scope cl C X.env) fp) fl WF ifs mt)
    (he : ∀ (s : Shared) (H : Hp) (C : Addr) (cl : List (Str × Addr)) (fp : List Addr), DE (X.blk s H scope (compEnvC scope cl C X.env) fp) fl WF elt me) (hs : ∀ x, foldedSetIterable iter X.env x = pure x := by intro _; rfl) :
    DE X fl Wx (.ListComp elt [⟨tg, iter, ifs, 0⟩] scope pos) (eComp vs mi g mt me) := by
  subst hv
  refine pe_imp (pe_lc (g := tDG (XT X fl) (own.map (·.2)) g) (tt := tDT (XT X fl) WF mt) (te := tD (XT X fl) WF me) hc hN hi ok hg ht he hs) fun σ H Q ⟨ρ, δ, st, m, en, h⟩ => ?_
  refine go_lc (P := fun ds ρ1 st1 H1 => ∀ x, R (XT X fl) ρ1 st1 H1 (.lst ds) x → Q x H1) (fun ds ρ1 st1 H1 D accV hp hD nl _ m1 r => hp _ ?_) ⟨ρ, δ, st, m, en, (Post.bind h).monoE fun ds ρ1 st1 H1 e1 m1 h1 => h1 ρ1 H1 .refl m1⟩
  · simp only [R]
    exact ⟨D, accV, rfl, hD, nl, r⟩
end
end DL
/-! DL5: what is walked; values: numbers, rows, tuples. -/
namespace DL
open PySem PySem.Spec PyProof.Rows L2

/-! ### rows -/
def seqOf (st : Store) : D → Option (List D)
  | .lst ds => some ds
  | .tup ds => some ds
  | .ref n => match st[n]? with
    | some (.lst ds) => some ds
    | _ => none
  | _ => none
section
variable {T : Tab} {ρ : Rho} {st : Store} {H : Hp}
theorem R.tup_of {ds : List D} {x : V} (h : R T ρ st H (.tup ds) x) : ∃ a vs, x = .ref a ∧ SqT T.K H a vs ∧ RAll T ρ st H ds vs := by
  simp only [R] at h
  obtain ⟨a, vs, e, q, r⟩ := h
  exact ⟨a, vs, e, q.elim (fun z => SqT.of z.1) .inr, r⟩
theorem R.lst_of {ds : List D} {x : V} (h : R T ρ st H (.lst ds) x) : ∃ a vs, x = .ref a ∧ H a = some (.lst vs) ∧ RAll T ρ st H ds vs := by
  simp only [R] at h
  obtain ⟨a, vs, e, q, _, r⟩ := h
  exact ⟨a, vs, e, q, r⟩
theorem Mt.at_ (m : Mt T ρ st H) {n : Nat} {x : V} {o : SO} (h : R T ρ st H (.ref n) x) (q : st[n]? = some o) : ∃ a, x = .ref a ∧ ρ.ix[n]? = some a ∧ RObj T ρ st H o a := by
  simp only [R] at h
  obtain ⟨a, e, hn⟩ := h
  exact ⟨a, e, hn, m.obj n a o hn q⟩
theorem seq_ok (m : Mt T ρ st H) {d : D} {x : V} {ds : List D} (r : R T ρ st H d x) (h : seqOf st d = some ds) : ∃ a vs, x = .ref a ∧ (SqL T.K H a vs ∨ SqT T.K H a vs) ∧ RAll T ρ st H ds vs := by
  cases d with
  | lst es =>
    obtain rfl : es = ds := Option.some.inj h
    obtain ⟨a, vs, e, q, r⟩ := r.lst_of
    exact ⟨a, vs, e, .inl (SqL.of q), r⟩
  | tup es =>
    obtain rfl : es = ds := Option.some.inj h
    obtain ⟨a, vs, e, q, r⟩ := r.tup_of
    exact ⟨a, vs, e, .inr q, r⟩
  | ref n =>
    simp only [seqOf] at h
    cases q : st[n]? with
    | none => rw [q] at h; cases h
    | some o =>
      rw [q] at h
      cases o with
      | lst es =>
        obtain rfl : es = ds := Option.some.inj h
        obtain ⟨a, e, _, vs, hq, r⟩ := m.at_ r q
        exact ⟨a, vs, e, .inl (SqL.of hq), r⟩
      | _ => cases h
  | _ => cases h
theorem RAll.map {α : Type} {f : α → D} {g : α → V} (h : ∀ a x, R T ρ st H (f a) x → x = g a) : ∀ {as : List α} {vs : List V}, RAll T ρ st H (as.map f) vs → vs = as.map g
  | [], vs, r => by simpa [RAll] using r
  | a :: as, vs, r => by
    simp only [List.map_cons, RAll] at r
    obtain ⟨x, xs, e, h1, h2⟩ := r
    rw [e, h a x h1, RAll.map h h2]
    rfl
theorem RAll.of_map {α : Type} {f : α → D} {g : α → V} (h : ∀ a, R T ρ st H (f a) (g a)) : ∀ {as : List α}, RAll T ρ st H (as.map f) (as.map g)
  | [] => by simp only [List.map_nil, RAll]
  | a :: as => by
    simp only [List.map_cons]
    exact .cons (h a) (RAll.of_map h)
end

/-! ### what is walked -/
def itSeq (m : EM) : IM := fun δ => m δ >>= fun d st => match d with
  | .lst ds => .ok (ds, none) st
  | .tup ds => .ok (ds, none) st
  | .ref n => match st[n]? with
    | some (.lst ds) => .ok (ds, some n) st
    | _ => .stuck
  | _ => .stuck
def rangeD (lo : Int) (n : Nat) : List D := (List.range n).map fun (i : Nat) => D.int (lo + (i : Int))
def itRange1 (m : EM) : IM := fun δ => m δ >>= fun d => match d with
  | .int j => if -(2 ^ 62) ≤ j ∧ j < 2 ^ 62 then pure (rangeD 0 j.toNat, none) else M.stuck
  | _ => M.stuck
def itRange2 (a b : EM) : IM := fun δ => a δ >>= fun d => b δ >>= fun e => match d, e with
  | .int i, .int j => if -(2 ^ 62) ≤ i ∧ i < 2 ^ 62 ∧ -(2 ^ 62) ≤ j ∧ j < 2 ^ 62 then pure (rangeD i (j - i).toNat, none) else M.stuck
  | _, _ => M.stuck
section
variable {T : Tab} {ρ : Rho} {st : Store} {H : Hp}
theorem jok_range {lo : Int} {n : Nat} : JOk T ρ st H (Itr lo n) (rangeD lo n) none := by
  refine ⟨fun ρ2 st2 H2 e m _ i d hd => ?_, fun ρ2 st2 H2 e m _ i hi => ?_⟩
  · unfold rangeD at hd
    rw [List.getElem?_map] at hd
    cases q : (List.range n)[i]? with
    | none => rw [q] at hd; cases hd
    | some j =>
      rw [q] at hd
      have hi : i < n := by
        have := (List.getElem?_eq_some_iff.mp q).1
        simpa using this
      rw [List.getElem?_range hi] at q
      cases q
      cases hd
      refine ⟨hi, fun x H3 ⟨e1, e2⟩ => ?_⟩
      subst e1
      subst e2
      exact ⟨.refl, m, R.int⟩
  · have h : (rangeD lo n).length = n := by simp [rangeD]
    show n ≤ i
    omega
theorem jok_list {a : Addr} {ds : List D} {vs : List V} {K : PySem.W.Frag} (hK : T.K = K) (ha : H a = some (.lst vs)) (l : ¬ Live ρ st a) (r : RAll T ρ st H ds vs) : JOk T ρ st H (Itl K a) ds none := by
  refine ⟨fun ρ2 st2 H2 e m _ i d hd => ?_, fun ρ2 st2 H2 e m _ i hi => ?_⟩
  · have h2 := e.stay a _ ha plain_lst l
    obtain ⟨x, hx, rx⟩ := r.get hd
    refine ⟨⟨vs, x, SqL.of h2, hx⟩, fun y H3 ⟨e1, e2⟩ => ?_⟩
    subst e1
    have := e2 vs (SqL.of h2)
    rw [hx] at this
    cases this
    exact ⟨.refl, m, rx.ext e _ _⟩
  · have h2 := e.stay a _ ha plain_lst l
    exact ⟨vs, SqL.of h2, by rw [← r.length]; exact hi⟩
theorem jok_tup {a : Addr} {ds : List D} {vs : List V} {K : PySem.W.Frag} (hK : T.K = K) (ha : (H a = some (.tup vs) ∧ ¬ Live ρ st a) ∨ KTup K a vs) (r : RAll T ρ st H ds vs) : JOk T ρ st H (Itt K a) ds none := by
  have tup2 : ∀ {ρ2 st2 H2}, Ext ρ st H ρ2 st2 H2 → SqT K H2 a vs := fun e => by
    rcases ha with ⟨h, l⟩ | k
    · exact SqT.of (e.stay a _ h plain_tup l)
    · exact .inr k
  refine ⟨fun ρ2 st2 H2 e m _ i d hd => ?_, fun ρ2 st2 H2 e m _ i hi => ?_⟩
  · have h2 := tup2 e
    obtain ⟨x, hx, rx⟩ := r.get hd
    refine ⟨⟨vs, x, h2, hx⟩, fun y H3 ⟨e1, e2⟩ => ?_⟩
    subst e1
    have := e2 vs h2
    rw [hx] at this
    cases this
    exact ⟨.refl, m, rx.ext e _ _⟩
  · exact ⟨vs, tup2 e, by rw [← r.length]; exact hi⟩
/-- a list of the store, as long as it stays -/
theorem jok_ref {n : Nat} {a : Addr} {ds : List D} {K : PySem.W.Frag} (ha : ρ.ix[n]? = some a) : JOk T ρ st H (Itl K a) ds (some n) := by
  refine ⟨fun ρ2 st2 H2 e m g i d hd => ?_, fun ρ2 st2 H2 e m g i hi => ?_⟩
  · obtain ⟨vs, h2, r⟩ := m.obj n a _ (e.pre n a ha) (g n rfl)
    obtain ⟨x, hx, rx⟩ := r.get hd
    refine ⟨⟨vs, x, SqL.of h2, hx⟩, fun y H3 ⟨e1, e2⟩ => ?_⟩
    subst e1
    have := e2 vs (SqL.of h2)
    rw [hx] at this
    cases this
    exact ⟨.refl, m, rx⟩
  · obtain ⟨vs, h2, r⟩ := m.obj n a _ (e.pre n a ha) (g n rfl)
    exact ⟨vs, SqL.of h2, by rw [← r.length]; exact hi⟩
end
section
variable {X : Cx} {fl : Fls} {Wx : WX} {tg e a b : Expr} {m ma mb : EM} {p pos : Pos}
/-- a list or a tuple, as it comes -/
def iSeq (K : PySem.W.Frag) (tl : TE) : TI := fun σ H R => tl σ H fun x H1 => ∃ a, x = .ref a ∧ (((∃ xs, SqL K H1 a xs) ∧ R (Itl K a) H1) ∨ ((∃ xs, SqT K H1 a xs) ∧ R (Itt K a) H1))
theorem pi_seq {l : Expr} {tl : TE} (hl : PE X l tl) : PI X tg l (iSeq X.K tl) := by
  refine ⟨fun pins s σ H R I h => ?_⟩
  refine thn (hl.run pins s σ H _ I h) fun v s1 ⟨x, H1, I1, r1, q1⟩ => ?_
  obtain ⟨a, e, q⟩ := q1
  subst e
  cases r1
  rcases q with ⟨⟨xs, hq⟩, q⟩ | ⟨⟨xs, hq⟩, q⟩
  · obtain ⟨its, rv, p, hz⟩ := I1.list hq
    refine wpAny_pyIter_list p.isList ?_
    refine ⟨s1.heap.objs.size, [s1.heap.objs.size], _, _, H1, rfl, I1.kept (t' := s1.toks) fun b o e => Heap.get?_push_of_some _ e, turn_list a _, ⟨_, Heap.get?_push_size _ rfl, rfl, rfl⟩, fun b hb => ?_, q⟩
    have e : b = s1.heap.objs.size := by simpa using hb
    subst e
    exact I1.fpOk (Nat.le_refl _) (I1.hok.fresh (Nat.le_refl _))
  · obtain ⟨its, rv, p, hz⟩ := I1.tuple hq
    refine wpAny_pyIter_tuple (show s1.heap.IsTuple a its.toArray from p) ?_
    refine ⟨s1.heap.objs.size, [s1.heap.objs.size], _, _, H1, rfl, I1.kept (t' := s1.toks) fun b o e => Heap.get?_push_of_some _ e, turn_tuple a _, ⟨_, Heap.get?_push_size _ rfl, rfl, rfl⟩, fun b hb => ?_, q⟩
    have e : b = s1.heap.objs.size := by simpa using hb
    subst e
    exact I1.fpOk (Nat.le_refl _) (I1.hok.fresh (Nat.le_refl _))
theorem di_seq (h : DE X fl Wx e m) : DI X fl Wx tg e (itSeq m) := by
  refine pi_imp (pi_seq h) fun σ H Rr ⟨ρ, δ, st, mt, en, h⟩ => ?_
  refine ⟨ρ, δ, st, mt, en, (Post.bind h).monoE fun d ρ1 st1 H1 e1 m1 h1 x rx => ?_⟩
  cases d with
  | lst ds =>
    simp only [R] at rx
    obtain ⟨a, vs, ex, q, l, r⟩ := rx
    exact ⟨a, ex, .inl ⟨⟨vs, SqL.of q⟩, h1 ρ1 H1 .refl m1 _ (jok_list rfl q l r)⟩⟩
  | tup ds =>
    simp only [R] at rx
    obtain ⟨a, vs, ex, q, r⟩ := rx
    exact ⟨a, ex, .inr ⟨⟨vs, q.elim (fun z => SqT.of z.1) .inr⟩, h1 ρ1 H1 .refl m1 _ (jok_tup rfl q r)⟩⟩
  | ref n =>
    simp only at h1
    cases q : st1[n]? with
    | none => rw [q] at h1; exact False.elim h1
    | some o =>
      rw [q] at h1
      cases o with
      | lst ds =>
        obtain ⟨a, ex, hn, vs, hq, r⟩ := m1.at_ rx q
        exact ⟨a, ex, .inl ⟨⟨vs, SqL.of hq⟩, h1 ρ1 H1 .refl m1 _ (jok_ref hn)⟩⟩
      | _ => exact False.elim h1
  | _ => exact False.elim h1
theorem di_range1 (hg : Gl X "range") (hm : X.mg "range" = none) (ha : DE X fl Wx a ma) (hs : starEach [a] X.env = [(false, eval a X.env)] := by rfl) : DI X fl Wx tg (.Call (.Name "range" p) [a] [] pos) (itRange1 ma) := by
  refine pi_imp (pi_range1 hg hm (pa_cons ha pa_nil hs) hs) fun σ H Rr ⟨ρ, δ, st, mt, en, h⟩ => ?_
  refine ⟨ρ, δ, st, mt, en, (Post.bind h).monoE fun d ρ1 st1 H1 e1 m1 h1 x rx => ?_⟩
  cases d with
  | int j =>
    simp only at h1
    by_cases hj : -(2 ^ 62) ≤ j ∧ j < 2 ^ 62
    · rw [if_pos hj] at h1
      exact ⟨j, by rw [R.int_of rx], hj.1, hj.2, h1 ρ1 H1 .refl m1 _ jok_range⟩
    · rw [if_neg hj] at h1
      exact False.elim h1
  | _ => exact False.elim h1
theorem di_range2 (hg : Gl X "range") (hm : X.mg "range" = none) (ha : DE X fl Wx a ma) (hb : DE X fl Wx b mb) (hs : starEach [a, b] X.env = [(false, eval a X.env), (false, eval b X.env)] := by rfl) (hs2 : starEach [b] X.env = [(false, eval b X.env)] := by rfl) :
    DI X fl Wx tg (.Call (.Name "range" p) [a, b] [] pos) (itRange2 ma mb) := by
  refine pi_imp (pi_range2 hg hm (pa_cons ha (pa_cons hb pa_nil hs2) (by rw [hs, hs2])) hs hs2) fun σ H Rr ⟨ρ, δ, st, mt, en, h⟩ => ?_
  refine ⟨ρ, δ, st, mt, en, (Post.bind h).monoE fun d ρ1 st1 H1 e1 m1 h1 x rx => ?_⟩
  refine ⟨ρ1, δ, st1, m1, en.ext e1, (Post.bind h1).monoE fun d' ρ2 st2 H2 e2 m2 h2 y ry => ?_⟩
  cases d with
  | int i =>
    cases d' with
    | int j =>
      simp only at h2
      by_cases hj : -(2 ^ 62) ≤ i ∧ i < 2 ^ 62 ∧ -(2 ^ 62) ≤ j ∧ j < 2 ^ 62
      · rw [if_pos hj] at h2
        exact ⟨i, j, by rw [R.int_of rx, R.int_of ry], hj, h2 ρ2 H2 .refl m2 _ jok_range⟩
      · rw [if_neg hj] at h2
        exact False.elim h2
    | _ => exact False.elim h2
  | _ => exact False.elim h2
end

/-! ### numbers -/
def fAdd (st : Store) (d e : D) : Option D := match d, e with
  | .int i, .int j => some (.int (i + j))
  | .str i, .str j => if i.length + j.length ≤ sizeLine then some (.str (i ++ j)) else none
  | .tup xs, .tup ys => if xs.length + ys.length ≤ sizeLine then some (.tup (xs ++ ys)) else none
  | a, b => match a, b with
    | .tup _, _ => none
    | _, .tup _ => none
    | _, _ => match seqOf st a, seqOf st b with
      | some xs, some ys => if xs.length + ys.length ≤ sizeLine then some (.lst (xs ++ ys)) else none
      | _, _ => none
def fSub (_ : Store) (d e : D) : Option D := match d, e with
  | .int i, .int j => some (.int (i - j))
  | _, _ => none
def fFdiv (_ : Store) (d e : D) : Option D := match d, e with
  | .int i, .int j => if j ≠ 0 ∧ j.natAbs < 1073741824 then some (.int (i.fdiv j)) else none
  | _, _ => none
def fMod (_ : Store) (d e : D) : Option D := match d, e with
  | .int i, .int j => if j ≠ 0 then some (.int (i.fmod j)) else none
  | _, _ => none
def fPow (_ : Store) (d e : D) : Option D := match d, e with
  | .int i, .int j => if 0 ≤ j ∧ j ≤ 1000000 ∧ i.natAbs < 2 ^ 64 then some (.int (i ^ j.toNat)) else none
  | _, _ => none
def fMul (_ : Store) (d e : D) : Option D := match d, e with
  | .int i, .int j => if (-(2 ^ 64) < i ∧ i < 2 ^ 64) ∨ (-(2 ^ 64) < j ∧ j < 2 ^ 64) then some (.int (i * j)) else none
  | _, _ => none
def fNeg (_ : Store) (d : D) : Option D := match d with
  | .int i => some (.int (-i))
  | _ => none
def fCmp (f : Int → Int → Bool) (_ : Store) (d e : D) : Option D := match d, e with
  | .int i, .int j => some (.bl (f i j))
  | _, _ => none
section
variable {T : Tab}
theorem v2_int {C : Int → Int → Prop} {g : Int → Int → V} {f : Store → D → D → Option D} (hf : ∀ st d e v, f st d e = some v → ∃ i j, d = .int i ∧ e = .int j ∧ C i j ∧ ∀ ρ st H, R T ρ st H v (g i j)) : V2 T (rI C g) f := by
  intro ρ st H d d' x y v Q m rx ry h q
  obtain ⟨i, j, rfl, rfl, hc, hr⟩ := hf st d d' v h
  exact ⟨i, j, R.int_of rx, R.int_of ry, hc, q H _ .refl m (hr ρ st H)⟩
theorem v2_int0 {g : Int → Int → V} {f : Store → D → D → Option D} (hf : ∀ st d e v, f st d e = some v → ∃ i j, d = .int i ∧ e = .int j ∧ ∀ ρ st H, R T ρ st H v (g i j)) : V2 T (rI0 g) f := by
  intro ρ st H d d' x y v Q m rx ry h q
  obtain ⟨i, j, rfl, rfl, hr⟩ := hf st d d' v h
  exact ⟨i, j, R.int_of rx, R.int_of ry, q H _ .refl m (hr ρ st H)⟩
theorem v_sub : V2 T (rI0 fun i j => .int (i - j)) fSub := v2_int0 fun st d e v h => by
  unfold fSub at h
  split at h
  · cases h; exact ⟨_, _, rfl, rfl, fun _ _ _ => R.int⟩
  · cases h
theorem v_fdiv : V2 T (rI CDivN fun i j => .int (i.fdiv j)) fFdiv := v2_int fun st d e v h => by
  unfold fFdiv at h
  split at h
  · split at h
    · rename_i hc
      cases h; exact ⟨_, _, rfl, rfl, hc, fun _ _ _ => R.int⟩
    · cases h
  · cases h
theorem v_mod : V2 T (rI (fun _ j => j ≠ 0) fun i j => .int (i.fmod j)) fMod := v2_int fun st d e v h => by
  unfold fMod at h
  split at h
  · split at h
    · rename_i hc
      cases h; exact ⟨_, _, rfl, rfl, hc, fun _ _ _ => R.int⟩
    · cases h
  · cases h
theorem v_pow : V2 T (rI CPow fun i j => .int (i ^ j.toNat)) fPow := v2_int fun st d e v h => by
  unfold fPow at h
  split at h
  · split at h
    · rename_i hc
      cases h; exact ⟨_, _, rfl, rfl, hc, fun _ _ _ => R.int⟩
    · cases h
  · cases h
theorem v_mul : V2 T (rI CMul fun i j => .int (i * j)) fMul := v2_int fun st d e v h => by
  unfold fMul at h
  split at h
  · split at h
    · rename_i hc
      cases h; exact ⟨_, _, rfl, rfl, hc, fun _ _ _ => R.int⟩
    · cases h
  · cases h
theorem v_neg : V1 T (rU fun i => .int (-i)) fNeg := by
  intro ρ st H d x v Q m rx h q
  unfold fNeg at h
  split at h
  · cases h; exact ⟨_, R.int_of rx, q H _ .refl m R.int⟩
  · cases h
theorem v_cmp {f : Int → Int → Bool} : V2 T (rI0 fun i j => .bl (f i j)) (fCmp f) := v2_int0 fun st d e v h => by
  unfold fCmp at h
  split at h
  · cases h; exact ⟨_, _, rfl, rfl, fun _ _ _ => R.bl⟩
  · cases h
end
/-- + of ints, texts, tuples, lists -/
def rAddD (K : PySem.W.Frag) : R2 := fun x y H Q => (rI0 (fun i j => .int (i + j)) x y H Q) ∨ (∃ i j, x = .str i ∧ y = .str j ∧ i.length + j.length ≤ sizeLine ∧ Q (.str (i ++ j)) H) ∨ rCatT K x y H Q ∨ rCat x y H Q ∨
  (∃ a b ys, x = .ref a ∧ y = .ref b ∧ SqT K H a [] ∧ SqT K H b ys ∧ Q (.ref b) H)
end DL
/-! DL6: values: sums of rows, lengths, items, kinds, what is shown, what is equal. -/
namespace DL
open PySem PySem.Spec PyProof.Rows L2

theorem CallR.or {X : Cx} {f : Value} {r r' : List V → Hp → VK → Prop} (h : CallR X f r) (h' : CallR X f r') : CallR X f (fun xs H Q => r xs H Q ∨ r' xs H Q) := by
  intro pins s σ H xs us Q I rr q
  rcases q with q | q
  · exact h pins s σ H xs us Q I rr q
  · exact h' pins s σ H xs us Q I rr q

/-! ### lists that are lists -/
def lstOf (st : Store) : D → Option (List D)
  | .lst ds => some ds
  | .ref n => match st[n]? with
    | some (.lst ds) => some ds
    | _ => none
  | _ => none
section
variable {T : Tab} {ρ : Rho} {st : Store} {H : Hp}
theorem lst_ok (m : Mt T ρ st H) {d : D} {x : V} {ds : List D} (r : R T ρ st H d x) (h : lstOf st d = some ds) : ∃ a vs, x = .ref a ∧ H a = some (.lst vs) ∧ RAll T ρ st H ds vs := by
  cases d with
  | lst es =>
    obtain rfl : es = ds := Option.some.inj h
    exact r.lst_of
  | ref n =>
    simp only [lstOf] at h
    cases q : st[n]? with
    | none => rw [q] at h; cases h
    | some o =>
      rw [q] at h
      cases o with
      | lst es =>
        obtain rfl : es = ds := Option.some.inj h
        obtain ⟨a, e, _, vs, hq, r⟩ := m.at_ r q
        exact ⟨a, vs, e, hq, r⟩
      | _ => cases h
  | _ => cases h
/-- a new tuple, a new list that will not change -/
theorem new_tup (m : Mt T ρ st H) {ds : List D} {vs : List V} (r : RAll T ρ st H ds vs) {p : Addr} (hp : H p = none) : Ext ρ st H ρ st (upd H p (.tup vs)) ∧ Mt T ρ st (upd H p (.tup vs)) ∧ R T ρ st (upd H p (.tup vs)) (.tup ds) (.ref p) := by
  have e := Ext.new (ρ := ρ) (st := st) (o := .tup vs) m hp
  refine ⟨e, m.new hp, ?_⟩
  simp only [R]
  exact ⟨p, vs, rfl, .inl ⟨upd_same, m.notLive hp⟩, r.ext e _ _⟩
theorem new_lst (m : Mt T ρ st H) {ds : List D} {vs : List V} (r : RAll T ρ st H ds vs) {p : Addr} (hp : H p = none) : Ext ρ st H ρ st (upd H p (.lst vs)) ∧ Mt T ρ st (upd H p (.lst vs)) ∧ R T ρ st (upd H p (.lst vs)) (.lst ds) (.ref p) := by
  have e := Ext.new (ρ := ρ) (st := st) (o := .lst vs) m hp
  refine ⟨e, m.new hp, ?_⟩
  simp only [R]
  exact ⟨p, vs, rfl, upd_same, m.notLive hp, r.ext e _ _⟩
end

/-! ### + -/
def fPlus (st : Store) (d e : D) : Option D := match d, e with
  | .int i, .int j => some (.int (i + j))
  | .str i, .str j => if i.length + j.length ≤ sizeLine then some (.str (i ++ j)) else none
  | .tup xs, .tup ys => if xs.length + ys.length ≤ sizeLine then some (.tup (xs ++ ys)) else none
  | a, b => match lstOf st a, lstOf st b with
    | some xs, some ys => if xs.length + ys.length ≤ sizeLine then some (.lst (xs ++ ys)) else none
    | _, _ => none
def rPlus (K : PySem.W.Frag) : R2 := fun x y H Q => (rI0 (fun i j => V.int (i + j)) x y H Q) ∨ (∃ i j, x = .str i ∧ y = .str j ∧ i.length + j.length ≤ sizeLine ∧ Q (.str (i ++ j)) H) ∨ rCatA K x y H Q ∨ rCat x y H Q
theorem op_plus {X : Cx} : OpR X (binaryOp .Add) (rPlus X.K) := op_add.or (op_add_str.or (op_catA.or op_cat))
theorem v_plus {T : Tab} : V2 T (rPlus T.K) fPlus := by
  intro ρ st H d e x y v Q m rx ry h q
  unfold fPlus at h
  split at h
  · cases h
    exact .inl ⟨_, _, R.int_of rx, R.int_of ry, q H _ .refl m R.int⟩
  · split at h
    · rename_i hz
      cases h
      exact .inr (.inl ⟨_, _, R.str_of rx, R.str_of ry, hz, q H _ .refl m R.str⟩)
    · cases h
  · rename_i xs ys
    split at h
    · rename_i hz
      cases h
      obtain ⟨a, vs, ea, ha, ra⟩ := rx.tup_of
      obtain ⟨b, ws, eb, hb, rb⟩ := ry.tup_of
      refine .inr (.inr (.inl ⟨a, b, vs, ws, ea, eb, ha, hb, by rw [← ra.length, ← rb.length]; exact hz, fun z => ?_, fun _ z => ?_, fun _ _ p hp => ?_⟩))
      · subst z
        have hx : xs = [] := by have := ra.length; simpa using this
        rw [hx] at q
        exact q H _ .refl m (by rw [← eb]; exact ry)
      · subst z
        have hy : ys = [] := by have := rb.length; simpa using this
        rw [hy, List.append_nil] at q
        exact q H _ .refl m (by rw [← ea]; exact rx)
      · obtain ⟨e1, m1, r1⟩ := new_tup m (ra.append rb) hp
        exact q _ _ e1 m1 r1
    · cases h
  · split at h
    · rename_i xs ys hx hy
      split at h
      · rename_i hz
        cases h
        obtain ⟨a, vs, ea, ha, ra⟩ := lst_ok m rx hx
        obtain ⟨b, ws, eb, hb, rb⟩ := lst_ok m ry hy
        refine .inr (.inr (.inr ⟨a, b, vs, ws, ea, eb, ha, hb, by rw [← ra.length, ← rb.length]; exact hz, fun p hp => ?_⟩))
        obtain ⟨e1, m1, r1⟩ := new_lst m (ra.append rb) hp
        exact q _ _ e1 m1 r1
      · cases h
    · cases h

/-! ### len -/
def fLen (st : Store) (ds : List D) : Option D := match ds with
  | [.str s] => if s.length ≤ sizeLine then some (.int s.length) else none
  | [.ref n] => match st[n]? with
    | some (.lst xs) => some (.int xs.length)
    | some (.dk kvs) => some (.int kvs.length)
    | _ => none
  | [d] => (seqOf st d).map fun xs => .int xs.length
  | _ => none
def rLen (K : PySem.W.Frag) : List V → Hp → VK → Prop := fun xs H Q => (∃ x n, xs = [x] ∧ LenV K x H n ∧ Q (.int n) H) ∨ (∃ a kvs, xs = [V.ref a] ∧ H a = some (.dK kvs) ∧ Q (.int kvs.length) H)
theorem call_lenA {X : Cx} : CallR X (.builtin "len") (rLen X.K) := CallR.or call_len call_lenD
theorem RKV.length {κ : Type} {T : Tab} {ρ : Rho} {st : Store} {H : Hp} : ∀ {ds : List (κ × D)} {vs : List (κ × V)}, RKV T ρ st H ds vs → ds.length = vs.length
  | [], vs, h => by simp only [RKV] at h; rw [h]; rfl
  | (k, d) :: ds, vs, h => by
    obtain ⟨x, xs, e, _, t⟩ := h
    rw [e, List.length_cons, List.length_cons, RKV.length t]
theorem RAll.one {T : Tab} {ρ : Rho} {st : Store} {H : Hp} {d : D} {vs : List V} (h : RAll T ρ st H [d] vs) : ∃ x, vs = [x] ∧ R T ρ st H d x := by
  simp only [RAll] at h
  obtain ⟨x, xs, e, r, e2⟩ := h
  subst e2
  exact ⟨x, e, r⟩
theorem v_len {T : Tab} : VN T (rLen T.K) fLen := by
  intro ρ st H ds xs v Q m rx h q
  unfold fLen at h
  split at h
  · obtain ⟨x, rfl, r⟩ := rx.one
    split at h
    · rename_i hz
      cases h
      exact .inl ⟨_, _, rfl, by rw [R.str_of r]; exact ⟨hz, rfl⟩, q H _ .refl m R.int⟩
    · cases h
  · obtain ⟨x, rfl, r⟩ := rx.one
    split at h
    · rename_i hst
      cases h
      obtain ⟨a, e, _, vs, ha, ra⟩ := m.at_ r hst
      subst e
      exact .inl ⟨_, _, rfl, .inl ⟨vs, SqL.of ha, rfl⟩, q H _ .refl m (by rw [ra.length]; exact R.int)⟩
    · rename_i hst
      cases h
      obtain ⟨a, e, _, vs, ha, ra⟩ := m.at_ r hst
      subst e
      exact .inr ⟨a, vs, rfl, ha, q H _ .refl m (by rw [ra.length]; exact R.int)⟩
    · cases h
  · obtain ⟨x, rfl, r⟩ := rx.one
    rename_i d _ _
    cases hs : seqOf st d with
    | none => rw [hs] at h; cases h
    | some es =>
      rw [hs] at h
      cases h
      obtain ⟨a, vs, e, hq, ra⟩ := seq_ok m r hs
      subst e
      refine .inl ⟨_, vs.length, rfl, hq.elim (fun z => .inl ⟨vs, z, rfl⟩) fun z => .inr ⟨vs, z, rfl⟩, q H _ .refl m ?_⟩
      show R T ρ st H (.int es.length) _
      rw [ra.length]
      exact R.int
  · cases h

/-! ### items -/
def fItem (st : Store) (d e : D) : Option D := match e with
  | .int i => (seqOf st d).bind fun xs => atI xs i
  | _ => none
theorem RAll.atI {T : Tab} {ρ : Rho} {st : Store} {H : Hp} {ds : List D} {vs : List V} {i : Int} {d : D} (h : RAll T ρ st H ds vs) (e : L2.atI ds i = some d) : ∃ x, L2.atI vs i = some x ∧ R T ρ st H d x := by
  unfold L2.atI at e ⊢
  rw [← h.length]
  cases q : ixN ds.length i with
  | none => rw [q] at e; cases e
  | some j =>
    rw [q] at e
    exact h.get e
theorem v_item {T : Tab} : V2 T (rIx T.K) fItem := by
  intro ρ st H d e x y v Q m rx ry h q
  unfold fItem at h
  split at h
  · rename_i i
    cases hs : seqOf st d with
    | none => rw [hs] at h; cases h
    | some ds =>
      rw [hs] at h
      obtain ⟨a, vs, ea, hq, ra⟩ := seq_ok m rx hs
      obtain ⟨z, hz, rz⟩ := ra.atI h
      rcases hq with hq | hq
      · exact .inl ⟨a, vs, i, z, ea, R.int_of ry, hq, hz, q H _ .refl m rz⟩
      · exact .inr (.inl ⟨a, vs, i, z, ea, R.int_of ry, hq, hz, q H _ .refl m rz⟩)
  · cases h
section
variable {X : Cx} {fl : Fls} {Wx : WX} {e a b : Expr} {es : List Expr} {ma mb : EM} {mA : AM} {p pos : Pos}
theorem de_item (ha : DE X fl Wx a ma) (hb : DE X fl Wx b mb) (hs : PlainIx b) : DE X fl Wx (.Subscript a b pos) (e2 fItem ma mb) :=
  pe_imp (pe_ix ix_seq ha hb hs) fun _ _ _ h => go2 v_item h
/-- a built-in function, a built-in class, called -/
theorem de_b {id : String} {x : Str} {r : List V → Hp → VK → Prop} {f : Store → List D → Option D} (hc : CallR X (.builtin id) r) (hv : VN (XT X fl) r f) (hg : Gl X x) (hm : X.mg x = none) (hvb : bootBuiltins x = some (.builtin id)) (ha : DA X fl Wx (e :: es) mA)
    (hn : x ≠ "__name__" := by decide) (hdb : (x == ("__debug__" : Str)) = false := by decide) (he : starEach (e :: es) X.env = (false, eval e X.env) :: starEach es X.env := by rfl) (hpl : (backTo pos (starEach es X.env)).any (·.1) = false := by rfl) :
    DE X fl Wx (.Call (.Name x p) (e :: es) [] pos) (eN f mA) :=
  pe_imp (pe_callB hc hg hm hvb ha hn hdb he hpl) fun _ _ _ h => goN hv h
theorem de_ty {id : String} {x : Str} {r : List V → Hp → VK → Prop} {f : Store → List D → Option D} (hc : CallR X (.type id) r) (hv : VN (XT X fl) r f) (hg : Gl X x) (hm : X.mg x = none) (hvb : bootBuiltins x = some (.type id)) (ha : DA X fl Wx (e :: es) mA)
    (hn : x ≠ "__name__" := by decide) (hdb : (x == ("__debug__" : Str)) = false := by decide) (he : starEach (e :: es) X.env = (false, eval e X.env) :: starEach es X.env := by rfl) (hpl : (backTo pos (starEach es X.env)).any (·.1) = false := by rfl) :
    DE X fl Wx (.Call (.Name x p) (e :: es) [] pos) (eN f mA) :=
  pe_imp (pe_callTy hc hg hm hvb ha hn hdb he hpl) fun _ _ _ h => goN hv h
end

/-! ### int(n), list(xs), tuple(xs) -/
def fInt (_ : Store) (ds : List D) : Option D := match ds with
  | [.int i] => some (.int i)
  | [.bl b] => some (.int (if b then 1 else 0))
  | _ => none
theorem v_int1 {T : Tab} : VN T (fun xs H Q => (∃ i, xs = [.int i] ∧ Q (.int i) H) ∨ ∃ k, xs = [.bl k] ∧ Q (.int (if k then 1 else 0)) H) fInt := by
  intro ρ st H ds xs v Q m rx h q
  unfold fInt at h
  split at h
  · obtain ⟨x, rfl, r⟩ := rx.one
    cases h
    exact .inl ⟨_, by rw [R.int_of r], q H _ .refl m R.int⟩
  · obtain ⟨x, rfl, r⟩ := rx.one
    cases h
    exact .inr ⟨_, by rw [R.bl_of r], q H _ .refl m R.int⟩
  · cases h
def fTuple (st : Store) (ds : List D) : Option D := match ds with
  | [d] => (seqOf st d).map .tup
  | _ => none
theorem v_tuple {T : Tab} : VN T (fun xs H Q => ∃ p ys, xs = [.ref p] ∧ ((SqL T.K H p ys ∧ ∀ l, H l = none → Q (.ref l) (upd H l (.tup ys))) ∨ (SqT T.K H p ys ∧ Q (.ref p) H))) fTuple := by
  intro ρ st H ds xs v Q m rx h q
  unfold fTuple at h
  split at h
  · rename_i d
    obtain ⟨x, rfl, r⟩ := rx.one
    cases d with
    | tup es =>
      cases h
      obtain ⟨a, vs, e, hq, ra⟩ := r.tup_of
      subst e
      exact ⟨a, vs, rfl, .inr ⟨hq, q H _ .refl m r⟩⟩
    | lst es =>
      cases h
      obtain ⟨a, vs, e, hq, ra⟩ := r.lst_of
      subst e
      refine ⟨a, vs, rfl, .inl ⟨SqL.of hq, fun p hp => ?_⟩⟩
      obtain ⟨e1, m1, r1⟩ := new_tup m ra hp
      exact q _ _ e1 m1 r1
    | ref n =>
      cases hs : seqOf st (.ref n) with
      | none => rw [hs] at h; cases h
      | some es =>
        rw [hs] at h
        cases h
        have hl : lstOf st (.ref n) = some es := hs
        obtain ⟨a, vs, e, hq, ra⟩ := lst_ok m r hl
        subst e
        refine ⟨a, vs, rfl, .inl ⟨SqL.of hq, fun p hp => ?_⟩⟩
        obtain ⟨e1, m1, r1⟩ := new_tup m ra hp
        exact q _ _ e1 m1 r1
    | _ => cases h
  · cases h
def fList (st : Store) (ds : List D) : Option D := match ds with
  | [d] => (seqOf st d).map .lst
  | _ => none
theorem v_list {T : Tab} : VN T (fun xs H Q => ∃ p ys, xs = [.ref p] ∧ (SqL T.K H p ys ∨ SqT T.K H p ys) ∧ ∀ l, H l = none → Q (.ref l) (upd H l (.lst ys))) fList := by
  intro ρ st H ds xs v Q m rx h q
  unfold fList at h
  split at h
  · rename_i d
    obtain ⟨x, rfl, r⟩ := rx.one
    cases hs : seqOf st d with
    | none => rw [hs] at h; cases h
    | some es =>
      rw [hs] at h
      cases h
      obtain ⟨a, vs, e, hq, ra⟩ := seq_ok m r hs
      subst e
      refine ⟨a, vs, rfl, hq, fun p hp => ?_⟩
      obtain ⟨e1, m1, r1⟩ := new_lst m ra hp
      exact q _ _ e1 m1 r1
  · cases h

/-! ### data: what is shown, what is equal -/
def mapO {α β : Type} (f : α → Option β) : List α → Option (List β)
  | [] => some []
  | a :: as => (f a).bind fun b => (mapO f as).map (b :: ·)
@[simp] theorem mapO_nil {α β : Type} (f : α → Option β) : mapO f [] = some [] := rfl
@[simp] theorem mapO_cons {α β : Type} (f : α → Option β) (a : α) (as : List α) : mapO f (a :: as) = (f a).bind fun b => (mapO f as).map (b :: ·) := rfl
def keyPy : Key → PyData
  | .inl i => .int i
  | .inr x => .str x
def toPy (st : Store) : Nat → D → Option PyData
  | 0, _ => none
  | _ + 1, .non => some .none
  | _ + 1, .bl b => some (.bool b)
  | _ + 1, .int i => some (.int i)
  | _ + 1, .str s => some (.str s)
  | n + 1, .tup ds => (mapO (toPy st n) ds).map .tuple
  | n + 1, .lst ds => (mapO (toPy st n) ds).map .list
  | n + 1, .ref k => match st[k]? with
    | some (.lst ds) => (mapO (toPy st n) ds).map .list
    | some (.dk kvs) => (mapO (fun p => (toPy st n p.2).map fun v => (keyPy p.1, v)) kvs).map .dict
    | _ => none
  | _, _ => none
/-- sys.modules is part of the ground -/
def SysB (base : Heap) : Prop := ∃ o, base.get? sysModules = some o
theorem SysB.ne {X : Cx} {pins : List (Addr × Obj)} {σ : L2.St} {H : Hp} {s : Shared} (hS : SysB X.base) (I : Inv X pins σ H s) {a : Addr} {o : HO} (h : H a = some o) : sysModules ≠ a := fun z => by
  obtain ⟨u, q⟩ := hS
  have := (I.bs _ u q).2
  rw [z, h] at this
  cases this
section
variable {X : Cx} {fl : Fls} {pins : List (Addr × Obj)} {σ : L2.St} {ρ : Rho} {st : Store} {H : Hp} {s : Shared}
theorem reads_entries {P : Program} {w : World} {f : D → Option PyData}
    (item : ∀ (d : D) (x : V) (u : Value) (p : PyData), R (XT X fl) ρ st H d x → RelV x u → f d = some p → ∃ as, Reads s.heap u p as ∧ sysModules ∉ as) :
    ∀ {kvs : List (Key × D)} {xs : List (Key × V)} {vs : List (Key × Value)} {es : List DictEntry} {ps : List (PyData × PyData)}, RKV (XT X fl) ρ st H kvs xs → KV xs vs → Pairs (mixKind P w) es vs → mapO (fun p : Key × D => (f p.2).map fun v => (keyPy p.1, v)) kvs = some ps →
      ∃ bs, ReadsAll s.heap (es.map (·.key)) (ps.map (·.1)) [] ∧ ReadsAll s.heap (es.map (·.val)) (ps.map (·.2)) bs ∧ sysModules ∉ bs := by
  intro kvs
  induction kvs with
  | nil =>
    intro xs vs es ps h1 h2 h3 h4
    simp only [RKV] at h1
    subst h1
    cases h2
    cases h3
    simp only [mapO_nil, Option.some.injEq] at h4
    subst h4
    exact ⟨[], .nil, .nil, fun z => by cases z⟩
  | cons p kvs ih =>
    intro xs vs es ps h1 h2 h3 h4
    obtain ⟨k, d⟩ := p
    obtain ⟨x, xs', e1, rx, rxs⟩ := h1
    subst e1
    cases h2 with
    | @cons a b l₁ l₂ h2 h2s =>
      obtain ⟨k', u⟩ := b
      obtain ⟨rfl, ru⟩ := h2
      cases h3 with
      | cons h3 hv h3s =>
        rename_i e es'
        rw [mapO_cons] at h4
        cases q : f d with
        | none => rw [q] at h4; cases h4
        | some pd =>
          rw [q] at h4
          cases q2 : mapO (fun p : Key × D => (f p.2).map fun v => (keyPy p.1, v)) kvs with
          | none => rw [q2] at h4; cases h4
          | some ps' =>
            rw [q2] at h4
            cases h4
            obtain ⟨bs, r1, r2, r3⟩ := ih rxs h2s h3s q2
            obtain ⟨as, g1, g2⟩ := item d x u pd rx ru q
            refine ⟨as ++ bs, ?_, ?_, fun hm => ?_⟩
            · have hk : Reads s.heap e.key (keyPy k) [] := by
                rcases keyIs_shape (show keyIs k e.key = true from h3) with ⟨i, t, rfl, e2⟩ | ⟨i, t, rfl, e2⟩
                · rw [e2]; exact Reads.int i t
                · rw [e2]; exact Reads.str i t
              exact ReadsAll.cons (as := []) hk r1
            · have hv' : e.val = u := hv
              rw [List.map_cons, List.map_cons, hv']
              exact ReadsAll.cons g1 r2
            · rcases List.mem_append.mp hm with hm | hm
              · exact g2 hm
              · exact r3 hm
theorem reads_all {f : D → Option PyData}
    (item : ∀ (d : D) (x : V) (u : Value) (p : PyData), R (XT X fl) ρ st H d x → RelV x u → f d = some p → ∃ as, Reads s.heap u p as ∧ sysModules ∉ as) :
    ∀ {ds : List D} {xs : List V} {us : List Value} {ps : List PyData}, RAll (XT X fl) ρ st H ds xs → Vals xs us → mapO f ds = some ps → ∃ as, ReadsAll s.heap us ps as ∧ sysModules ∉ as
  | [], xs, us, ps, h1, h2, h3 => by
    simp only [RAll] at h1
    subst h1
    cases h2
    simp only [mapO_nil, Option.some.injEq] at h3
    subst h3
    exact ⟨[], .nil, fun z => by cases z⟩
  | d :: ds, xs, us, ps, h1, h2, h3 => by
    simp only [RAll] at h1
    obtain ⟨x, xs', e1, rx, rxs⟩ := h1
    subst e1
    cases h2 with
    | cons r2 r2s =>
      rw [mapO_cons] at h3
      cases q : f d with
      | none => rw [q] at h3; cases h3
      | some pd =>
        rw [q] at h3
        cases q2 : mapO f ds with
        | none => rw [q2] at h3; cases h3
        | some ps' =>
          rw [q2] at h3
          cases h3
          obtain ⟨as, g1, g2⟩ := item d x _ pd rx r2 q
          obtain ⟨bs, r1, r3⟩ := reads_all item rxs r2s q2
          refine ⟨as ++ bs, .cons g1 r1, fun hm => ?_⟩
          rcases List.mem_append.mp hm with hm | hm
          · exact g2 hm
          · exact r3 hm
theorem map_some {α β : Type} {o : Option α} {f : α → β} {b : β} (h : o.map f = some b) : ∃ a, o = some a ∧ f a = b := by
  cases o with
  | none => cases h
  | some a => exact ⟨a, rfl, Option.some.inj h⟩
theorem toPy_reads (hS : SysB X.base) (I : Inv X pins σ H s) (m : Mt (XT X fl) ρ st H) : ∀ (n : Nat) (d : D) (x : V) (u : Value) (p : PyData), R (XT X fl) ρ st H d x → RelV x u → toPy st n d = some p → ∃ as, Reads s.heap u p as ∧ sysModules ∉ as
  | 0, d, x, u, p, _, _, h => by cases h
  | n + 1, .non, x, u, p, r, ru, h => by
    cases R.non_of r
    cases ru
    cases h
    exact ⟨_, .none, fun z => by cases z⟩
  | n + 1, .bl b, x, u, p, r, ru, h => by
    cases R.bl_of r
    cases ru
    cases h
    exact ⟨_, .bool b, fun z => by cases z⟩
  | n + 1, .int b, x, u, p, r, ru, h => by
    cases R.int_of r
    obtain ⟨t, rfl⟩ := ru
    cases h
    exact ⟨_, .int b t, fun z => by cases z⟩
  | n + 1, .str b, x, u, p, r, ru, h => by
    cases R.str_of r
    obtain ⟨t, rfl⟩ := ru
    cases h
    exact ⟨_, .str b t, fun z => by cases z⟩
  | n + 1, .tup ds, x, u, p, r, ru, h => by
    obtain ⟨ps, hq, rfl⟩ := map_some (show (mapO (toPy st n) ds).map .tuple = some p from h)
    obtain ⟨a, vs, rfl, ha, ra⟩ := r.tup_of
    cases ru
    obtain ⟨its, rv, ⟨o, ho, hc, k, hd⟩, _⟩ := I.tuple ha
    obtain ⟨as, g1, g2⟩ := reads_all (fun d x u p => toPy_reads hS I m n d x u p) ra rv hq
    exact ⟨as, .tuple ho hc hd (by simpa using g1), g2⟩
  | n + 1, .lst ds, x, u, p, r, ru, h => by
    obtain ⟨ps, hq, rfl⟩ := map_some (show (mapO (toPy st n) ds).map .list = some p from h)
    obtain ⟨a, vs, rfl, ha, ra⟩ := r.lst_of
    cases ru
    obtain ⟨its, rv, ⟨o, k, ho, hc, _, hd⟩, _⟩ := I.list (SqL.of ha)
    obtain ⟨as, g1, g2⟩ := reads_all (fun d x u p => toPy_reads hS I m n d x u p) ra rv hq
    exact ⟨_, .list ho hc hd (by simpa using g1), fun z => (List.mem_cons.mp z).elim (hS.ne I ha) g2⟩
  | n + 1, .ref k, x, u, p, r, ru, h => by
    simp only [toPy] at h
    cases q : st[k]? with
    | none => rw [q] at h; cases h
    | some o =>
      rw [q] at h
      obtain ⟨a, rfl, _, ho⟩ := m.at_ r q
      cases ru
      cases o with
      | lst ds =>
        obtain ⟨ps, hq, rfl⟩ := map_some (show (mapO (toPy st n) ds).map .list = some p from h)
        obtain ⟨vs, ha, ra⟩ := ho
        obtain ⟨its, rv, ⟨o, k', ho, hc, _, hd⟩, _⟩ := I.list (SqL.of ha)
        obtain ⟨as, g1, g2⟩ := reads_all (fun d x u p => toPy_reads hS I m n d x u p) ra rv hq
        exact ⟨_, .list ho hc hd (by simpa using g1), fun z => (List.mem_cons.mp z).elim (hS.ne I ha) g2⟩
      | dk kvs =>
        obtain ⟨ps, hq, rfl⟩ := map_some (show (mapO (fun p : Key × D => (toPy st n p.2).map fun v => (keyPy p.1, v)) kvs).map .dict = some p from h)
        obtain ⟨vs, ha, ra⟩ := ho
        obtain ⟨_, hsm, ws, kv, o, es, ep, ho, hx, hd, _, pr, _⟩ := dk_of I.hok ha
        obtain ⟨bs, g0, g1, g2⟩ := reads_entries (fun d x u p => toPy_reads hS I m n d x u p) ra kv pr hq
        refine ⟨_, .dict (as := []) ho hx.1 hd g0 g1, fun hm => ?_⟩
        rcases List.mem_append.mp hm with hm | hm
        · have e : sysModules = a := by simpa using hm
          rw [← e] at hsm
          simp at hsm
        · exact g2 hm
      | _ => cases h
  | n + 1, .ob _ _, x, u, p, _, _, h => by cases h
  | n + 1, .cst _, x, u, p, _, _, h => by cases h
  | n + 1, .clo _ _, x, u, p, _, _, h => by cases h
  | n + 1, .er _ _, x, u, p, _, _, h => by cases h
  | n + 1, .gl _, x, u, p, _, _, h => by cases h
  | n + 1, .scr _, x, u, p, _, _, h => by cases h
end
end DL
/-! DL7: repr, == and != of data, is, isinstance; the store changed. -/
namespace DL
open PySem PySem.Spec PyProof.Rows L2

/-! ### repr -/
def fRepr (st : Store) (ds : List D) : Option D := match ds with
  | [d] => match toPy st 60 d with
    | some p => if p.showable = true ∧ p.shown.length ≤ sizeLine ∧ p.depth ≤ 60 then some (.str p.shown) else none
    | none => none
  | _ => none
def rRepr (T : Tab) : List V → Hp → VK → Prop := fun xs H Q => ∃ ρ st d x p, xs = [x] ∧ Mt T ρ st H ∧ R T ρ st H d x ∧ toPy st 60 d = some p ∧ p.showable = true ∧ p.shown.length ≤ sizeLine ∧ p.depth ≤ 60 ∧ Q (.str p.shown) H
theorem call_repr {X : Cx} {fl : Fls} {k : Nat} (hr : RoomG k X.A) (hS : SysB X.base) : CallR X (.builtin "repr") (rRepr (XT X fl)) := by
  intro pins s σ H xs us Q I r h
  obtain ⟨ρ, st, d, x, p, rfl, m, rd, hp, h1, h2, h3, q⟩ := h
  obtain ⟨u, rfl, ru⟩ := vals1 r
  obtain ⟨as, g1, g2⟩ := toPy_reads hS I m 60 d x u p rd ru hp
  have hu := hr.rm.units
  cases g1 with
  | none => exact PySem.P.repr_of_none ⟨.str _, H, I.tok _, ⟨_, rfl⟩, q⟩
  | bool b => exact PySem.P.repr_of_bool ⟨.str _, H, I.tok _, ⟨_, rfl⟩, q⟩
  | int i t =>
    have hi : i.natAbs.log2 < 1920 := of_decide_eq_true h1
    exact PySem.P.repr_of_int hi ⟨.str _, H, I.tok _, ⟨_, rfl⟩, q⟩
  | str y t => exact PySem.P.repr_of_str ⟨.str _, H, I.tok _, ⟨_, rfl⟩, q⟩ h2
  | list e1 e2 e3 e4 =>
    refine repr_of_reads' (.list e1 e2 e3 e4) h1 (fun _ => g2) hr.gd (by omega) (fun _ _ e => e) (fun h' u tk hk => ⟨.str _, H, I.kept hk, ⟨_, rfl⟩, q⟩) h2
  | tuple e1 e2 e3 e4 =>
    refine repr_of_reads' (.tuple e1 e2 e3 e4) h1 (fun _ => g2) hr.gd (by omega) (fun _ _ e => e) (fun h' u tk hk => ⟨.str _, H, I.kept hk, ⟨_, rfl⟩, q⟩) h2
  | dict e1 e2 e3 e4 e5 =>
    refine repr_of_reads' (.dict e1 e2 e3 e4 e5) h1 (fun _ => g2) hr.gd (by omega) (fun _ _ e => e) (fun h' u tk hk => ⟨.str _, H, I.kept hk, ⟨_, rfl⟩, q⟩) h2
theorem v_repr {T : Tab} : VN T (rRepr T) fRepr := by
  intro ρ st H ds xs v Q m rx h q
  unfold fRepr at h
  split at h
  · rename_i d
    obtain ⟨x, rfl, r⟩ := rx.one
    cases hp : toPy st 60 d with
    | none => rw [hp] at h; cases h
    | some p =>
      rw [hp] at h
      dsimp only at h
      split at h
      · rename_i hc
        cases h
        exact ⟨ρ, st, d, x, p, rfl, m, r, hp, hc.1, hc.2.1, hc.2.2, q H _ .refl m R.str⟩
      · cases h
  · cases h

/-! ### == -/
def fEqP (st : Store) (d e : D) : Option D := match toPy st 60 d, toPy st 60 e with
  | some p, some q => if SeqAt.shaped p = true ∧ SeqAt.shaped q = true then some (.bl (PyData.eqv p q)) else none
  | _, _ => none
def fNeP (st : Store) (d e : D) : Option D := match toPy st 60 d, toPy st 60 e with
  | some p, some q => if SeqAt.shaped p = true ∧ SeqAt.shaped q = true then some (.bl (!PyData.eqv p q)) else none
  | _, _ => none
def rEqP (T : Tab) (neg : Bool) : R2 := fun x y H Q => ∃ ρ st d e p q, Mt T ρ st H ∧ R T ρ st H d x ∧ R T ρ st H e y ∧ toPy st 60 d = some p ∧ toPy st 60 e = some q ∧ SeqAt.shaped p = true ∧ SeqAt.shaped q = true ∧ Q (.bl (if neg = true then !PyData.eqv p q else PyData.eqv p q)) H
theorem op_eqP {X : Cx} {fl : Fls} {k : Nat} (hr : RoomG k X.A) (hS : SysB X.base) : OpR X (compareOp .Eq) (rEqP (XT X fl) false) := by
  intro pins s σ H x y v u Q I rx ry h
  obtain ⟨ρ, st, d, e, p, q, m, rd, re, hp, hq, sp, sq, hQ⟩ := h
  obtain ⟨as, g1, _⟩ := toPy_reads hS I m 60 d x v p rd rx hp
  obtain ⟨bs, g2, _⟩ := toPy_reads hS I m 60 e y u q re ry hq
  exact SeqAt.compareEq_shaped g1 g2 sp sq hr.rm.units ⟨.bl _, H, I, rfl, hQ⟩
theorem op_neP {X : Cx} {fl : Fls} {k : Nat} (hr : RoomG k X.A) (hS : SysB X.base) : OpR X (compareOp .NotEq) (rEqP (XT X fl) true) := by
  intro pins s σ H x y v u Q I rx ry h
  obtain ⟨ρ, st, d, e, p, q, m, rd, re, hp, hq, sp, sq, hQ⟩ := h
  obtain ⟨as, g1, _⟩ := toPy_reads hS I m 60 d x v p rd rx hp
  obtain ⟨bs, g2, _⟩ := toPy_reads hS I m 60 e y u q re ry hq
  exact SeqAt.compareNe_shaped g1 g2 sp sq hr.rm.units ⟨.bl _, H, I, rfl, hQ⟩
theorem v_eqP {T : Tab} : V2 T (rEqP T false) fEqP := by
  intro ρ st H d e x y v Q m rx ry h hq
  unfold fEqP at h
  split at h
  · rename_i p q hp hq'
    split at h
    · rename_i hc
      cases h
      exact ⟨ρ, st, d, e, p, q, m, rx, ry, hp, hq', hc.1, hc.2, hq H _ .refl m R.bl⟩
    · cases h
  · cases h
theorem v_neP {T : Tab} : V2 T (rEqP T true) fNeP := by
  intro ρ st H d e x y v Q m rx ry h hq
  unfold fNeP at h
  split at h
  · rename_i p q hp hq'
    split at h
    · rename_i hc
      cases h
      exact ⟨ρ, st, d, e, p, q, m, rx, ry, hp, hq', hc.1, hc.2, hq H _ .refl m R.bl⟩
    · cases h
  · cases h

/-- ints, texts, None, bools -/
def scalD : D → D → Option Bool
  | .non, .non => some true
  | .bl a, .bl b => some (a == b)
  | .int a, .int b => some (a == b)
  | .str a, .str b => some (a == b)
  | _, _ => none
theorem scal_ok {T : Tab} {ρ : Rho} {st : Store} {H : Hp} {d e : D} {x y : V} {b : Bool} (rx : R T ρ st H d x) (ry : R T ρ st H e y) (h : scalD d e = some b) : scal x y = true ∧ decide (x = y) = b := by
  unfold scalD at h
  split at h
  · cases R.non_of rx; cases R.non_of ry; cases h; exact ⟨rfl, rfl⟩
  · cases R.bl_of rx; cases R.bl_of ry; cases h; exact ⟨rfl, by rw [Bool.eq_iff_iff]; simp⟩
  · cases R.int_of rx; cases R.int_of ry; cases h; exact ⟨rfl, by rw [Bool.eq_iff_iff]; simp⟩
  · cases R.str_of rx; cases R.str_of ry; cases h; exact ⟨rfl, by rw [Bool.eq_iff_iff]; simp⟩
  · cases h
def fEq (st : Store) (d e : D) : Option D := match scalD d e with
  | some b => some (.bl b)
  | none => fEqP st d e
def fNe (st : Store) (d e : D) : Option D := match scalD d e with
  | some b => some (.bl !b)
  | none => fNeP st d e
def rEqA (T : Tab) (neg : Bool) : R2 := fun x y H Q => rEqP T neg x y H Q ∨ (scal x y = true ∧ Q (.bl (if neg = true then !decide (x = y) else decide (x = y))) H)
theorem op_eqA {X : Cx} {fl : Fls} {k : Nat} (hr : RoomG k X.A) (hS : SysB X.base) : OpR X (compareOp .Eq) (rEqA (XT X fl) false) := by
  intro pins s σ H x y v u Q I rx ry h
  rcases h with h | h
  · exact op_eqP hr hS pins s σ H x y v u Q I rx ry h
  · exact op_eq pins s σ H x y v u Q I rx ry h
theorem op_neA {X : Cx} {fl : Fls} {k : Nat} (hr : RoomG k X.A) (hS : SysB X.base) : OpR X (compareOp .NotEq) (rEqA (XT X fl) true) := by
  intro pins s σ H x y v u Q I rx ry h
  rcases h with h | h
  · exact op_neP hr hS pins s σ H x y v u Q I rx ry h
  · exact op_ne pins s σ H x y v u Q I rx ry h
theorem v_eq {T : Tab} : V2 T (rEqA T false) fEq := by
  intro ρ st H d e x y v Q m rx ry h hq
  unfold fEq at h
  cases hs : scalD d e with
  | some b =>
    rw [hs] at h
    cases h
    obtain ⟨h1, h2⟩ := scal_ok rx ry hs
    exact .inr ⟨h1, by rw [if_neg (by decide), h2]; exact hq H _ .refl m R.bl⟩
  | none =>
    rw [hs] at h
    exact .inl (v_eqP ρ st H d e x y v Q m rx ry h hq)
theorem v_ne {T : Tab} : V2 T (rEqA T true) fNe := by
  intro ρ st H d e x y v Q m rx ry h hq
  unfold fNe at h
  cases hs : scalD d e with
  | some b =>
    rw [hs] at h
    cases h
    obtain ⟨h1, h2⟩ := scal_ok rx ry hs
    exact .inr ⟨h1, by rw [if_pos rfl, h2]; exact hq H _ .refl m R.bl⟩
  | none =>
    rw [hs] at h
    exact .inl (v_neP ρ st H d e x y v Q m rx ry h hq)

/-! ### is None, is True, is False -/
def isNonD : D → Option Bool
  | .non => some true
  | .cst _ => none
  | .clo _ _ => none
  | .scr _ => none
  | .er _ _ => none
  | .gl _ => none
  | _ => some false
theorem isNon_ok {T : Tab} {ρ : Rho} {st : Store} {H : Hp} {d : D} {x : V} {b : Bool} (r : R T ρ st H d x) (h : isNonD d = some b) : decide (x = .non) = b := by
  cases d with
  | non => cases R.non_of r; cases h; rfl
  | bl i => cases R.bl_of r; cases h; rfl
  | int i => cases R.int_of r; cases h; rfl
  | str i => cases R.str_of r; cases h; rfl
  | tup ds => obtain ⟨a, vs, rfl, _⟩ := r.tup_of; cases h; rfl
  | lst ds => obtain ⟨a, vs, rfl, _⟩ := r.lst_of; cases h; rfl
  | ob c ds => simp only [R] at r; obtain ⟨a, C, dx, vs, rfl, _⟩ := r; cases h; rfl
  | ref n => simp only [R] at r; obtain ⟨a, rfl, _⟩ := r; cases h; rfl
  | _ => cases h
def fIsN (_ : Store) (d e : D) : Option D := match e with
  | .non => (isNonD d).map .bl
  | _ => none
def fNotN (_ : Store) (d e : D) : Option D := match e with
  | .non => (isNonD d).map fun b => .bl !b
  | _ => none
theorem v_isN {T : Tab} : V2 T (fun x y H Q => y = .non ∧ Q (.bl (decide (x = .non))) H) fIsN := by
  intro ρ st H d e x y v Q m rx ry h hq
  unfold fIsN at h
  split at h
  · cases hb : isNonD d with
    | none => rw [hb] at h; cases h
    | some b =>
      rw [hb] at h
      cases h
      exact ⟨R.non_of ry, by rw [isNon_ok rx hb]; exact hq H _ .refl m R.bl⟩
  · cases h
theorem v_notN {T : Tab} : V2 T (fun x y H Q => y = .non ∧ Q (.bl (!decide (x = .non))) H) fNotN := by
  intro ρ st H d e x y v Q m rx ry h hq
  unfold fNotN at h
  split at h
  · cases hb : isNonD d with
    | none => rw [hb] at h; cases h
    | some b =>
      rw [hb] at h
      cases h
      exact ⟨R.non_of ry, by rw [isNon_ok rx hb]; exact hq H _ .refl m R.bl⟩
  · cases h

/-! ### isinstance -/
/-- what a class of the text must have (for isinstance) -/
structure OwnC (K : PySem.W.Frag) (C : Addr) : Prop where
  cl : Cls K C
  ha : PySem.W.findIn K (.ref C) "__class__" = some (some (.builtin "object.__class__"))
  hn : PySem.W.specialIn K (.builtin "object.__class__") "__get__" = some (some (.builtin "getset_descriptor.__get__"))
  htk : PySem.W.takesIn K (.builtin "object.__class__") = some true
  hm : PySem.W.mroIn K C (.type "object") = some true
inductive Kd where
  | ty (n : String) | own (c : Str)
  deriving DecidableEq
def kdOf (st : Store) : D → Option Kd
  | .non => some (.ty "NoneType")
  | .bl _ => some (.ty "bool")
  | .int _ => some (.ty "int")
  | .str _ => some (.ty "str")
  | .tup _ => some (.ty "tuple")
  | .lst _ => some (.ty "list")
  | .ob c _ => some (.own c)
  | .ref n => match st[n]? with
    | some (.lst _) => some (.ty "list")
    | some (.dk _) => some (.ty "dict")
    | some (.dt _) => some (.ty "dict")
    | some (.ins c _) => some (.own c)
    | _ => none
  | _ => none
/-- the kind as a class -/
def KdV (mg : Str → Option Value) : Kd → Value → Prop
  | .ty n, t => t = .type n
  | .own c, t => ∃ C, mg c = some (.ref C) ∧ t = .ref C
theorem kd_ok {T : Tab} {ρ : Rho} {st : Store} {H : Hp} {d : D} {x : V} {k : Kd} (m : Mt T ρ st H) (r : R T ρ st H d x) (h : kdOf st d = some k) (ho : ∀ c C, k = .own c → T.mg c = some (.ref C) → OwnC T.K C) : ∃ t, KdV T.mg k t ∧ TyX T.K H x t := by
  cases d with
  | non => cases R.non_of r; cases h; exact ⟨_, rfl, .base .non⟩
  | bl i => cases R.bl_of r; cases h; exact ⟨_, rfl, .base (.bl _)⟩
  | int i => cases R.int_of r; cases h; exact ⟨_, rfl, .base (.int _)⟩
  | str i => cases R.str_of r; cases h; exact ⟨_, rfl, .base (.str _)⟩
  | tup ds =>
    simp only [R] at r
    obtain ⟨a, vs, rfl, q, _⟩ := r
    cases h
    rcases q with ⟨q, _⟩ | ⟨o, _, _, q, hc, _⟩
    · exact ⟨_, rfl, .base (.tup q)⟩
    · exact ⟨_, rfl, .kTuple q hc⟩
  | lst ds => obtain ⟨a, vs, rfl, q, _⟩ := r.lst_of; cases h; exact ⟨_, rfl, .base (.lst q)⟩
  | ob c ds =>
    simp only [R] at r
    obtain ⟨a, C, dx, vs, rfl, hc, q, _⟩ := r
    cases h
    have o := ho c C rfl hc
    exact ⟨.ref C, ⟨C, hc, rfl⟩, .base (.ins q o.cl o.ha o.hn o.htk o.hm)⟩
  | ref n =>
    simp only [kdOf] at h
    cases q : st[n]? with
    | none => rw [q] at h; cases h
    | some so =>
      rw [q] at h
      obtain ⟨a, rfl, _, hr⟩ := m.at_ r q
      cases so with
      | lst ds => obtain ⟨vs, q, _⟩ := hr; cases h; exact ⟨_, rfl, .base (.lst q)⟩
      | dk ds => obtain ⟨vs, q, _⟩ := hr; cases h; exact ⟨_, rfl, .base (.dK q)⟩
      | dt ds => obtain ⟨vs, q, _⟩ := hr; cases h; exact ⟨_, rfl, .base (.dT q)⟩
      | ins c ds =>
        obtain ⟨C, dx, vs, hc, q, _⟩ := hr
        cases h
        have o := ho c C rfl hc
        exact ⟨.ref C, ⟨C, hc, rfl⟩, .base (.ins q o.cl o.ha o.hn o.htk o.hm)⟩
      | _ => cases h
  | _ => cases h
/-- what is known of a class u: which kinds are of it -/
structure IsiOk (K : PySem.W.Frag) (mg : Str → Option Value) (u : Value) (isi : Kd → Option Bool) : Prop where
  own : ∀ c C b, isi (.own c) = some b → mg c = some (.ref C) → OwnC K C
  ok : ∀ k t b, isi k = some b → KdV mg k t → PySem.W.kitOne K t u = some b
def fIsi (isi : Kd → Option Bool) (st : Store) (ds : List D) : Option D := match ds with
  | [d, .cst _] => ((kdOf st d).bind isi).map .bl
  | _ => none
theorem v_isi {X : Cx} {fl : Fls} {c : V} {u : Value} {isi : Kd → Option Bool} (k : ClsV c u) (ok : IsiOk X.K X.mg u isi) : ∀ ρ st H d x v Q, Mt (XT X fl) ρ st H → R (XT X fl) ρ st H d x → fIsi isi st [d, .cst c] = some v →
    (∀ H' z, Ext ρ st H ρ st H' → Mt (XT X fl) ρ st H' → R (XT X fl) ρ st H' v z → Q z H') → rIsi X.K [x, c] H Q := by
  intro ρ st H d x v Q m r h q
  simp only [fIsi] at h
  cases hk : kdOf st d with
  | none => rw [hk] at h; cases h
  | some kd =>
    rw [hk] at h
    obtain ⟨b, hb, rfl⟩ := map_some h
    have hb' : isi kd = some b := hb
    obtain ⟨t, ht, ty⟩ := kd_ok m r hk fun c C e hc => ok.own c C b (by rw [← e]; exact hb') hc
    exact ⟨x, c, t, u, b, rfl, k, ty, ok.ok kd t b hb' ht, q H _ .refl m R.bl⟩
def eIsi (isi : Kd → Option Bool) (a : EM) : EM := e1 (fun st d => ((kdOf st d).bind isi).map .bl) a
section
variable {X : Cx} {fl : Fls} {Wx : WX} {e a b : Expr} {es : List Expr} {ma mb : EM} {mA : AM} {p pos : Pos}
/-- isinstance(a, C), C a class by its name -/
theorem de_isi {c : V} {u : Value} {isi : Kd → Option Bool} (hg : Gl X "isinstance") (hm : X.mg "isinstance" = none) (hvb : bootBuiltins "isinstance" = some (.builtin "isinstance")) (k : ClsV c u) (ok : IsiOk X.K X.mg u isi) (ha : DE X fl Wx a ma) (hb : PE X b (tC c))
    (hs : starEach [a, b] X.env = (false, eval a X.env) :: starEach [b] X.env := by rfl) (hs2 : starEach [b] X.env = (false, eval b X.env) :: starEach [] X.env := by rfl) (hpl : (backTo pos (starEach [b] X.env)).any (·.1) = false := by rfl) :
    DE X fl Wx (.Call (.Name "isinstance" p) [a, b] [] pos) (eIsi isi ma) := by
  refine pe_imp (pe_callB call_isi hg hm hvb (pa_cons ha (pa_cons hb pa_nil hs2) hs) (by decide) (by decide) hs hpl) fun σ H Q h => ?_
  obtain ⟨ρ, δ, st, m, en, h⟩ := h
  refine ⟨ρ, δ, st, m, en, (Post.bind h).monoE fun d ρ1 st1 H1 e1 m1 h1 x rx => ?_⟩
  obtain ⟨v, ev, h2⟩ := Post.lift_inv h1
  exact v_isi k ok ρ1 st1 H1 d x v Q m1 rx ev fun H' z e' m' rz => h2 ρ1 H' e' m' z rz
/-- isinstance(a, (S, T)), S and T built-in classes -/
theorem de_isi2 {n1 n2 : Str} {t1 t2 : String} {p1 p2 p3 : Pos} {j : Nat} {isi : Kd → Option Bool} (hg : Gl X "isinstance") (hm : X.mg "isinstance" = none) (hvb : bootBuiltins "isinstance" = some (.builtin "isinstance"))
    (h1 : PE X (.Name n1 p1) (tC (.ty t1))) (h2 : PE X (.Name n2 p2) (tC (.ty t2)))
    (ok : ∀ k t b, isi k = some b → KdV X.mg k t → PySem.W.kitAny X.K t [.type t1, .type t2] = some b) (own : ∀ c C b, isi (.own c) = some b → X.mg c = some (.ref C) → OwnC X.K C) (ha : DE X fl Wx a ma)
    (hs0 : starEach [.Name n1 p1, .Name n2 p2] X.env = (false, eval (.Name n1 p1) X.env) :: starEach [.Name n2 p2] X.env := by rfl) (hs1 : starEach [.Name n2 p2] X.env = (false, eval (.Name n2 p2) X.env) :: starEach [] X.env := by rfl)
    (hs : starEach [a, .Tuple [.Name n1 p1, .Name n2 p2] j p3] X.env = (false, eval a X.env) :: starEach [.Tuple [.Name n1 p1, .Name n2 p2] j p3] X.env := by rfl) (hs2 : starEach [.Tuple [.Name n1 p1, .Name n2 p2] j p3] X.env = (false, eval (.Tuple [.Name n1 p1, .Name n2 p2] j p3) X.env) :: starEach [] X.env := by rfl)
    (hpl : (backTo pos (starEach [.Tuple [.Name n1 p1, .Name n2 p2] j p3] X.env)).any (·.1) = false := by rfl) :
    DE X fl Wx (.Call (.Name "isinstance" p) [a, .Tuple [.Name n1 p1, .Name n2 p2] j p3] [] pos) (eIsi isi ma) := by
  refine pe_imp (pe_callB call_isiT hg hm hvb (pa_cons ha (pa_cons (pe_tup (pa_cons h1 (pa_cons h2 pa_nil hs1) hs0)) pa_nil hs2) hs) (by decide) (by decide) hs hpl) fun σ H Q h => ?_
  obtain ⟨ρ, δ, st, m, en, h⟩ := h
  refine ⟨ρ, δ, st, m, en, (Post.bind h).monoE fun d ρ1 st1 H1 e1 m1 h1 x rx => ⟨(by show 2 ≤ sizeLine; decide), fun tp htp => ?_⟩⟩
  obtain ⟨v, ev, h2⟩ := Post.lift_inv h1
  have ev : ((kdOf st1 d).bind isi).map .bl = some v := ev
  cases hk : kdOf st1 d with
  | none => rw [hk] at ev; cases ev
  | some kd =>
    rw [hk] at ev
    obtain ⟨b, hb, rfl⟩ := map_some ev
    have hb' : isi kd = some b := hb
    have e2 := Ext.new (ρ := ρ1) (st := st1) (o := .tup [V.ty t1, V.ty t2]) m1 htp
    have m2 := m1.new (o := .tup [V.ty t1, V.ty t2]) htp
    obtain ⟨t, ht, ty⟩ := kd_ok m2 (rx.ext e2 _ _) hk fun c C e hc => own c C b (by rw [← e]; exact hb') hc
    exact ⟨x, tp, _, t, _, b, rfl, upd_same, .cons (.ty t1) (.cons (.ty t2) .nil), ty, ok kd t b hb' ht, h2 ρ1 _ e2 m2 _ R.bl⟩
end

/-! ### the store changes -/
section
variable {T : Tab} {ρ : Rho} {st : Store} {H : Hp} {n : Nat} {a : Addr} {o o' : SO} {u : HO}
theorem Live.set {b : Addr} (hn : ρ.ix[n]? = some a) (ho : st[n]? = some o) (hd : o ≠ .dead) (l : Live ρ (st.set n o') b) : Live ρ st b := by
  rcases l with ⟨i, w, h1, h2, h3⟩ | l
  · by_cases hi : n = i
    · subst hi
      rw [hn] at h1
      cases h1
      exact .inl ⟨n, o, hn, ho, hd⟩
    · rw [List.getElem?_set_ne hi] at h2
      exact .inl ⟨i, w, h1, h2, h3⟩
  · exact .inr l
theorem Ext.set (m : Mt T ρ st H) (hn : ρ.ix[n]? = some a) (ho : st[n]? = some o) (hd : o ≠ .dead) : Ext ρ st H ρ (st.set n o') (upd H a u) := by
  have la : Live ρ st a := .inl ⟨n, o, hn, ho, hd⟩
  refine ⟨fun _ _ h => h, fun _ h => h, fun b l => ?_, fun b w _ _ l z => l (z.set hn ho hd), fun b w e _ l => ?_, fun _ _ _ _ k => k⟩
  · exact upd_ne fun z => m.dj b l (by rw [z]; exact List.mem_of_getElem? hn)
  · rw [upd_ne fun z => l (by rw [z]; exact la)]
    exact e
theorem Mt.set (m : Mt T ρ st H) (hn : ρ.ix[n]? = some a) (ho : st[n]? = some o) (hd : o ≠ .dead) (hr : RObj T ρ (st.set n o') (upd H a u) o' a) : Mt T ρ (st.set n o') (upd H a u) := by
  have tr : ∀ {b : Addr}, (∃ w, H b = some w) → ∃ w, upd H a u b = some w := fun {b} ⟨w, q⟩ => by
    by_cases z : b = a
    · exact ⟨u, by rw [z, upd_same]⟩
    · exact ⟨w, by rw [upd_ne z]; exact q⟩
  refine ⟨by rw [List.length_set]; exact m.len, m.nd, fun b hb => tr (m.trk b hb), fun b hb => tr (m.ptr b hb), m.dj, fun i b so h1 h2 => ?_⟩
  by_cases hi : n = i
  · subst hi
    rw [hn] at h1
    cases h1
    have hlt : n < st.length := (List.getElem?_eq_some_iff.mp ho).1
    rw [List.getElem?_set_self hlt] at h2
    cases h2
    exact hr
  · rw [List.getElem?_set_ne hi] at h2
    have ne : b ≠ a := fun z => by
      subst z
      obtain ⟨l1, e1⟩ := List.getElem?_eq_some_iff.mp hn
      obtain ⟨l2, e2⟩ := List.getElem?_eq_some_iff.mp h1
      exact hi ((List.getElem_inj m.nd).mp (e1.trans e2.symm))
    exact (m.obj i b so h1 h2).ext (Ext.set m hn ho hd) (upd_ne ne)
/-- it will not change any more -/
theorem Ext.die (hn : ρ.ix[n]? = some a) (ho : st[n]? = some o) : Ext ρ st H ρ (st.set n .dead) H := by
  refine ⟨fun _ _ h => h, fun _ h => h, fun b l => rfl, fun b w _ _ l z => ?_, fun b w e _ l => e, fun _ _ _ _ k => k⟩
  rcases z with ⟨i, w, h1, h2, h3⟩ | z
  · by_cases hi : n = i
    · subst hi
      have hlt : n < st.length := (List.getElem?_eq_some_iff.mp ho).1
      rw [List.getElem?_set_self hlt] at h2
      exact h3 (Option.some.inj h2).symm
    · rw [List.getElem?_set_ne hi] at h2
      exact l (.inl ⟨i, w, h1, h2, h3⟩)
  · exact l (.inr z)
theorem Mt.die (m : Mt T ρ st H) (hn : ρ.ix[n]? = some a) (ho : st[n]? = some o) : Mt T ρ (st.set n .dead) H := by
  refine ⟨by rw [List.length_set]; exact m.len, m.nd, m.trk, m.ptr, m.dj, fun i b so h1 h2 => ?_⟩
  by_cases hi : n = i
  · subst hi
    have hlt : n < st.length := (List.getElem?_eq_some_iff.mp ho).1
    rw [List.getElem?_set_self hlt] at h2
    cases h2
    trivial
  · rw [List.getElem?_set_ne hi] at h2
    exact (m.obj i b so h1 h2).ext (Ext.die hn ho) rfl
theorem notLive_die (m : Mt T ρ st H) (hn : ρ.ix[n]? = some a) (ho : st[n]? = some o) : ¬ Live ρ (st.set n .dead) a := by
  rintro (⟨i, w, h1, h2, h3⟩ | z)
  · obtain ⟨l1, e1⟩ := List.getElem?_eq_some_iff.mp hn
    obtain ⟨l2, e2⟩ := List.getElem?_eq_some_iff.mp h1
    have hi : n = i := (List.getElem_inj m.nd).mp (e1.trans e2.symm)
    subst hi
    have hlt : n < st.length := (List.getElem?_eq_some_iff.mp ho).1
    rw [List.getElem?_set_self hlt] at h2
    exact h3 (Option.some.inj h2).symm
  · exact m.dj a z (List.mem_of_getElem? hn)
end
/-- xs.append(y) -/
def eApp (a b : EM) : EM := fun δ => a δ >>= fun d st => match d with
  | .ref n => match st[n]? with
    | some (.lst _) => (b δ >>= fun y st1 => match st1[n]? with
      | some (.lst ds) => if ds.length < sizeLine then .ok .non (st1.set n (.lst (ds ++ [y]))) else .stuck
      | _ => .stuck) st
    | _ => .stuck
  | _ => .stuck
section
variable {X : Cx} {fl : Fls} {Wx : WX} {a b : Expr} {ma mb : EM} {apos pos : Pos}
theorem de_app (ha : DE X fl Wx a ma) (hb : DE X fl Wx b mb) (hbase : attributeBase a "append" X.env (eval a X.env) = eval a X.env := by rfl)
    (hfew : ((backTo pos (starEach [b] X.env)).all (fun x => !x.1) && (backToKw pos (keywordEach [] X.env)).all (fun x => x.1.isSome)
      && decide (([b] : List Expr).length + ([] : List Keyword).length + (if ([] : List Keyword).isEmpty then 0 else 1) < 30)) = true := by rfl)
    (hline : (apos.endLine == pos.line) = true := by rfl) (hs : starEach [b] X.env = (false, eval b X.env) :: starEach [] X.env := by rfl) (hplain : (backTo pos (starEach [] X.env)).any (·.1) = false := by rfl) :
    DE X fl Wx (.Call (.Attribute a "append" apos) [b] [] pos) (eApp ma mb) := by
  refine pe_imp (pe_bm PySem.F.plainAttrs_list PySem.F.slot_list_append PySem.F.type_list_append mt_append ha (pa_cons hb pa_nil hs) hbase hfew hline hs hplain) fun σ H Q ⟨ρ, δ, st, m, en, h⟩ => ?_
  refine ⟨ρ, δ, st, m, en, (Post.bind h).monoE fun d ρ1 st1 H1 e1 m1 h1 x rx => ?_⟩
  cases d with
  | ref n =>
    simp only at h1
    cases q : st1[n]? with
    | none => rw [q] at h1; exact False.elim h1
    | some o =>
      rw [q] at h1
      cases o with
      | lst ds0 =>
        obtain ⟨a0, ex, hn, vs0, hq, r0⟩ := m1.at_ rx q
        subst ex
        refine ⟨.inl ⟨rfl, vs0, SqL.of hq⟩, ρ1, δ, st1, m1, en.ext e1, (Post.bind h1).monoE fun y ρ2 st2 H2 e2 m2 h2 z rz => ?_⟩
        cases q2 : st2[n]? with
        | none => rw [q2] at h2; exact False.elim h2
        | some o2 =>
          rw [q2] at h2
          cases o2 with
          | lst ds =>
            simp only at h2
            have hn2 := e2.pre n a0 hn
            obtain ⟨vs, hq2, r2⟩ := m2.obj n a0 _ hn2 q2
            by_cases hl : ds.length < sizeLine
            · rw [if_pos hl] at h2
              have ee := Ext.set (o' := .lst (ds ++ [y])) (u := .lst (vs ++ [z])) m2 hn2 q2 (fun z => by cases z)
              refine ⟨a0, vs, z, rfl, rfl, hq2, by rw [← r2.length]; exact hl, h2 ρ2 _ ee (m2.set hn2 q2 (fun z => by cases z) ⟨_, upd_same, (r2.append (.cons rz .nil)).ext ee _ _⟩) _ R.non⟩
            · rw [if_neg hl] at h2
              exact False.elim h2
          | _ => exact False.elim h2
      | _ => exact False.elim h1
  | _ => exact False.elim h1
end
end DL
/-! DL8: instances, dicts, the script. -/
namespace DL
open PySem PySem.Spec PyProof.Rows L2

/-! ### the script -/
theorem scr_seq {T : Tab} {ρ : Rho} {st : Store} {H : Hp} {ns : List Int} {x : V} (r : R T ρ st H (.scr ns) x) : ∃ a, x = .ref a ∧ SqL T.K H a (ns.map V.int) := by
  simp only [R] at r
  obtain ⟨a, e, h⟩ := r
  refine ⟨a, e, ?_⟩
  rcases h with ⟨o, h, _⟩ | h
  · exact .inl (.inr ⟨o, h⟩)
  · exact h H
def itScr (m : EM) : IM := fun δ => m δ >>= fun d => match d with
  | .scr ns => pure (ns.map D.int, none)
  | _ => M.stuck
theorem scr_keep {T : Tab} {ρ ρ2 : Rho} {st st2 : Store} {H H2 : Hp} {ns : List Int} {a : Addr} (r : R T ρ st H (.scr ns) (.ref a)) (e : Ext ρ st H ρ2 st2 H2) : SqL T.K H2 a (ns.map V.int) := by
  obtain ⟨b, eb, h⟩ := scr_seq (r.ext e _ _)
  cases eb
  exact h
theorem jok_scr {T : Tab} {ρ : Rho} {st : Store} {H : Hp} {ns : List Int} {a : Addr} (r : R T ρ st H (.scr ns) (.ref a)) : JOk T ρ st H (Itl T.K a) (ns.map D.int) none := by
  refine ⟨fun ρ2 st2 H2 e m _ i d hd => ?_, fun ρ2 st2 H2 e m _ i hi => ?_⟩
  · have h2 := scr_keep r e
    rw [List.getElem?_map] at hd
    cases q : ns[i]? with
    | none => rw [q] at hd; cases hd
    | some j =>
      rw [q] at hd
      cases hd
      refine ⟨⟨_, .int j, h2, by rw [List.getElem?_map, q]; rfl⟩, fun y H3 ⟨e1, e2⟩ => ?_⟩
      subst e1
      have := e2 _ h2
      rw [List.getElem?_map, q] at this
      cases this
      exact ⟨.refl, m, R.int⟩
  · exact ⟨_, scr_keep r e, by simpa using hi⟩
section
variable {X : Cx} {fl : Fls} {Wx : WX} {tg e a b : Expr} {m ma mb : EM} {p pos : Pos}
theorem di_scr (h : DE X fl Wx e m) : DI X fl Wx tg e (itScr m) := by
  refine pi_imp (pi_seq h) fun σ H Rr ⟨ρ, δ, st, mt, en, h⟩ => ?_
  refine ⟨ρ, δ, st, mt, en, (Post.bind h).monoE fun d ρ1 st1 H1 e1 m1 h1 x rx => ?_⟩
  cases d with
  | scr ns =>
    obtain ⟨a, ex, q⟩ := scr_seq rx
    subst ex
    exact ⟨a, rfl, .inl ⟨⟨_, q⟩, h1 ρ1 H1 .refl m1 _ (jok_scr rx)⟩⟩
  | _ => exact False.elim h1
end
def fListS (st : Store) (ds : List D) : Option D := match ds with
  | [.scr ns] => some (.lst (ns.map D.int))
  | _ => none
theorem v_listS {T : Tab} : VN T (fun xs H Q => ∃ p ys, xs = [.ref p] ∧ (SqL T.K H p ys ∨ SqT T.K H p ys) ∧ ∀ l, H l = none → Q (.ref l) (upd H l (.lst ys))) fListS := by
  intro ρ st H ds xs v Q m rx h q
  unfold fListS at h
  split at h
  · rename_i ns
    obtain ⟨x, rfl, r⟩ := rx.one
    cases h
    obtain ⟨a, e, hq⟩ := scr_seq r
    subst e
    refine ⟨a, _, rfl, .inl hq, fun p hp => ?_⟩
    obtain ⟨e1, m1, r1⟩ := new_lst m (RAll.of_map (fun _ => R.int)) hp
    exact q _ _ e1 m1 r1
  · cases h
/-- list(xs), to be changed -/
def eListN (a : AM) : EM := fun δ => a δ >>= fun ds st => match ds with
  | [d] => match seqOf st d with
    | some es => if es.length ≤ sizeLine then .ok (.ref st.length) (st ++ [.lst es]) else .stuck
    | none => .stuck
  | _ => .stuck
theorem go_listN {X : Cx} {fl : Fls} {Wx : WX} {mA : AM} {σ : L2.St} {H : Hp} {Q : VK} (h : tD (XT X fl) Wx (eListN mA) σ H Q) : tDA (XT X fl) Wx mA σ H fun xs H => ∃ p ys, xs = [.ref p] ∧ (SqL X.K H p ys ∨ SqT X.K H p ys) ∧ ∀ l, H l = none → Q (.ref l) (upd H l (.lst ys)) := by
  obtain ⟨ρ, δ, st, m, en, h⟩ := h
  refine ⟨ρ, δ, st, m, en, (Post.bind h).monoE fun ds ρ1 st1 H1 e1 m1 h1 xs rxs => ?_⟩
  match ds, h1, rxs with
  | [d], h1, rxs =>
    obtain ⟨x, rfl, r⟩ := rxs.one
    dsimp only at h1
    cases q : seqOf st1 d with
    | none => rw [q] at h1; exact False.elim h1
    | some es =>
      rw [q] at h1
      dsimp only at h1
      by_cases hl : es.length ≤ sizeLine
      · rw [if_pos hl] at h1
        obtain ⟨a, vs, ea, hq, ra⟩ := seq_ok m1 r q
        subst ea
        refine ⟨a, vs, rfl, hq, fun p hp => ?_⟩
        have e := Ext.push (u := .lst vs) (o := .lst es) m1 hp
        refine h1 (ρ1.snoc p) _ e (m1.push hp ⟨vs, upd_same, ra.ext e _ _⟩) (.ref p) ?_
        simp only [R]
        exact ⟨p, rfl, push_last m1.len⟩
      · rw [if_neg hl] at h1
        exact False.elim h1
  | [], h1, _ => exact False.elim h1
  | _ :: _ :: _, h1, _ => exact False.elim h1

/-! ### dicts -/
section
variable {κ : Type} [DecidableEq κ]
def valD (kvs : List (κ × D)) (k : κ) : Option D := (kvs.find? fun kv => decide (kv.1 = k)).map (·.2)
def putD (kvs : List (κ × D)) (k : κ) (v : D) : List (κ × D) :=
  if (kvs.any fun kv => decide (kv.1 = k)) = true then kvs.map (fun kv => if kv.1 = k then (kv.1, v) else kv) else kvs ++ [(k, v)]
variable {T : Tab} {ρ : Rho} {st : Store} {H : Hp}
theorem RKV.val : ∀ {kvs : List (κ × D)} {vs : List (κ × V)} {k : κ}, RKV T ρ st H kvs vs → (∀ d, valD kvs k = some d → ∃ x, valV vs k = some x ∧ R T ρ st H d x) ∧ (valD kvs k = none → valV vs k = none)
  | [], vs, k, h => by
    have e : vs = [] := h
    subst e
    exact ⟨fun d z => by simp [valD] at z, fun _ => rfl⟩
  | (j, d) :: r, vs, k, h => by
    obtain ⟨x, xs, e, h1, h2⟩ := h
    subst e
    by_cases hj : j = k
    · rw [valV_pos (p := (j, x)) hj]
      have e2 : valD ((j, d) :: r) k = some d := by simp [valD, hj]
      rw [e2]
      exact ⟨fun d' z => by cases z; exact ⟨x, rfl, h1⟩, fun z => by cases z⟩
    · rw [valV_neg (p := (j, x)) hj]
      have e2 : valD ((j, d) :: r) k = valD r k := by simp [valD, hj]
      rw [e2]
      exact RKV.val h2
theorem RKV.keys : ∀ {kvs : List (κ × D)} {vs : List (κ × V)}, RKV T ρ st H kvs vs → vs.map (·.1) = kvs.map (·.1)
  | [], vs, h => by
    have e : vs = [] := h
    subst e
    rfl
  | (j, d) :: r, vs, h => by
    obtain ⟨x, xs, e, h1, h2⟩ := h
    subst e
    rw [List.map_cons, List.map_cons, RKV.keys h2]
theorem RKV.anyk (k : κ) : ∀ {kvs : List (κ × D)} {vs : List (κ × V)}, RKV T ρ st H kvs vs → (vs.any fun kv => decide (kv.1 = k)) = kvs.any fun kv => decide (kv.1 = k)
  | [], vs, h => by
    have e : vs = [] := h
    subst e
    rfl
  | (j, d) :: r, vs, h => by
    obtain ⟨x, xs, e, h1, h2⟩ := h
    subst e
    rw [List.any_cons, List.any_cons, RKV.anyk k h2]
theorem RKV.setk {k : κ} {d : D} {x : V} (rx : R T ρ st H d x) : ∀ {kvs : List (κ × D)} {vs : List (κ × V)}, RKV T ρ st H kvs vs → RKV T ρ st H (kvs.map fun kv => if kv.1 = k then (kv.1, d) else kv) (vs.map fun kv => if kv.1 = k then (kv.1, x) else kv)
  | [], vs, h => by
    have e : vs = [] := h
    subst e
    rfl
  | (j, d') :: r, vs, h => by
    obtain ⟨y, ys, e, h1, h2⟩ := h
    subst e
    have ih := RKV.setk (k := k) rx h2
    rw [List.map_cons, List.map_cons]
    dsimp only
    by_cases hj : j = k
    · rw [if_pos hj, if_pos hj]
      exact ⟨x, _, rfl, rx, ih⟩
    · rw [if_neg hj, if_neg hj]
      exact ⟨y, _, rfl, h1, ih⟩
theorem RKV.append : ∀ {kvs ks : List (κ × D)} {vs ws : List (κ × V)}, RKV T ρ st H kvs vs → RKV T ρ st H ks ws → RKV T ρ st H (kvs ++ ks) (vs ++ ws)
  | [], _, vs, _, h, k => by
    have e : vs = [] := h
    subst e
    exact k
  | (j, d) :: r, ks, vs, ws, h, k => by
    obtain ⟨x, xs, e, h1, h2⟩ := h
    subst e
    exact ⟨x, _, rfl, h1, RKV.append h2 k⟩
theorem RKV.put {kvs : List (κ × D)} {vs : List (κ × V)} {k : κ} {d : D} {x : V} (h : RKV T ρ st H kvs vs) (rx : R T ρ st H d x) : RKV T ρ st H (putD kvs k d) (putK vs k x) := by
  unfold putD putK
  rw [h.anyk k]
  split
  · exact RKV.setk rx h
  · exact h.append ⟨x, [], rfl, rx, rfl⟩
end
/-- d[k], k a text -/
def fDget (st : Store) (d e : D) : Option D := match d, e with
  | .ref n, .str k => match st[n]? with
    | some (.dk kvs) => valD kvs (.inr k)
    | _ => none
  | .ref n, .int k => match st[n]? with
    | some (.dk kvs) => valD kvs (.inl k)
    | _ => none
  | _, _ => none
def sDput (md mk mv : EM) : SM := fun δ => mv δ >>= fun v => md δ >>= fun d => mk δ >>= fun e st => match d, e with
  | .ref n, .str k => match st[n]? with
    | some (.dk kvs) => if kvs.length < sizeLine then .ok (.next, δ) (st.set n (.dk (putD kvs (.inr k) v))) else .stuck
    | _ => .stuck
  | .ref n, .int k => match st[n]? with
    | some (.dk kvs) => if kvs.length < sizeLine then .ok (.next, δ) (st.set n (.dk (putD kvs (.inl k) v))) else .stuck
    | _ => .stuck
  | _, _ => .stuck
section
variable {X : Cx} {fl : Fls} {Wx : WX} {E : XK} {o i value a b : Expr} {md mk mv ma mb : EM} {pos pos' : Pos}
theorem v_dget {T : Tab} : V2 T (fun x y H Q => ∃ a v, x = .ref a ∧ DGet H a y (some v) ∧ Q v H) fDget := by
  intro ρ st H d e x y v Q m rx ry h q
  unfold fDget at h
  split at h
  · rename_i k
    split at h
    · rename_i hst
      obtain ⟨a, rfl, hn, vs, ha, r⟩ := m.at_ rx hst
      obtain ⟨z, hz, rz⟩ := r.val.1 v h
      exact ⟨a, z, rfl, .inl ⟨vs, .inr k, .inl ha, R.str_of ry, hz.symm⟩, q H _ .refl m rz⟩
    · cases h
  · rename_i k
    split at h
    · rename_i hst
      obtain ⟨a, rfl, hn, vs, ha, r⟩ := m.at_ rx hst
      obtain ⟨z, hz, rz⟩ := r.val.1 v h
      exact ⟨a, z, rfl, .inl ⟨vs, .inl k, .inl ha, R.int_of ry, hz.symm⟩, q H _ .refl m rz⟩
    · cases h
  · cases h
theorem de_dget {k : Nat} (hr : RoomG k X.A) (ho : DE X fl Wx o md) (hi : DE X fl Wx i mk) (hs : NoSl i) : DE X fl Wx (.Subscript o i pos) (e2 fDget md mk) :=
  pe_imp (pe_dget (hu_of hr.rm) ho hi hs) fun _ _ _ h => go2 v_dget h
theorem ds_dput {k : Nat} (hr : RoomG k X.A) (ho : DE X fl (wx E) o md) (hi : DE X fl (wx E) i mk) (hv : DE X fl (wx E) value mv) (hs : swapsWith value (some (.Subscript o i pos')) pos.line X.env = pure false) :
    DS X fl E (.Assign [.Subscript o i pos'] value pos) (sDput md mk mv) := by
  refine ps_imp (ps_dput (hu_of hr.rm) ho hi hv hs) fun D σ H ⟨ρ, δ, st, m, en, h⟩ => ?_
  refine ⟨ρ, δ, st, m, en, (Post.bind h).monoE fun v ρ1 st1 H1 e1 m1 h1 x rx => ?_⟩
  refine ⟨ρ1, δ, st1, m1, en.ext e1, (Post.bind h1).monoE fun d ρ2 st2 H2 e2 m2 h2 y ry => ?_⟩
  refine ⟨ρ2, δ, st2, m2, (en.ext e1).ext e2, (Post.bind h2).monoE fun ke ρ3 st3 H3 e3 m3 h3 z rz => ?_⟩
  have rv := (rx.ext e2 _ _).ext e3 _ _
  have rd := ry.ext e3 _ _
  have en3 := ((en.ext e1).ext e2).ext e3
  have fin : ∀ (n : Nat) (k : Key), d = .ref n → z = kV k → Post (XT X fl) ρ3 st3 H3 σ (wx E) (FlP (XT X fl) D) (match st3[n]? with | some (.dk kvs) => if kvs.length < sizeLine then .ok (.next, δ) (st3.set n (.dk (putD kvs k v))) else .stuck | _ => .stuck) →
      ∃ a H4, y = .ref a ∧ DPut H3 a z x H4 ∧ D.nx σ H4 := by
    intro n k ed ez h9
    clear h3 h2 h1 h
    subst ed ez
    cases q : st3[n]? with
    | none => rw [q] at h9; exact False.elim h9
    | some so =>
      rw [q] at h9
      cases so with
      | dk kvs =>
        dsimp only at h9
        by_cases hl : kvs.length < sizeLine
        · rw [if_pos hl] at h9
          obtain ⟨a, rfl, hn, vs, ha, r⟩ := m3.at_ rd q
          have hd : SO.dk kvs ≠ .dead := fun z => by cases z
          have e4 := Ext.set (o' := .dk (putD kvs k v)) (u := .dK (putK vs k x)) m3 hn q hd
          refine ⟨a, _, rfl, DPut.k ha (by rw [← r.length]; exact hl), h9 ρ3 _ e4 (m3.set hn q hd ⟨_, upd_same, RKV.ext e4 _ _ (r.put rv)⟩) σ (en3.ext e4)⟩
        · rw [if_neg hl] at h9
          exact False.elim h9
      | _ => exact False.elim h9
  cases d with
  | ref n =>
    cases ke with
    | str k => exact fin n (.inr k) rfl (R.str_of rz) h3
    | int k => exact fin n (.inl k) rfl (R.int_of rz) h3
    | _ => exact False.elim h3
  | _ => exact False.elim h3
end
/-- {'k': e, ..} -/
def kvE : List (Str × EM) → DEnv → M (List (Key × D))
  | [], _ => pure []
  | (k, m) :: r, δ => m δ >>= fun d => kvE r δ >>= fun ps => pure ((.inr k, d) :: ps)
def mergeD (kvs more : List (Key × D)) : List (Key × D) := more.foldl (fun acc kv => putD acc kv.1 kv.2) kvs
def eDisp (kvs : List (Str × EM)) : EM := fun δ => kvE kvs δ >>= fun ps st => if ps.length ≤ 15 then .ok (.ref st.length) (st ++ [.dk (mergeD [] ps)]) else .stuck
theorem RKV.merge {T : Tab} {ρ : Rho} {st : Store} {H : Hp} : ∀ {more : List (Key × D)} {ws : List (Key × V)} {kvs : List (Key × D)} {vs : List (Key × V)}, RKV T ρ st H more ws → RKV T ρ st H kvs vs → RKV T ρ st H (mergeD kvs more) (mergeK vs ws)
  | [], ws, kvs, vs, h, r => by
    have e : ws = [] := h
    subst e
    exact r
  | (k, d) :: more, ws, kvs, vs, h, r => by
    obtain ⟨x, xs, e, h1, h2⟩ := h
    subst e
    show RKV T ρ st H (mergeD (putD kvs k d) more) (mergeK (putK vs k x) xs)
    exact RKV.merge h2 (r.put h1)
section
variable {X : Cx} {fl : Fls} {Wx : WX} {pos : Pos}
/-- the pairs of a display -/
inductive DKv (X : Cx) (fl : Fls) (Wx : WX) : List (Option Expr) → List Expr → List (Str × EM) → Prop where
  | nil : DKv X fl Wx [] [] []
  | cons {k : Str} {j : Nat} {p : Pos} {v : Expr} {m : EM} {ks : List (Option Expr)} {vs : List Expr} {r : List (Str × EM)} (h : DE X fl Wx v m) (t : DKv X fl Wx ks vs r) : DKv X fl Wx (some (.Constant (.str k) j p) :: ks) (v :: vs) ((k, m) :: r)
theorem pairs_of (kvs : List (Str × EM)) : ∀ {σ : L2.St} {H : Hp} {P : List (Key × D) → Rho → Store → Hp → Prop} {Q : List (V × V) → Hp → Prop},
    (At (XT X fl) σ H fun ρ δ st => Post (XT X fl) ρ st H σ Wx P (kvE kvs δ st)) →
    (∀ ps ρ' st' H', P ps ρ' st' H' → Mt (XT X fl) ρ' st' H' → ∀ vs, RKV (XT X fl) ρ' st' H' ps vs → Q (vs.map fun kv => (kV kv.1, kv.2)) H') →
    tPairs (kvs.map fun km => (tC (.str km.1), tD (XT X fl) Wx km.2)) σ H Q := by
  induction kvs with
  | nil =>
    intro σ H P Q ⟨ρ, δ, st, m, en, h⟩ q
    exact q [] ρ st H (h ρ H .refl m) m [] rfl
  | cons km r ih =>
    intro σ H P Q ⟨ρ, δ, st, m, en, h⟩ q
    obtain ⟨k, mm⟩ := km
    refine ⟨ρ, δ, st, m, en, (Post.bind h).monoE fun d ρ1 st1 H1 e1 m1 h1 x rx => ?_⟩
    refine ih (P := fun ps ρ2 st2 H2 => P ((.inr k, d) :: ps) ρ2 st2 H2 ∧ Ext ρ1 st1 H1 ρ2 st2 H2) ⟨ρ1, δ, st1, m1, en.ext e1, ?_⟩ ?_
    · exact (Post.bind h1).monoE fun ps ρ2 st2 H2 e2 m2 h2 => ⟨h2 ρ2 H2 .refl m2, e2⟩
    · intro ps ρ2 st2 H2 ⟨h2, e2⟩ m2 vs rv
      exact q _ ρ2 st2 H2 h2 m2 ((.inr k, x) :: vs) ⟨x, vs, rfl, rx.ext e2 _ _, rv⟩
theorem pps_of {ks : List (Option Expr)} {vs : List Expr} {kvs : List (Str × EM)} (h : DKv X fl Wx ks vs kvs) : PPs X pos ks vs (kvs.map fun km => (tC (.str km.1), tD (XT X fl) Wx km.2)) ∧ ks.all (·.isSome) = true ∧ ks.length = vs.length ∧ ks.length = kvs.length := by
  induction h with
  | nil => exact ⟨pps_nil, rfl, rfl, rfl⟩
  | cons h t ih => exact ⟨pps_cons pe_str h ih.1, by simpa using ih.2.1, by simp [ih.2.2.1], by simp [ih.2.2.2]⟩
theorem de_disp {ks : List (Option Expr)} {vs : List Expr} {kvs : List (Str × EM)} (h : DKv X fl Wx ks vs kvs) (h0 : ks ≠ []) (h15 : ks.length ≤ 15) : DE X fl Wx (.Dict ks vs pos) (eDisp kvs) := by
  obtain ⟨hp, hall, hl, _⟩ := pps_of (pos := pos) h
  refine pe_imp (pe_disp hp hall hl h0 h15) fun σ H Q ⟨ρ, δ, st, m, en, h⟩ p hp => ?_
  have nD : ¬ ρ.pv p := fun z => by
    obtain ⟨o, q⟩ := m.ptr p z
    rw [hp] at q
    cases q
  refine pairs_of kvs (P := fun ps ρ2 st2 H2 => Ext ρ st H ρ2 st2 H2 ∧ ρ2.pv p ∧ H2 p = some (.dK []) ∧ (ps.length ≤ 15 ∧ Post (XT X fl) ρ2 st2 H2 σ Wx (fun _ _ _ _ => True) (.ok () st2)) ∧ ∀ ρ' H', Ext ρ st H ρ' (st2 ++ [.dk (mergeD [] ps)]) H' → Mt (XT X fl) ρ' (st2 ++ [.dk (mergeD [] ps)]) H' → ∀ x, R (XT X fl) ρ' (st2 ++ [.dk (mergeD [] ps)]) H' (.ref st2.length) x → Q x H')
    ⟨ρ.hid p, δ, st, m.hide hp, en.ext (Ext.hide m hp), ?_⟩ ?_
  · have h' := Post.bind h
    cases q : kvE kvs δ st with
    | stuck => rw [q] at h'; exact False.elim h'
    | exc c ds st' =>
      rw [q] at h'
      show Post _ _ _ _ σ Wx _ (kvE kvs δ st)
      rw [q]
      exact fun ρ' H' C d vs e m' => h' ρ' H' C d vs ((Ext.hide m hp).trans e) m'
    | ok ps st2 =>
      rw [q] at h'
      show Post _ _ _ _ σ Wx _ (kvE kvs δ st)
      rw [q]
      intro ρ2 H2 e2 m2
      have e0 := (Ext.hide m hp).trans e2
      have hl : ps.length ≤ 15 := by
        by_cases hl : ps.length ≤ 15
        · exact hl
        · have z := h' ρ2 H2 e0 m2
          dsimp only at z
          rw [if_neg hl] at z
          exact False.elim z
      refine ⟨e0, e2.pvs p (.inr rfl), (e2.hid p (.inr rfl)).trans upd_same, ⟨hl, fun _ _ _ _ => trivial⟩, fun ρ' H' e' m' x rx => ?_⟩
      have zz : Post (XT X fl) ρ st H σ Wx (fun v ρ' st' H' => ∀ x, R (XT X fl) ρ' st' H' v x → Q x H') ((kvE kvs δ >>= fun ps st => if ps.length ≤ 15 then .ok (.ref st.length) (st ++ [.dk (mergeD [] ps)]) else .stuck) st) := h
      rw [bind_eq, q] at zz
      dsimp only at zz
      rw [if_pos hl] at zz
      exact zz ρ' H' e' m' x rx
  · intro ps ρ2 st2 H2 ⟨e0, hpv, hH, ⟨hl, _⟩, fin⟩ m2 vs rv
    refine ⟨hH, vs, rfl, by rw [← rv.length]; exact hl, ?_⟩
    have t := Tr.adopt (H := H2) (o := .dK (mergeK [] vs)) (so := .dk (mergeD [] ps)) (pv := ρ.pv) m2.len hpv e0.pvs
    refine fin (ρ2.adopt ρ.pv p) _ (Ext.adopt e0 m m2.len hp) (m2.adopt hpv e0.pvs nD ⟨_, upd_same, RKV.tr t _ _ (RKV.merge rv rfl)⟩) (.ref p) ?_
    simp only [R]
    refine ⟨p, rfl, ?_⟩
    show (ρ2.ix ++ [p])[st2.length]? = some p
    rw [List.getElem?_append_right (by rw [m2.len]; exact Nat.le_refl _), m2.len]
    simp
end
end DL
/-! DL9: instances. -/
namespace DL
open PySem PySem.Spec PyProof.Rows L2

/-! ### attributes -/
/-- which classes' instances have the attribute f: cs -/
def fFld (fl : Str → List Str) (cs : List Str) (f : Str) (st : Store) (d : D) : Option D := match d with
  | .ob c ds => if c ∈ cs then ((fl c).zip ds).lookup f else none
  | .ref n => match st[n]? with
    | some (.ins c fs) => if c ∈ cs then fs.lookup f else none
    | _ => none
  | _ => none
/-- what must be known of the classes cs for the attribute f -/
def FldOkR (K : PySem.W.Frag) (mg : Str → Option Value) (cs : List Str) (f : Str) : Prop := ∀ c ∈ cs, ∀ C, mg c = some (.ref C) → Cls K C ∧ NoAttr K C f
abbrev FldOk (X : Cx) (cs : List Str) (f : Str) : Prop := FldOkR X.K X.mg cs f
theorem zip_lookup {T : Tab} {ρ : Rho} {st : Store} {H : Hp} {f : Str} {d : D} : ∀ {ns : List Str} {ds : List D} {vs : List V}, RAll T ρ st H ds vs → (ns.zip ds).lookup f = some d → ∃ x, (ns.zip vs).lookup f = some x ∧ R T ρ st H d x
  | [], _, _, _, h => by simp at h
  | n :: ns, [], _, _, h => by simp at h
  | n :: ns, e :: ds, vs, r, h => by
    simp only [RAll] at r
    obtain ⟨x, xs, rfl, rx, rxs⟩ := r
    rw [List.zip_cons_cons, List.lookup_cons] at h ⊢
    by_cases hn : (f == n) = true
    · rw [hn] at h ⊢
      cases h
      exact ⟨x, rfl, rx⟩
    · have hn' : (f == n) = false := by simpa using hn
      rw [hn'] at h ⊢
      exact zip_lookup rxs h
theorem rkv_lookup {T : Tab} {ρ : Rho} {st : Store} {H : Hp} {f : Str} {d : D} : ∀ {fs : List (Str × D)} {vs : List (Str × V)}, RKV T ρ st H fs vs → fs.lookup f = some d → ∃ x, vs.lookup f = some x ∧ R T ρ st H d x
  | [], _, _, h => by simp at h
  | (n, e) :: fs, vs, r, h => by
    obtain ⟨x, xs, rfl, rx, rxs⟩ := r
    rw [List.lookup_cons] at h ⊢
    by_cases hn : (f == n) = true
    · rw [hn] at h ⊢
      cases h
      exact ⟨x, rfl, rx⟩
    · have hn' : (f == n) = false := by simpa using hn
      rw [hn'] at h ⊢
      exact rkv_lookup rxs h
section
variable {X : Cx} {fl : Fls} {Wx : WX} {E : XK} {o e value : Expr} {ma mv : EM} {cs : List Str} {f : Str} {pos pos' : Pos}
theorem v_fld (ok : FldOk X cs f) : V1 (XT X fl) (fun x H Q => ∃ a C dx fs v, x = .ref a ∧ H a = some (.ins C dx fs) ∧ Cls X.K C ∧ NoAttr X.K C f ∧ fs.lookup f = some v ∧ Q v H) (fFld fl cs f) := by
  intro ρ st H d x v Q m r h q
  unfold fFld at h
  split at h
  · rename_i c ds
    simp only [R] at r
    obtain ⟨a, C, dx, vs, rfl, hc, ha, _, ra⟩ := r
    split at h
    · rename_i hcs
      obtain ⟨k1, k2⟩ := ok c hcs C hc
      obtain ⟨y, hy, ry⟩ := zip_lookup ra h
      exact ⟨a, C, dx, _, y, rfl, ha, k1, k2, hy, q H _ .refl m ry⟩
    · cases h
  · rename_i n
    split at h
    · rename_i c fs hst
      obtain ⟨a, rfl, hn, C, dx, vs, hc, ha, ra⟩ := m.at_ r hst
      split at h
      · rename_i hcs
        obtain ⟨k1, k2⟩ := ok c hcs C hc
        obtain ⟨y, hy, ry⟩ := rkv_lookup ra h
        exact ⟨a, C, dx, _, y, rfl, ha, k1, k2, hy, q H _ .refl m ry⟩
      · cases h
    · cases h
  · cases h
theorem de_fld (ok : FldOk X cs f) (he : DE X fl Wx e ma) (hb : attributeBase e f X.env (eval e X.env) = eval e X.env := by rfl) : DE X fl Wx (.Attribute e f pos) (e1 (fFld fl cs f) ma) :=
  pe_imp (pe_fld he hb) fun _ _ _ h => go1 (v_fld ok) h
def putFD (f : Str) (v : D) : List (Str × D) → List (Str × D)
  | [] => [(f, v)]
  | (g, x) :: r => if g = f then (g, v) :: r else (g, x) :: putFD f v r
theorem RKV.putF {T : Tab} {ρ : Rho} {st : Store} {H : Hp} {f : Str} {d : D} {x : V} (rx : R T ρ st H d x) : ∀ {fs : List (Str × D)} {vs : List (Str × V)}, RKV T ρ st H fs vs → RKV T ρ st H (putFD f d fs) (putF f x vs)
  | [], vs, h => by
    have e : vs = [] := h
    subst e
    exact ⟨x, [], rfl, rx, rfl⟩
  | (g, d') :: r, vs, h => by
    obtain ⟨y, ys, rfl, h1, h2⟩ := h
    have ih := RKV.putF (f := f) rx h2
    unfold putFD L2.putF
    by_cases hg : g = f
    · rw [if_pos hg, if_pos hg]
      exact ⟨x, ys, rfl, rx, h2⟩
    · rw [if_neg hg, if_neg hg]
      exact ⟨y, _, rfl, h1, ih⟩
/-- o.f = value -/
def sFldM (cs : List Str) (f : Str) (ma mv : EM) : SM := fun δ => mv δ >>= fun v => ma δ >>= fun d st => match d with
  | .ref n => match st[n]? with
    | some (.ins c fs) => if c ∈ cs ∧ fs.length < 1000 then .ok (.next, δ) (st.set n (.ins c (putFD f v fs))) else .stuck
    | _ => .stuck
  | _ => .stuck
theorem ds_fld (ok : FldOk X cs f) (ha : DE X fl (wx E) o ma) (hv : DE X fl (wx E) value mv) (hs : swapsWith value (some (.Attribute o f pos')) pos.line X.env = pure false := by rfl) : DS X fl E (.Assign [.Attribute o f pos'] value pos) (sFldM cs f ma mv) := by
  refine ps_imp (ps_fld ha hv hs) fun D σ H ⟨ρ, δ, st, m, en, h⟩ => ?_
  refine ⟨ρ, δ, st, m, en, (Post.bind h).monoE fun v ρ1 st1 H1 e1 m1 h1 x rx => ?_⟩
  refine ⟨ρ1, δ, st1, m1, en.ext e1, (Post.bind h1).monoE fun d ρ2 st2 H2 e2 m2 h2 y ry => ?_⟩
  cases d with
  | ref n =>
    dsimp only at h2
    cases q : st2[n]? with
    | none => rw [q] at h2; exact False.elim h2
    | some so =>
      rw [q] at h2
      cases so with
      | ins c fs =>
        dsimp only at h2
        by_cases hl : c ∈ cs ∧ fs.length < 1000
        · rw [if_pos hl] at h2
          obtain ⟨a, rfl, hn, C, dx, vs, hc, hH, r⟩ := m2.at_ ry q
          obtain ⟨k1, k2⟩ := ok c hl.1 C hc
          have hd : SO.ins c fs ≠ .dead := fun z => by cases z
          have e4 := Ext.set (o' := .ins c (putFD f v fs)) (u := .ins C dx (putF f x vs)) m2 hn q hd
          refine ⟨a, C, dx, vs, rfl, hH, k1, k2, by rw [← r.length]; exact hl.2, h2 ρ2 _ e4 (m2.set hn q hd ⟨C, dx, _, hc, upd_same, RKV.ext e4 _ _ (r.putF (rx.ext e2 _ _))⟩) σ (((en.ext e1).ext e2).ext e4)⟩
        · rw [if_neg hl] at h2
          exact False.elim h2
      | _ => exact False.elim h2
  | _ => exact False.elim h2
end

/-! ### a new instance -/
/-- a def of a class that computes m -/
structure Md (P : Program) (w : World) (K : PySem.W.Frag) (mg : Str → Option Value) (base : Heap) (fl : Fls) (k : Nat) (f : Addr) (fd : FuncData) (ps : List Str) (m : List D → M D) : Prop where
  fn : FnG P w K mg base k f fd ps (spD ⟨K, mg, fl⟩ ps.length m)
  bd : Binds K fd ps []
/-- C(..), the instance not changed behind its making -/
def mk (fl : Str → List Str) (c : Str) (m : List D → M D) (ds : List D) : M D := fun st => match m (.ref st.length :: ds) (st ++ [.ins c []]) with
  | .ok .non st' => match st'[st.length]? with
    | some (.ins c' fs) => if c' = c ∧ fs.map (·.1) = fl c then .ok (.ob c (fs.map (·.2))) (st'.set st.length .dead) else .stuck
    | _ => .stuck
  | .ok _ _ => .stuck
  | .exc c ds st' => .exc c ds st'
  | .stuck => .stuck
def eMake (fl : Str → List Str) (c : Str) (n : Nat) (m : List D → M D) (a : AM) : EM := fun δ => a δ >>= fun ds => if ds.length = n then mk fl c m ds else M.stuck
def permL {α : Type} (is : List Nat) (xs : List α) : List α := is.filterMap fun i => xs[i]?
/-- C(k = v, ..): is tells for each parameter the place of its keyword -/
def eMakeK (fl : Str → List Str) (c : Str) (n : Nat) (is : List Nat) (m : List D → M D) (a : AM) : EM := fun δ => a δ >>= fun ds => if ds.length = n then mk fl c m (permL is ds) else M.stuck
theorem RKV.split {T : Tab} {ρ : Rho} {st : Store} {H : Hp} : ∀ {fs : List (Str × D)} {vs : List (Str × V)}, RKV T ρ st H fs vs → vs = (fs.map (·.1)).zip (vs.map (·.2)) ∧ RAll T ρ st H (fs.map (·.2)) (vs.map (·.2))
  | [], vs, h => by
    have e : vs = [] := h
    subst e
    exact ⟨rfl, RAll.nil⟩
  | (n, d) :: fs, vs, h => by
    obtain ⟨x, xs, rfl, rx, rxs⟩ := h
    obtain ⟨e, r⟩ := RKV.split rxs
    refine ⟨?_, RAll.cons rx r⟩
    rw [List.map_cons, List.map_cons, List.zip_cons_cons, ← e]
theorem RAll.perm {T : Tab} {ρ : Rho} {st : Store} {H : Hp} {ds : List D} {vs : List V} (h : RAll T ρ st H ds vs) : ∀ is : List Nat, RAll T ρ st H (permL is ds) (permL is vs)
  | [] => RAll.nil
  | i :: is => by
    have ih := RAll.perm h is
    unfold permL at ih ⊢
    cases q : ds[i]? with
    | none =>
      have q2 : vs[i]? = none := by
        rw [List.getElem?_eq_none_iff] at q ⊢
        rw [← h.length]
        exact q
      rw [List.filterMap_cons_none q, List.filterMap_cons_none q2]
      exact ih
    | some d =>
      obtain ⟨x, q2, r⟩ := h.get q
      rw [List.filterMap_cons_some q, List.filterMap_cons_some q2]
      exact RAll.cons r ih
theorem vals_perm {vs : List V} {us : List Value} (h : Vals vs us) : ∀ is : List Nat, Vals (permL is vs) (permL is us)
  | [] => .nil
  | i :: is => by
    have ih := vals_perm h is
    unfold permL at ih ⊢
    cases q : vs[i]? with
    | none =>
      have q2 : us[i]? = none := by
        rw [List.getElem?_eq_none_iff] at q ⊢
        rw [← h.length]
        exact q
      rw [List.filterMap_cons_none q, List.filterMap_cons_none q2]
      exact ih
    | some d =>
      obtain ⟨x, q2, r⟩ := h.get q
      rw [List.filterMap_cons_some q, List.filterMap_cons_some q2]
      exact .cons r ih
/-- keywords bound -/
def BindsK (K : PySem.W.Frag) (fd : FuncData) (ps ks : List Str) (is : List Nat) : Prop :=
  ∀ (s : Shared) (u : Value) (ws : List Value), K.In s.heap → ws.length = ks.length → BindsTo s fd ⟨[u], ks.zip ws⟩ (ps.zip (u :: permL is ws))
section
variable {X : Cx} {fl : Fls} {Wx : WX} {k n : Nat} {f C : Addr} {fd : FuncData} {ps ks : List Str} {x c : Str} {m : List D → M D} {is : List Nat} {mA : AM} {e : Expr} {es : List Expr} {kws : List Keyword} {p pos : Pos}
/-- what is wanted of __init__'s run -/
theorem mk_sp {ρ : Rho} {st : Store} {H : Hp} {σ : L2.St} {Q : VK} {ds : List D} {vs : List V} (hm : X.mg c = some (.ref C)) (mt : Mt (XT X fl) ρ st H) (r : RAll (XT X fl) ρ st H ds vs) (hl : ds.length + 1 = n)
    (h : Post (XT X fl) ρ st H σ Wx (fun v ρ' st' H' => ∀ x, R (XT X fl) ρ' st' H' v x → Q x H') (mk fl c m ds st)) :
    ∀ x dx, H x = none → H dx = none → dx ≠ x → spD (XT X fl) n m (.ref x :: vs) (upd (upd H dx (.own x)) x (.ins C dx [])) (fun v H3 => v = .non ∧ Q (.ref x) H3) (WE Wx σ) := by
  intro x dx hx hdx ne
  have e1 := Ext.new (ρ := ρ) (st := st) (o := .own x) mt hdx
  have m1 := mt.new (o := .own x) hdx
  have hx1 : upd H dx (.own x) x = none := by rw [upd_ne (Ne.symm ne)]; exact hx
  have e2 := Ext.push (u := .ins C dx []) (o := .ins c []) m1 hx1
  have m2 : Mt (XT X fl) (ρ.snoc x) (st ++ [.ins c []]) (upd (upd H dx (.own x)) x (.ins C dx [])) := m1.push hx1 ⟨C, dx, [], hm, upd_same, rfl⟩
  have e12 := e1.trans e2
  have hn : (ρ.snoc x).ix[st.length]? = some x := push_last mt.len
  refine ⟨ρ.snoc x, _, .ref st.length :: ds, m2, .cons (by simp only [R]; exact ⟨x, rfl, hn⟩) (r.ext e12 _ _), by simpa using hl, ?_⟩
  unfold mk at h
  cases q : m (.ref st.length :: ds) (st ++ [.ins c []]) with
  | stuck => rw [q] at h; exact False.elim h
  | exc c' ds' st' =>
    rw [q] at h
    exact fun ρ' H' C' d vs e m' => h ρ' H' C' d vs (e12.trans e) m'
  | ok v st' =>
    rw [q] at h
    intro ρ' H' e' m' y ry
    cases v with
    | non =>
      dsimp only at h
      refine ⟨R.non_of ry, ?_⟩
      cases q2 : st'[st.length]? with
      | none => rw [q2] at h; exact False.elim h
      | some so =>
        rw [q2] at h
        cases so with
        | ins c' fs =>
          dsimp only at h
          by_cases hc : c' = c ∧ fs.map (·.1) = fl c
          · rw [if_pos hc] at h
            obtain ⟨rfl, hf⟩ := hc
            have hn' := e'.pre _ _ hn
            obtain ⟨C', dx', vs', hc', hH, rv⟩ := m'.obj _ _ _ hn' q2
            have e3 := Ext.die (H := H') hn' q2
            have m3 := m'.die hn' q2
            refine h ρ' H' ((e12.trans e').trans e3) m3 (.ref x) ?_
            obtain ⟨ez, rz⟩ := rv.split
            simp only [R]
            refine ⟨x, C', dx', vs'.map (·.2), rfl, hc', ?_, notLive_die m' hn' q2, rz.ext e3 _ _⟩
            show H' x = some (.ins C' dx' ((fl c').zip (vs'.map (·.2))))
            rw [← hf, ← ez]
            exact hH
          · rw [if_neg hc] at h
            exact False.elim h
        | _ => exact False.elim h
    | _ => exact False.elim h
theorem run_mkG {pins : List (Addr × Obj)} {σ : L2.St} {H : Hp} {s : Shared} {Q : VK} {us us2 : List Value} {kw : List (Str × Value)} {vs2 : List V} {sp : Sp} {E : XK} (M : Mk X.K C f) (F : FnG X.prog X.w X.K X.mg X.base k f fd ps sp) (hr : RoomG (k + 1) X.A)
    (hx : PassesAt (L2.CX X.prog X.w) X σ E) (I : Inv X pins σ H s) (r : Vals vs2 us2)
    (hb : ∀ (s : Shared) (u : Value), X.K.In s.heap → (u :: us2).length = ps.length → BindsTo s fd ⟨u :: us, kw⟩ (ps.zip (u :: us2)))
    (h : ∀ x dx, H x = none → H dx = none → dx ≠ x → sp (.ref x :: vs2) (upd (upd H dx (.own x)) x (.ins C dx [])) (fun v H2 => v = .non ∧ Q (.ref x) H2) E) :
    wpAny (model X.prog X.w) X.A (call (.ref C) us kw) (EP X pins σ Q) X.xe s := by
  have hq := h (s.heap.objs.size + 1) s.heap.objs.size (I.hok.fresh (Nat.le_succ _)) (I.hok.fresh (Nat.le_refl _)) (Nat.ne_of_lt (Nat.lt_succ_self _))
  have I2 := Inv.made (C := C) I
  have r2 : Vals (V.ref (s.heap.objs.size + 1) :: vs2) (Value.ref (s.heap.objs.size + 1) :: us2) := .cons rfl r
  have hl : (Value.ref (s.heap.objs.size + 1) :: us2).length = ps.length := by
    have e := r2.length
    rw [F.len _ _ _ _ hq] at e
    exact e.symm
  refine wpAny_call (make_map (f := f) I.kIn M.makes M.init (beq_iff_eq.mp M.fn) (codeAny_mono (F.run _ X.stack _ _ ⟨Value.ref (s.heap.objs.size + 1) :: us, kw⟩ (Value.ref (s.heap.objs.size + 1) :: us2) _ _ E ⟨hr.rm.make C us kw, hr.gd⟩
    (I2.env0.make C us kw) (hb _ _ I2.kIn hl) r2 hq) fun r s' hq' => ?_))
  cases r with
  | error e => exact hx pins _ _ e s' I2 hq'
  | ok fl =>
    cases fl with
    | ret u =>
      obtain ⟨v, H', I3, rv, ev, q3⟩ := I2.after hq'
      subst ev
      exact ⟨rv, ⟨V.ref (s.heap.objs.size + 1), H', I3, rfl, q3⟩⟩
    | next => exact False.elim hq'
    | brk => exact False.elim hq'
    | cont => exact False.elim hq'
/-- x(e, ..), x a class of the text with an __init__ of its own -/
theorem de_make (M : Mk X.K C f) (F : Md X.prog X.w X.K X.mg X.base fl k f fd ps m) (hr : RoomG (k + 1) X.A) (tk : Takes X Wx) (hg : Gl X x) (hm : X.mg x = some (.ref C)) (hn : n + 1 = ps.length) (ha : DA X fl Wx (e :: es) mA)
    (hdb : (x == ("__debug__" : Str)) = false := by decide) (he : starEach (e :: es) X.env = (false, eval e X.env) :: starEach es X.env := by rfl) (hpl : (backTo pos (starEach es X.env)).any (·.1) = false := by rfl) :
    DE X fl Wx (.Call (.Name x p) (e :: es) [] pos) (eMake fl x n m mA) := by
  refine ⟨fun pins s σ H Q I ⟨ρ, δ, st, mt, en, h⟩ => ?_⟩
  refine wpAny_Call_Name_kw (ld_glob I hg hm ?_ hdb)
  have h' : tDA (XT X fl) Wx mA σ H fun vs H1 => ∃ ρ1 st1 ds, Mt (XT X fl) ρ1 st1 H1 ∧ RAll (XT X fl) ρ1 st1 H1 ds vs ∧ ds.length + 1 = ps.length ∧ Post (XT X fl) ρ1 st1 H1 σ Wx (fun v ρ' st' H' => ∀ x, R (XT X fl) ρ' st' H' v x → Q x H') (mk fl x m ds st1) := by
    refine ⟨ρ, δ, st, mt, en, (Post.bind h).monoE fun ds ρ1 st1 H1 e1 m1 h1 xs rxs => ?_⟩
    by_cases hl : ds.length = n
    · rw [if_pos hl] at h1
      exact ⟨ρ1, st1, ds, m1, rxs, by rw [hl]; exact hn, h1⟩
    · rw [if_neg hl] at h1
      exact False.elim h1
  refine PySem.W.callWith_K (h₀ := X.base) I.ok.mod.kin M.kp (thn (ha.run pos pins s σ H _ I h') fun us s1 ⟨vs, H1, I1, r, ρ1, st1, ds, m1, rxs, hl, q⟩ => ⟨I1.kIn, ?_⟩) he hpl
  refine run_mkG (us := us) (kw := []) M F.fn hr (passAt tk σ) I1 r (fun s u kin hl => ?_) (mk_sp hm m1 rxs hl q)
  have := F.bd s (u :: us) kin (by simpa using hl)
  simpa using this
/-- x(k = v, ..) -/
theorem de_makeK (M : Mk X.K C f) (F : Md X.prog X.w X.K X.mg X.base fl k f fd ps m) (hr : RoomG (k + 1) X.A) (tk : Takes X Wx) (hg : Gl X x) (hm : X.mg x = some (.ref C)) (hb : BindsK X.K fd ps ks is) (hi : ∀ i ∈ is, i < ks.length) (hn : is.length + 1 = ps.length)
    (hkw : PK X kws (tDA (XT X fl) Wx mA))
    (hall : (backToKw pos (keywordEach kws X.env)).all (·.1.isSome) = true := by rfl) (hks : (backToKw pos (keywordEach kws X.env)).filterMap (·.1) = ks := by rfl) (hdb : (x == ("__debug__" : Str)) = false := by decide)
    (hpl : ((backTo pos (starEach [] X.env)).any (·.1) || (backToKw pos (keywordEach kws X.env)).any (·.1.isNone)) = false := by rfl) :
    DE X fl Wx (.Call (.Name x p) [] kws pos) (eMakeK fl x ks.length is m mA) := by
  refine ⟨fun pins s σ H Q I ⟨ρ, δ, st, mt, en, h⟩ => ?_⟩
  refine wpAny_Call_Name_kw (ld_glob I hg hm ?_ hdb)
  have h' : tDA (XT X fl) Wx mA σ H fun vs H1 => ∃ ρ1 st1 ds, Mt (XT X fl) ρ1 st1 H1 ∧ RAll (XT X fl) ρ1 st1 H1 ds vs ∧ ds.length = ks.length ∧ Post (XT X fl) ρ1 st1 H1 σ Wx (fun v ρ' st' H' => ∀ x, R (XT X fl) ρ' st' H' v x → Q x H') (mk fl x m (permL is ds) st1) := by
    refine ⟨ρ, δ, st, mt, en, (Post.bind h).monoE fun ds ρ1 st1 H1 e1 m1 h1 xs rxs => ?_⟩
    by_cases hl : ds.length = ks.length
    · rw [if_pos hl] at h1
      exact ⟨ρ1, st1, ds, m1, rxs, hl, h1⟩
    · rw [if_neg hl] at h1
      exact False.elim h1
  refine PySem.W.callWith_KW0 (h₀ := X.base) I.ok.mod.kin M.kp hall ?_ hpl
  refine thn (hkw.run pos pins s σ H _ I h') fun ws s2 ⟨zs, H2, I2, rz, ρ1, st1, ds, m1, rxs, hl, q⟩ => ⟨I2.kIn, ?_⟩
  rw [hks]
  have hpl : ∀ {α : Type} (xs : List α), xs.length = ks.length → ∀ js : List Nat, (∀ i ∈ js, i < ks.length) → (permL js xs).length = js.length := by
    intro α xs hx js
    induction js with
    | nil => intro _; rfl
    | cons i js ih =>
      intro hj
      have q : xs[i]? = some (xs[i]'(by rw [hx]; exact hj i List.mem_cons_self)) := List.getElem?_eq_getElem _
      have ih' := ih fun j hm => hj j (List.mem_cons_of_mem _ hm)
      unfold permL at ih' ⊢
      rw [List.filterMap_cons_some q, List.length_cons, ih', List.length_cons]
  refine run_mkG (us := []) (kw := ks.zip ws) M F.fn hr (passAt tk σ) I2 (vals_perm rz is) (fun s u kin _ => hb s u ws kin ?_) (mk_sp hm m1 (rxs.perm is) ?_ q)
  · rw [← rz.length, ← rxs.length, hl]
  · rw [hpl ds hl is hi]
    exact hn
theorem dk_nil : PK X [] (tDA (XT X fl) Wx aNil) := by
  refine ⟨fun pos pins s σ H Q I ⟨ρ, δ, st, m, en, h⟩ => ?_⟩
  exact pk_nil.run pos pins s σ H Q I (h ρ H .refl m [] RAll.nil)
theorem dk_cons {nm : Option Str} {kpos : Pos} {ma : EM} (ha : DE X fl Wx e ma) (hr : PK X kws (tDA (XT X fl) Wx mA)) : PK X (⟨nm, e, kpos⟩ :: kws) (tDA (XT X fl) Wx (aCons ma mA)) := by
  refine ⟨fun pos pins s σ H Q I ⟨ρ, δ, st, m, en, h⟩ => ?_⟩
  refine (pk_cons ha hr).run pos pins s σ H Q I ?_
  refine ⟨ρ, δ, st, m, en, (Post.bind h).monoE fun d ρ1 st1 H1 e1 m1 h1 x rx => ?_⟩
  refine ⟨ρ1, δ, st1, m1, en.ext e1, (Post.bind h1).monoE fun ds ρ2 st2 H2 e2 m2 h2 xs rxs => ?_⟩
  exact h2 ρ2 H2 .refl m2 (x :: xs) (.cons (rx.ext e2 _ _) rxs)
end
theorem Fun.bindsK {K : PySem.W.Frag} {x qual : Str} {st : Stmt} {f : Addr} {fd : FuncData} {ps ks : List Str} {is : List Nat} (F : Fun K x qual st f fd)
    (h : ∀ (kV doc pm : Value) (an : Option Addr) (cdv ct : Value) (u : Value) (ws : List Value), ws.length = ks.length → bindArgs (PySem.W.fnOf x qual (defArgs st) (defBody st) (defScope st) .none kV doc pm an cdv ct) ⟨[u], ks.zip ws⟩ = pure (ps.zip (u :: permL is ws))) : BindsK K fd ps ks is := by
  obtain ⟨oc, od, kV, doc, pm, an, cdv, ct, osl, rfl, lk, hcd⟩ := F.ex
  exact fun s u ws _ hl => .of_eq (h kV doc pm an cdv ct u ws hl)
end DL
/-! DL10: == of like things, own ==; targets; a list made and stored. -/
namespace DL
open PySem PySem.Spec PyProof.Rows L2

/-! ### a thing is equal to a like one -/
def reflIn : Nat → D → Bool
  | 0, _ => false
  | _ + 1, .non => true
  | _ + 1, .bl _ => true
  | _ + 1, .int _ => true
  | _ + 1, .str _ => true
  | n + 1, .tup ds => ds.all (reflIn n)
  | n + 1, .lst ds => ds.all (reflIn n)
  | _ + 1, .ref _ => true
  | _ + 1, _ => false
def reflTop (st : Store) : D → Bool
  | .tup ds => ds.all (reflIn 40)
  | .lst ds => ds.all (reflIn 40)
  | .ref n => match st[n]? with
    | some (.dk _) => true
    | _ => false
  | _ => false
theorem all_yes (n : Nat) : ((List.range n).all fun _ => true) = true := List.all_eq_true.mpr fun _ _ => rfl
theorem all_get {α : Type} {p : α → Bool} {xs : List α} (h : xs.all p = true) {i : Nat} {x : α} (e : xs[i]? = some x) : p x = true := by
  rw [List.all_eq_true] at h
  exact h x (List.mem_of_getElem? e)
section
variable {X : Cx} {fl : Fls} {pins : List (Addr × Obj)} {σ : L2.St} {ρ : Rho} {st : Store} {H : Hp} {s : Shared}
theorem items_refl (I : Inv X pins σ H s) {n : Nat} {ds : List D}
    (ih : ∀ (d : D) (x y : V) (u v : Value), reflIn n d = true → R (XT X fl) ρ st H d x → R (XT X fl) ρ st H d y → RelV x u → RelV y v → PySem.W.EqTree X.prog X.w s n u v true)
    {xs ys : List V} {us vs : List Value} (hd : ds.all (reflIn n) = true) (r1 : RAll (XT X fl) ρ st H ds xs) (r2 : RAll (XT X fl) ρ st H ds ys) (v1 : Vals xs us) (v2 : Vals ys vs) :
    us.length = vs.length ∧ ∀ j (h1 : j < us.toArray.size) (h2 : j < vs.toArray.size), PySem.W.EqTree X.prog X.w s n us.toArray[j] vs.toArray[j] true := by
  have l1 := r1.length.trans v1.length
  have l2 := r2.length.trans v2.length
  refine ⟨l1.symm.trans l2, fun j h1 h2 => ?_⟩
  have h1' : j < us.length := by simpa using h1
  have h2' : j < vs.length := by simpa using h2
  have hj : j < ds.length := by omega
  obtain ⟨x, ex, rx⟩ := r1.get (List.getElem?_eq_getElem hj)
  obtain ⟨y, ey, ry⟩ := r2.get (List.getElem?_eq_getElem hj)
  obtain ⟨u, eu, ru⟩ := v1.get ex
  obtain ⟨v, ev, rv⟩ := v2.get ey
  have e1 : us.toArray[j] = u := by
    rw [List.getElem?_eq_getElem h1'] at eu
    simpa using Option.some.inj eu
  have e2 : vs.toArray[j] = v := by
    rw [List.getElem?_eq_getElem h2'] at ev
    simpa using Option.some.inj ev
  rw [e1, e2]
  exact ih _ x y u v (all_get hd (List.getElem?_eq_getElem hj)) rx ry ru rv
theorem tree_refl (I : Inv X pins σ H s) (m : Mt (XT X fl) ρ st H) : ∀ (n : Nat) (d : D) (x y : V) (u v : Value), reflIn n d = true → R (XT X fl) ρ st H d x → R (XT X fl) ρ st H d y → RelV x u → RelV y v → PySem.W.EqTree X.prog X.w s n u v true
  | 0, d, x, y, u, v, h, _, _, _, _ => by simp [reflIn] at h
  | n + 1, .non, x, y, u, v, h, rx, ry, ru, rv => by
    cases R.non_of rx
    cases R.non_of ry
    cases ru
    cases rv
    exact .same
  | n + 1, .bl b, x, y, u, v, h, rx, ry, ru, rv => by
    cases R.bl_of rx
    cases R.bl_of ry
    cases ru
    cases rv
    exact .same
  | n + 1, .int i, x, y, u, v, h, rx, ry, ru, rv => by
    cases R.int_of rx
    cases R.int_of ry
    refine .leaf fun A _ => ?_
    have q := eqAt_V (A := A) (s := s) ru rv rfl rfl
    simpa [eqV] using q
  | n + 1, .str i, x, y, u, v, h, rx, ry, ru, rv => by
    cases R.str_of rx
    cases R.str_of ry
    refine .leaf fun A _ => ?_
    have q := eqAt_V (A := A) (s := s) ru rv rfl rfl
    simpa [eqV] using q
  | n + 1, .tup ds, x, y, u, v, h, rx, ry, ru, rv => by
    obtain ⟨a, xs, rfl, qa, ra⟩ := rx.tup_of
    obtain ⟨b, ys, rfl, qb, rb⟩ := ry.tup_of
    cases ru
    cases rv
    by_cases hab : a = b
    · subst hab
      exact .same
    · obtain ⟨us, vu, iu, _⟩ := I.tuple qa
      obtain ⟨vs, vv, iv, _⟩ := I.tuple qb
      obtain ⟨hl, ht⟩ := items_refl I (tree_refl I m n) (by simpa [reflIn] using h) ra rb vu vv
      have t := PySem.W.EqTree.tuples (e := fun _ => true) hab iu iv ht
      simpa [hl, all_yes] using t
  | n + 1, .lst ds, x, y, u, v, h, rx, ry, ru, rv => by
    obtain ⟨a, xs, rfl, qa, ra⟩ := rx.lst_of
    obtain ⟨b, ys, rfl, qb, rb⟩ := ry.lst_of
    cases ru
    cases rv
    by_cases hab : a = b
    · subst hab
      exact .same
    · obtain ⟨us, vu, ⟨ou, nu, hu, cu, _, du⟩, _⟩ := I.list (SqL.of qa)
      obtain ⟨vs, vv, ⟨ov, nv, hv, cv, _, dv⟩, _⟩ := I.list (SqL.of qb)
      obtain ⟨hl, ht⟩ := items_refl I (tree_refl I m n) (by simpa [reflIn] using h) ra rb vu vv
      have t := PySem.W.EqTree.lists (e := fun _ => true) hab (show s.heap.IsList a us.toArray from ⟨ou, hu, cu, nu, du⟩) (show s.heap.IsList b vs.toArray from ⟨ov, hv, cv, nv, dv⟩) (by simpa using hl) ht
      simpa [all_yes] using t
  | n + 1, .ref k, x, y, u, v, h, rx, ry, ru, rv => by
    simp only [R] at rx ry
    obtain ⟨a, rfl, ha⟩ := rx
    obtain ⟨b, rfl, hb⟩ := ry
    rw [ha] at hb
    cases hb
    cases ru
    cases rv
    exact .same
  | n + 1, .ob _ _, x, y, u, v, h, _, _, _, _ => by simp [reflIn] at h
  | n + 1, .cst _, x, y, u, v, h, _, _, _, _ => by simp [reflIn] at h
  | n + 1, .clo _ _, x, y, u, v, h, _, _, _, _ => by simp [reflIn] at h
  | n + 1, .er _ _, x, y, u, v, h, _, _, _, _ => by simp [reflIn] at h
  | n + 1, .gl _, x, y, u, v, h, _, _, _, _ => by simp [reflIn] at h
  | n + 1, .scr _, x, y, u, v, h, _, _, _, _ => by simp [reflIn] at h
theorem eq_refl {k : Nat} {A : Around} {E : Value → Shared → Prop} (hr : RoomG k A) (I : Inv X pins σ H s) (m : Mt (XT X fl) ρ st H) {d : D} {x y : V} {u v : Value} {Q : Value → Shared → Prop} (h : reflTop st d = true) (rx : R (XT X fl) ρ st H d x) (ry : R (XT X fl) ρ st H d y) (ru : RelV x u) (rv : RelV y v)
    (q : Q (.bool true) s) : wpAny (model X.prog X.w) A (compareOp .Eq u v) Q E s := by
  have hu := hr.rm.units
  cases d with
  | tup ds =>
    obtain ⟨a, xs, rfl, qa, ra⟩ := rx.tup_of
    obtain ⟨b, ys, rfl, qb, rb⟩ := ry.tup_of
    cases ru
    cases rv
    obtain ⟨us, vu, iu, _⟩ := I.tuple qa
    obtain ⟨vs, vv, iv, _⟩ := I.tuple qb
    obtain ⟨hl, ht⟩ := items_refl I (tree_refl I m 40) h ra rb vu vv
    refine PySem.W.eq_tuplesT (e := fun _ => true) iu iv ht (by omega) ?_
    simpa [hl, all_yes] using q
  | lst ds =>
    obtain ⟨a, xs, rfl, qa, ra⟩ := rx.lst_of
    obtain ⟨b, ys, rfl, qb, rb⟩ := ry.lst_of
    cases ru
    cases rv
    obtain ⟨us, vu, ⟨ou, nu, hu', cu, _, du⟩, _⟩ := I.list (SqL.of qa)
    obtain ⟨vs, vv, ⟨ov, nv, hv, cv, _, dv⟩, _⟩ := I.list (SqL.of qb)
    obtain ⟨hl, ht⟩ := items_refl I (tree_refl I m 40) h ra rb vu vv
    refine PySem.W.eq_listsT (e := fun _ => true) (show s.heap.IsList a us.toArray from ⟨ou, hu', cu, nu, du⟩) (show s.heap.IsList b vs.toArray from ⟨ov, hv, cv, nv, dv⟩) (by simpa using hl) ht (by omega) ?_
    simpa [all_yes] using q
  | ref n =>
    simp only [reflTop] at h
    cases q1 : st[n]? with
    | none => rw [q1] at h; cases h
    | some so =>
      rw [q1] at h
      cases so with
      | dk kvs =>
        simp only [R] at rx ry
        obtain ⟨a, rfl, ha⟩ := rx
        obtain ⟨b, rfl, hb⟩ := ry
        rw [ha] at hb
        cases hb
        cases ru
        cases rv
        obtain ⟨vs, hH, _⟩ := m.obj n a _ ha q1
        obtain ⟨_, hsm, ws, kv, dd⟩ := dk_of I.hok hH
        have nd : (ws.map (·.1)).Nodup := let ⟨_, _, _, _, _, _, _, _, nd⟩ := dd; nd
        refine PySem.W.eq_dictsT (n := 0) (e := fun _ => true) hsm hsm dd dd (fun k v y hm hv => ?_) (by omega) ?_
        · rw [valueAt_of_mem nd hm] at hv
          cases hv
          exact .same
        · have e : (ws.all fun p => (valueAt ws p.1).isSome && true) = true := by
            rw [List.all_eq_true]
            rintro ⟨k, v⟩ hm
            rw [valueAt_of_mem nd hm]
            rfl
          rw [e]
          simpa using q
      | _ => cases h
  | _ => cases h
end
open Classical in
/-- data by what they are, or a thing and a like one -/
noncomputable def fEqD (st : Store) (d e : D) : Option D := match fEq st d e with
  | some v => some v
  | none => if d = e ∧ reflTop st d = true then some (.bl true) else none
def rEqD (T : Tab) : R2 := fun x y H Q => rEqA T false x y H Q ∨ ∃ ρ st d, Mt T ρ st H ∧ R T ρ st H d x ∧ R T ρ st H d y ∧ reflTop st d = true ∧ Q (.bl true) H
theorem op_eqD {X : Cx} {fl : Fls} {k : Nat} (hr : RoomG k X.A) (hS : SysB X.base) : OpR X (compareOp .Eq) (rEqD (XT X fl)) := by
  intro pins s σ H x y v u Q I rx ry h
  rcases h with h | ⟨ρ, st, d, m, rd, re, hc, q⟩
  · exact op_eqA hr hS pins s σ H x y v u Q I rx ry h
  · exact eq_refl hr I m hc rd re rx ry ⟨.bl true, H, I, rfl, q⟩
theorem v_eqD {T : Tab} : V2 T (rEqD T) fEqD := by
  intro ρ st H d e x y v Q m rx ry h hq
  unfold fEqD at h
  cases q1 : fEq st d e with
  | some w =>
    rw [q1] at h
    cases h
    exact .inl (v_eq ρ st H d e x y v Q m rx ry q1 hq)
  | none =>
    rw [q1] at h
    dsimp only at h
    split at h
    · rename_i hc
      obtain ⟨rfl, hc⟩ := hc
      cases h
      exact .inr ⟨ρ, st, d, m, rx, ry, hc, hq H _ .refl m R.bl⟩
    · cases h

/-! ### an own == -/
/-- the methods' readings by classes; all else by f -/
def fOwn (tbl : Str → Option (List D → M D)) (cs : List Str) (f : Store → D → D → Option D) (d e : D) : M D := fun st => match d, e with
  | .ob c _, .ob c' _ => match tbl c with
    | some m => if c' ∈ cs then (match m [d, e] st with
      | .ok (.bl b) st' => .ok (.bl b) st'
      | _ => .stuck) else .stuck
    | none => .stuck
  | .ob _ _, _ => .stuck
  | _, _ => lift (f st d e) st
def e2M (f : D → D → M D) (a b : EM) : EM := fun δ => a δ >>= fun x => b δ >>= fun y => f x y
/-- the method of each class -/
def OwnOkR (P : Program) (w : World) (K : PySem.W.Frag) (mg : Str → Option Value) (base : Heap) (fl : Fls) (op : CmpOp) (k : Nat) (tbl : Str → Option (List D → M D)) (cs : List Str) : Prop :=
  ∀ c m, tbl c = some m → ∃ C f fd ps, mg c = some (.ref C) ∧ PySem.W.findIn K (.ref C) (cmpInfo op).2.1 = some (some (.ref f)) ∧ PySem.W.isFn K (.ref f) = true ∧ ps.length = 2 ∧ Md P w K mg base fl k f fd ps m ∧
    ∀ c' ∈ cs, ∀ C', mg c' = some (.ref C') → PySem.W.notFirst K C (.ref C') = true
abbrev OwnOk (X : Cx) (fl : Fls) (op : CmpOp) (k : Nat) (tbl : Str → Option (List D → M D)) (cs : List Str) : Prop := OwnOkR X.prog X.w X.K X.mg X.base fl op k tbl cs
def rOwn (X : Cx) (fl : Fls) (r : R2) (tbl : Str → Option (List D → M D)) (cs : List Str) : R2 := fun x y H Q => r x y H Q ∨ ∃ ρ st c ds c' es m, Mt (XT X fl) ρ st H ∧ R (XT X fl) ρ st H (.ob c ds) x ∧ R (XT X fl) ρ st H (.ob c' es) y ∧ tbl c = some m ∧ c' ∈ cs ∧
  Post (XT X fl) ρ st H [] WF (fun v ρ' st' H' => ∃ b, v = .bl b ∧ Q (.bl b) H') (m [.ob c ds, .ob c' es] st)
section
variable {X : Cx} {fl : Fls} {Wx : WX} {op : CmpOp} {k : Nat} {r : R2} {f : Store → D → D → Option D} {tbl : Str → Option (List D → M D)} {cs : List Str} {a b : Expr} {ma mb : EM} {pos : Pos}
theorem op_own (ho : OpR X (compareOp op) r) (hop : compareOp op = richCompare op) (hr : RoomG k X.A) (ok : OwnOk X fl op k tbl cs) : OpR X (compareOp op) (rOwn X fl r tbl cs) := by
  intro pins s σ H x y v u Q I rx ry h
  rcases h with h | ⟨ρ, st, c, ds, c', es, m, mt, rd, re, ht, hc', q⟩
  · exact ho pins s σ H x y v u Q I rx ry h
  · obtain ⟨C, g, fd, ps, hC, hs, hf, hl, F, hn⟩ := ok c m ht
    have rd0 := rd
    have re0 := re
    simp only [R] at rd re
    obtain ⟨a1, C1, dx, vs, rfl, hc1, hH, _, _⟩ := rd
    obtain ⟨a2, C2, dy, ws, rfl, hc2, hH2, _, _⟩ := re
    have e1 : C1 = C := by
      have := hc1.symm.trans hC
      simpa using this
    subst e1
    cases rx
    cases ry
    obtain ⟨mA, J, _⟩ := ins_get I.hok hH
    obtain ⟨mB, J', _⟩ := ins_get I.hok hH2
    obtain ⟨od, J, _⟩ := J.look
    obtain ⟨od', J', _⟩ := J'.look
    obtain ⟨mm, hF⟩ := I.fr
    rw [hop]
    refine PySem.W.cmp_K (op := op) (tb := .ref C2) hr.rm.units0 hF I.ok.mod.kin J J'.type (hn c' hc' C2 hc2) hs hf ?_
    have r2 : Vals [V.ref a1, V.ref a2] [Value.ref a1, Value.ref a2] := .cons rfl (.cons rfl .nil)
    have hsp : spD (XT X fl) ps.length m [V.ref a1, V.ref a2] H (fun v H' => ∃ b, v = .bl b ∧ Q (.bl b) H') (fun _ _ _ => False) := by
      refine ⟨ρ, st, [.ob c ds, .ob c' es], mt, .cons rd0 (.cons re0 .nil), hl.symm, ?_⟩
      have q' : Post (XT X fl) ρ st H [] (wx fun _ _ _ => False) (fun v ρ' st' H' => ∃ b, v = .bl b ∧ Q (.bl b) H') (m [.ob c ds, .ob c' es] st) := q
      refine q'.mono fun v ρ' st' H' ⟨b, e, q⟩ z rz => ?_
      subst e
      exact ⟨b, R.bl_of rz, q⟩
    refine wpAny_mono (run_fnG (X := X) (pins := pins) (σ := σ) (Q := fun v H' => ∃ b, v = .bl b ∧ Q (.bl b) H') F.fn hr F.bd (fun pins H s e s' I h => ?_) I r2 hsp) (fun w s' hq => ?_) fun _ _ z => z
    · obtain ⟨_, _, _, _, _, _, _, _, _, _, _, _, z⟩ := h
      exact z.elim
    · obtain ⟨v, H', I', rv, b, rfl, q⟩ := hq
      cases rv
      exact ⟨.bl b, H', I', rfl, q⟩
theorem de_own (ho : OpR X (compareOp op) r) (hop : compareOp op = richCompare op) (hv : V2 (XT X fl) r f) (hr : RoomG k X.A) (ok : OwnOk X fl op k tbl cs) (ha : DE X fl Wx a ma) (hb : DE X fl Wx b mb) (hm : behindInMarks op b = false) :
    DE X fl Wx (.Compare a [op] [b] pos) (e2M (fOwn tbl cs f) ma mb) := by
  refine pe_imp (pe_cmpR (op_own ho hop hr ok) ha hb hm) fun σ H Q ⟨ρ, δ, st, m, en, h⟩ => ?_
  refine ⟨ρ, δ, st, m, en, (Post.bind h).monoE fun d ρ1 st1 H1 e1 m1 h1 x rx => ?_⟩
  refine ⟨ρ1, δ, st1, m1, en.ext e1, (Post.bind h1).monoE fun e ρ2 st2 H2 e2 m2 h2 y ry => ?_⟩
  have rx2 := rx.ext e2 _ _
  have simple : Post (XT X fl) ρ2 st2 H2 σ Wx (fun v ρ' st' H' => ∀ x, R (XT X fl) ρ' st' H' v x → Q x H') (lift (f st2 d e) st2) → rOwn X fl r tbl cs x y H2 Q := fun h3 => by
    obtain ⟨v, ev, h4⟩ := Post.lift_inv h3
    exact .inl (hv ρ2 st2 H2 d e x y v Q m2 rx2 ry ev fun H' z e' m' rz => h4 ρ2 H' e' m' z rz)
  cases d with
  | ob c ds =>
    cases e with
    | ob c' es =>
      unfold fOwn at h2
      dsimp only at h2
      cases ht : tbl c with
      | none => rw [ht] at h2; exact False.elim h2
      | some mm =>
        rw [ht] at h2
        dsimp only at h2
        split at h2
        · rename_i hc
          refine .inr ⟨ρ2, st2, c, ds, c', es, mm, m2, rx2, ry, ht, hc, ?_⟩
          cases q : mm [.ob c ds, .ob c' es] st2 with
          | stuck => rw [q] at h2; exact False.elim h2
          | exc c3 d3 st3 => rw [q] at h2; exact False.elim h2
          | ok v st3 =>
            rw [q] at h2
            cases v with
            | bl b => exact fun ρ' H' e' m' => ⟨b, rfl, h2 ρ' H' e' m' _ R.bl⟩
            | _ => exact False.elim h2
        · exact False.elim h2
    | _ => exact False.elim h2
  | non => exact simple h2
  | bl _ => exact simple h2
  | int _ => exact simple h2
  | str _ => exact simple h2
  | tup _ => exact simple h2
  | lst _ => exact simple h2
  | cst _ => exact simple h2
  | ref _ => exact simple h2
  | clo _ _ => exact simple h2
  | scr _ => exact simple h2
  | er _ _ => exact simple h2
  | gl _ => exact simple h2
theorem dt_own (ho : OpR X (compareOp op) r) (hop : compareOp op = richCompare op) (hv : V2 (XT X fl) r f) (hr : RoomG k X.A) (ok : OwnOk X fl op k tbl cs) (ha : DE X fl Wx a ma) (hb : DE X fl Wx b mb) (hm : behindInMarks op b = false) :
    DT X fl Wx (.Compare a [op] [b] pos) (tOf (e2M (fOwn tbl cs f) ma mb)) := by
  refine pt_imp (pt_cmpR (op_own ho hop hr ok) ha hb hm) fun σ H Q h => ?_
  have h' := go_bool h
  obtain ⟨ρ, δ, st, m, en, h⟩ := h'
  refine ⟨ρ, δ, st, m, en, (Post.bind h).monoE fun d ρ1 st1 H1 e1 m1 h1 x rx => ?_⟩
  refine ⟨ρ1, δ, st1, m1, en.ext e1, (Post.bind h1).monoE fun e ρ2 st2 H2 e2 m2 h2 y ry => ?_⟩
  have rx2 := rx.ext e2 _ _
  have simple : Post (XT X fl) ρ2 st2 H2 σ Wx (fun v ρ' st' H' => ∀ x, R (XT X fl) ρ' st' H' v x → ∃ k, x = .bl k ∧ Q k H') (lift (f st2 d e) st2) → rOwn X fl r tbl cs x y H2 (fun x H1 => ∃ k, x = .bl k ∧ Q k H1) := fun h3 => by
    obtain ⟨v, ev, h4⟩ := Post.lift_inv h3
    exact .inl (hv ρ2 st2 H2 d e x y v _ m2 rx2 ry ev fun H' z e' m' rz => h4 ρ2 H' e' m' z rz)
  cases d with
  | ob c ds =>
    cases e with
    | ob c' es =>
      unfold fOwn at h2
      dsimp only at h2
      cases ht : tbl c with
      | none => rw [ht] at h2; exact False.elim h2
      | some mm =>
        rw [ht] at h2
        dsimp only at h2
        split at h2
        · rename_i hc
          refine .inr ⟨ρ2, st2, c, ds, c', es, mm, m2, rx2, ry, ht, hc, ?_⟩
          cases q : mm [.ob c ds, .ob c' es] st2 with
          | stuck => rw [q] at h2; exact False.elim h2
          | exc c3 d3 st3 => rw [q] at h2; exact False.elim h2
          | ok v st3 =>
            rw [q] at h2
            cases v with
            | bl b => exact fun ρ' H' e' m' => ⟨b, rfl, h2 ρ' H' e' m' _ R.bl⟩
            | _ => exact False.elim h2
        · exact False.elim h2
    | _ => exact False.elim h2
  | non => exact simple h2
  | bl _ => exact simple h2
  | int _ => exact simple h2
  | str _ => exact simple h2
  | tup _ => exact simple h2
  | lst _ => exact simple h2
  | cst _ => exact simple h2
  | ref _ => exact simple h2
  | clo _ _ => exact simple h2
  | scr _ => exact simple h2
  | er _ _ => exact simple h2
  | gl _ => exact simple h2
end

/-! ### targets, assignments -/
def gLstD (n : Nat) (g : GMs) : GM := fun d δ => match d with
  | .lst ds => if ds.length = n then g ds δ else none
  | _ => none
def sAsg (g : GM) (m : EM) : SM := fun δ => m δ >>= fun d st => match g d δ with
  | some δ' => .ok (.next, δ') st
  | none => .stuck
def setAll : DEnv → List Nat → List D → DEnv
  | δ, i :: is, d :: ds => setAll (δ.set i (some d)) is ds
  | δ, _, _ => δ
/-- a, b = x, y (two or three names), stored from the right -/
def sPar (is : List Nat) (a : AM) : SM := fun δ => a δ >>= fun ds => if ds.length = is.length then pure (.next, setAll δ is ds) else M.stuck
section
variable {X : Cx} {fl : Fls} {Wx : WX} {E : XK} {vs : List Nat} {tg e a b c : Expr} {tgs : List Expr} {g : GM} {gs : GMs} {m : EM} {mA : AM} {pos : Pos}
theorem dg_lst {k n : Nat} (hc : X.calm = true) (h : DGs X fl vs tgs gs) (hn : (assignEach tgs X.env).length = n := by rfl) (hst : (assignEach tgs X.env).findIdx? (·.1) = none := by rfl) : DG X fl vs (.Tuple tgs k pos) (gLstD n gs) := by
  refine pg_imp (pg_unl (n := n) hc h hn hst) fun v σ H Q ⟨ρ, δ, st, d, δ', m, en, r, hg, h⟩ => ?_
  cases d with
  | lst ds =>
    obtain ⟨a, xs, e, q, rxs⟩ := r.lst_of
    simp only [gLstD] at hg
    by_cases hl : ds.length = n
    · rw [if_pos hl] at hg
      exact ⟨a, xs, e, SqL.of q, by rw [← rxs.length]; exact hl, ρ, δ, st, ds, δ', m, en, rxs, hg, h⟩
    · rw [if_neg hl] at hg
      cases hg
  | _ => cases hg
theorem ds_asg (he : DE X fl (wx E) e m) (hg : DG X fl vs tg g) (hs : swapsWithSole [tg] e pos.line X.env = pure false := by rfl) (hw : swappedStores [tg] e X.env = pure none := by rfl)
    (h1 : (assignEach [tg] X.env).map (·.2) = [assign tg X.env] := by rfl) : DS X fl E (.Assign [tg] e pos) (sAsg g m) := by
  refine ps_imp (ps_asg he hg hs hw h1) fun D σ H ⟨ρ, δ, st, mt, en, h⟩ => ?_
  refine ⟨ρ, δ, st, mt, en, (Post.bind h).monoE fun d ρ1 st1 H1 e1 m1 h1 x rx => ?_⟩
  cases q : g d δ with
  | none => rw [q] at h1; exact False.elim h1
  | some δ' =>
    rw [q] at h1
    exact ⟨ρ1, δ, st1, d, δ', m1, en.ext e1, rx, q, fun σ' _ en' => h1 ρ1 H1 .refl m1 σ' en'⟩
theorem ds_par {i j : Nat} {x y : Str} {px py pt : Pos} {kt k2 pt2} (hc : X.calm = true) (hN : X.N.Nodup) (hi : X.N[i]? = some x) (hj : X.N[j]? = some y) (hij : i ≠ j)
    (hx : X.env.scope.names.lookup x = some .local) (hy : X.env.scope.names.lookup y = some .local) (ha : DA X fl (wx E) [a, b] mA)
    (hw : swappedStores [.Tuple [.Name x px, .Name y py] kt pt] (.Tuple [a, b] k2 pt2) X.env = pure (some [x, y]))
    (hs : swapsWithSole [.Tuple [.Name x px, .Name y py] kt pt] (.Tuple [a, b] k2 pt2) pos.line X.env = pure false := by rfl) :
    DS X fl E (.Assign [.Tuple [.Name x px, .Name y py] kt pt] (.Tuple [a, b] k2 pt2) pos) (sPar [i, j] mA) := by
  refine ps_imp (ps_par hc hN hi hj hij hx hy ha hw hs) fun D σ H ⟨ρ, δ, st, m, en, h⟩ => ?_
  refine ⟨ρ, δ, st, m, en, (Post.bind h).monoE fun ds ρ1 st1 H1 e1 m1 h1 xs rxs => ?_⟩
  match ds, h1, rxs with
  | [d1, d2], h1, rxs =>
    simp only [RAll] at rxs
    obtain ⟨x1, _, rfl, r1, x2, _, rfl, r2, rfl⟩ := rxs
    exact ⟨x1, x2, rfl, h1 ρ1 H1 .refl m1 _ (((en.ext e1).set i r1).set j r2)⟩
  | [], h1, _ => exact False.elim h1
  | [_], h1, _ => exact False.elim h1
  | _ :: _ :: _ :: _, h1, _ =>
    rw [if_neg (by simp)] at h1
    exact False.elim h1
theorem ds_par3 {i j l : Nat} {x y z : Str} {px py pz pt : Pos} {kt k2 pt2} (hc : X.calm = true) (hN : X.N.Nodup) (hi : X.N[i]? = some x) (hj : X.N[j]? = some y) (hl : X.N[l]? = some z) (hij : i ≠ j) (hil : i ≠ l) (hjl : j ≠ l)
    (hx : X.env.scope.names.lookup x = some .local) (hy : X.env.scope.names.lookup y = some .local) (hz : X.env.scope.names.lookup z = some .local) (ha : DA X fl (wx E) [a, b, c] mA)
    (hw : swappedStores [.Tuple [.Name x px, .Name y py, .Name z pz] kt pt] (.Tuple [a, b, c] k2 pt2) X.env = pure (some [x, y, z]))
    (hs : swapsWithSole [.Tuple [.Name x px, .Name y py, .Name z pz] kt pt] (.Tuple [a, b, c] k2 pt2) pos.line X.env = pure false := by rfl) :
    DS X fl E (.Assign [.Tuple [.Name x px, .Name y py, .Name z pz] kt pt] (.Tuple [a, b, c] k2 pt2) pos) (sPar [i, j, l] mA) := by
  refine ps_imp (ps_par3 hc hN hi hj hl hij hil hjl hx hy hz ha hw hs) fun D σ H ⟨ρ, δ, st, m, en, h⟩ => ?_
  refine ⟨ρ, δ, st, m, en, (Post.bind h).monoE fun ds ρ1 st1 H1 e1 m1 h1 xs rxs => ?_⟩
  match ds, h1, rxs with
  | [d1, d2, d3], h1, rxs =>
    simp only [RAll] at rxs
    obtain ⟨x1, _, rfl, r1, x2, _, rfl, r2, x3, _, rfl, r3, rfl⟩ := rxs
    exact ⟨x1, x2, x3, rfl, h1 ρ1 H1 .refl m1 _ ((((en.ext e1).set i r1).set j r2).set l r3)⟩
  | [], h1, _ => exact False.elim h1
  | [_], h1, _ => exact False.elim h1
  | [_, _], h1, _ => exact False.elim h1
  | _ :: _ :: _ :: _ :: _, h1, _ =>
    rw [if_neg (by simp)] at h1
    exact False.elim h1
/-- name = [.. for ..] -/
theorem ds_setLc {i : Nat} {y : Str} {py spos : Pos} {iter elt : Expr} {ifs : List Expr} {scope : Scope} {own : List (Str × Nat)} {mi : IM} {mt : TM} {me : EM} (hc : X.calm = true) (hN : X.N.Nodup) (hy : X.N[i]? = some y) (hyl : X.env.scope.names.lookup y = some .local)
    (hsw : swapsWith (.ListComp elt [⟨tg, iter, ifs, 0⟩] scope pos) (some (.Name y py)) spos.line X.env = pure true) (hi : DI X fl (wx E) tg iter mi) (ok : BlkOk X.N X.env.scope scope own) (hv : own.map (·.2) = vs)
    (hg : ∀ (s : Shared) (H : Hp) (C : Addr) (cl : List (Str × Addr)) (fp : List Addr), DG (X.blk s H scope (compEnvC scope cl C X.env) fp) fl vs tg g) (ht : ∀ (s : Shared) (H : Hp) (C : Addr) (cl : List (Str × Addr)) (fp : List Addr), DTs (X.blk s H scope (compEnvC scope cl C X.env) fp) fl WF ifs mt)
    (he : ∀ (s : Shared) (H : Hp) (C : Addr) (cl : List (Str × Addr)) (fp : List Addr), DE (X.blk s H scope (compEnvC scope cl C X.env) fp) fl WF elt me) (hs : ∀ x, foldedSetIterable iter X.env x = pure x := by intro _; rfl) :
    DS X fl E (.Assign [.Name y py] (.ListComp elt [⟨tg, iter, ifs, 0⟩] scope pos) spos) (sSet i (eComp vs mi g mt me)) := by
  subst hv
  refine ps_imp (ps_setLc (g := tDG (XT X fl) (own.map (·.2)) g) (tt := tDT (XT X fl) WF mt) (te := tD (XT X fl) WF me) hc hN hy hyl hsw hi ok hg ht he hs) fun D σ H ⟨ρ, δ, st, m, en, h⟩ => ?_
  refine go_lc (Wx := wx E) (P := fun ds ρ1 st1 H1 => ∀ x, R (XT X fl) ρ1 st1 H1 (.lst ds) x → D.nx (σ.set i (some x)) H1) (fun ds ρ1 st1 H1 L accV hp hD nl _ m1 r => hp _ ?_) ⟨ρ, δ, st, m, en, ?_⟩
  · simp only [R]
    exact ⟨L, accV, rfl, hD, nl, r⟩
  · exact (Post.bind (Post.bind h)).monoE fun ds ρ1 st1 H1 e1 m1 h1 x rx => (h1 ρ1 H1 .refl m1) ρ1 H1 .refl m1 _ ((en.ext e1).set i rx)
end
end DL
/-! DL11: the end of a law. -/
namespace DL
open PySem PySem.Spec PyProof.Rows L2

/-- the law's def, as the script comes from outside: told from its reading alone -/
theorem enterG {P : Program} {w : World} {K : PySem.W.Frag} {mg mb : Str → Option Value} {fl : Fls} {k : Nat} {fa a : Addr} {fd : FuncData} {x : Str} {m : List D → M D} {s₁ : Shared} {vs : List Value} {ns : List Int}
    (KX : K.In s₁.heap) (hns : s₁.heap.Ns mainGlobals mg) (hb : s₁.heap.Ns builtinsNs mb) (hbb : ∀ x : Str, x ≠ "__name__" → mb x = bootBuiltins x) (hlim : s₁.heap.NoLimit) (hsm : ∃ mm, s₁.heap.Ns sysModules mm) (hg : s₁.gens = #[])
    (ha : s₁.heap.get? a = some { cls := .type "list", data := .seq vs.toArray }) (hi : IntsAre vs ns) (hl : ns.length ≤ sizeLine) (hr : RoomG k callerA)
    (F : ∀ base : Heap, K.In base → base.Ns mainGlobals mg → SysB base → FnG P w K mg base k fa fd [x] (spD ⟨K, mg, fl⟩ 1 m)) (hbind : ∀ (s : Shared) (u : Value), BindsTo s fd ⟨[u], []⟩ [(x, u)])
    (hm : ∃ st', m [.scr ns] [] = .ok (.bl true) st') :
    codeAny (model P w) callerA (.call (.ref fa) ⟨[.ref a], []⟩) (fun r s' => r = .ok (.ret (.bool true)) ∧ OldK s₁.heap s'.heap ∧ s'.os = s₁.os ∧ AllBare s'.gens) s₁ := by
  classical
  have rv := vals_ints hi
  have lenV := hi.length
  -- tracked: the script, if it is not of the written part
  obtain ⟨H, hH⟩ : ∃ H : Hp, H = fun b => if b = a ∧ K.lookup a = none then some (.frz { cls := .type "list", data := .seq vs.toArray } (.lst (ns.map V.int))) else none := ⟨_, rfl⟩
  have hat : ∀ b u, H b = some u → b = a ∧ K.lookup a = none ∧ u = .frz { cls := .type "list", data := .seq vs.toArray } (.lst (ns.map V.int)) := fun b u q => by
    rw [hH] at q
    dsimp only at q
    split at q
    · rename_i hc
      exact ⟨hc.1, hc.2, (Option.some.inj q).symm⟩
    · cases q
  have hok : HOk P w H s₁.heap := fun b u q => by
    obtain ⟨rfl, _, rfl⟩ := hat b u q
    exact ⟨ha, by rw [List.length_map]; exact hl, vs, _, rv, ha⟩
  have plainB : ∀ {b : Addr} {o : Obj}, s₁.heap.get? b = some o → (∀ its n, o.data ≠ .seq its n) → H b = none := fun {b o} e hd => by
    cases q : H b with
    | none => rfl
    | some u =>
      obtain ⟨rfl, _, _⟩ := hat b u q
      rw [ha] at e
      cases e
      exact absurd rfl (hd _ _)
  have nsB : ∀ {b : Addr} {mm : Str → Option Value}, s₁.heap.Ns b mm → (hidT s₁.heap H).Ns b mm := fun {b mm} ⟨o, es, ep, e, d, r⟩ => ⟨o, es, ep, hidT_get e (plainB e fun its n z => by rw [d] at z; cases z), d, r⟩
  have kB : K.In (hidT s₁.heap H) := fun b o e => hidT_get (KX b o e) (by
    cases q : H b with
    | none => rfl
    | some u =>
      obtain ⟨rfl, hk, _⟩ := hat b u q
      rw [hk] at e
      cases e)
  have sB : SysB (hidT s₁.heap H) := let ⟨mm, h⟩ := hsm; let ⟨o, _, _, e, _⟩ := nsB h; ⟨o, e⟩
  have M0 : L2.Mod K mg (hidT s₁.heap H) := ⟨kB, nsB hns, ⟨mb, nsB hb, hbb⟩, let ⟨mc, h1, h2⟩ := hlim; ⟨mc, nsB h1, h2⟩⟩
  have e0 : Env0 P w K mg (hidT s₁.heap H) callerA [] s₁ H := ⟨rfl, M0, fun b o e => of_hidT e, Nat.le_of_eq (hidT_size _ _), trivial, fun b hb => absurd (show b ∈ ([] : List Addr) from hb) (by simp), hok, .of_eq hg⟩
  obtain ⟨st', hm⟩ := hm
  have hsp : spD ⟨K, mg, fl⟩ 1 m [.ref a] H (fun v _ => v = .bl true) (fun _ _ _ => False) := by
    refine ⟨⟨[], fun _ => False⟩, [], [.scr ns], ⟨rfl, List.nodup_nil, fun _ z => absurd z (by simp), fun _ z => z.elim, fun _ z => z.elim, fun i b o z => by simp at z⟩, .cons ?_ .nil, rfl, ?_⟩
    · simp only [R]
      refine ⟨a, rfl, ?_⟩
      cases hk : K.lookup a with
      | some o =>
        have e := KX a o hk
        rw [ha] at e
        cases e
        exact .inr fun H' => .inr ⟨_, vs.toArray, _, hk, rfl, rfl, rfl, by rw [List.size_toArray, lenV]; exact hl, by simpa using rv⟩
      | none =>
        refine .inl ⟨{ cls := .type "list", data := .seq vs.toArray }, by rw [hH]; exact if_pos ⟨rfl, hk⟩, fun z => ?_⟩
        rcases z with ⟨i, o, z, _⟩ | z
        · simp at z
        · exact z
    · rw [hm]
      exact fun ρ' H' _ _ y ry => R.bl_of ry
  refine codeAny_mono ((F _ kB (nsB hns) sB).run callerA [] s₁ H ⟨[.ref a], []⟩ [.ref a] [.ref a] _ _ hr e0 (hbind s₁ (.ref a)) (.cons rfl .nil) hsp) fun r s' h => ?_
  cases r with
  | error e =>
    obtain ⟨_, _, _, _, _, _, _, _, _, _, _, _, z⟩ := (show L2.CX P w [] H s₁ (fun _ _ _ => False) e s' from h)
    exact z.elim
  | ok fl =>
    cases fl with
    | next => exact False.elim h
    | brk => exact False.elim h
    | cont => exact False.elim h
    | ret u =>
      obtain ⟨v, H', os, bare, un, hok', r', q⟩ := h
      have q' : v = .bl true := q
      subst q'
      obtain rfl : u = Value.bool true := r'
      refine ⟨rfl, OldK.of_keep fun b o e => ?_, os, bare⟩
      cases q : H b with
      | none => exact un.keep b o e q (by intro z; exact absurd (show b ∈ ([] : List Addr) from z) (by simp)) (by simp)
      | some u =>
        obtain ⟨rfl, _, rfl⟩ := hat b u q
        obtain ⟨e2, _⟩ := hok' b _ (un.frzs b _ _ q)
        rw [ha] at e
        cases e
        exact e2
/-- what the head leaves, from the reading of the law's def -/
theorem walkG {l : PySem.W.OpenLaw} {n k : Nat} {q : Program} {loose : List Str} {XP : (Str → Option Value) → Heap → Prop} {YP : World → Heap → Prop} {d : DefRec} {K : Params → PySem.W.Frag} {fl : Fls} {x : Str} {m : List D → M D}
    (hn : l.most = some n) (hn2 : n ≤ sizeLine) (hdf : d.params.defaults = []) (hr : RoomG k callerA) (hq : importsNone q = true)
    (hY : ∀ (w : World) (h : Heap), YP w h → (K w.params).In h)
    (F : ∀ (w : World) (mg : Str → Option Value) (fa : Addr) (h : Heap), (K w.params).In h → h.Ns mainGlobals mg → mg d.name = some (.ref fa) →
      ∃ fd : FuncData, (∀ (s : Shared) (u : Value), BindsTo s fd ⟨[u], []⟩ [(x, u)]) ∧
        ∀ base : Heap, (K w.params).In base → base.Ns mainGlobals mg → SysB base → FnG l.prog w (K w.params) mg base k fa fd [x] (spD ⟨K w.params, mg, fl⟩ 1 m))
    (hm : ∀ ns : List Int, ns.length ≤ n → ∃ st', m [.scr ns] [] = .ok (.bl true) st') :
    PySem.W.WalkO q loose XP YP l.row.toRowW d [] (fun f vs => PySem.call f vs) := by
  refine Att.attach_call hn hdf fun w s₀ s₁ mg mb fa o pm cd doc a vs ns G Y ho hd hcd hmg hobj hints hlen hg => ?_
  have KX := hY w _ Y
  obtain ⟨fd, hb, hF⟩ := F w mg fa _ KX G.T.g hmg
  have hsm : ∃ mm, s₁.heap.Ns sysModules mm := let ⟨mm, h, _⟩ := (G.T.seer hq).mods; ⟨mm, h⟩
  exact enterG KX G.T.g G.T.b G.T.builtins G.T.nolimit hsm hg hobj hints (Nat.le_trans hlen hn2) hr hF hb (hm ns hlen)
end DL
/-! DL12: the pen. -/
namespace DL
open PySem PySem.Spec PyProof.Rows L2
theorem bb_len : bootBuiltins "len" = some (.builtin "len") := by first | rfl | decide +kernel
theorem bb_repr : bootBuiltins "repr" = some (.builtin "repr") := by first | rfl | decide +kernel
theorem bb_isinstance : bootBuiltins "isinstance" = some (.builtin "isinstance") := by first | rfl | decide +kernel
theorem bb_int : bootBuiltins "int" = some (.type "int") := by first | rfl | decide +kernel
theorem bb_tuple : bootBuiltins "tuple" = some (.type "tuple") := by first | rfl | decide +kernel
theorem bb_list : bootBuiltins "list" = some (.type "list") := by first | rfl | decide +kernel
theorem bb_range : bootBuiltins "range" = some (.type "range") := by first | rfl | decide +kernel
section
variable {X : Cx} {fl : Fls} {Wx : WX} {e : Expr} {es : List Expr} {mA : AM} {p pos : Pos}
theorem de_listN (hg : Gl X "list") (hm : X.mg "list" = none) (hvb : bootBuiltins "list" = some (.type "list")) (ha : DA X fl Wx (e :: es) mA)
    (he : starEach (e :: es) X.env = (false, eval e X.env) :: starEach es X.env := by rfl) (hpl : (backTo pos (starEach es X.env)).any (·.1) = false := by rfl) :
    DE X fl Wx (.Call (.Name "list" p) (e :: es) [] pos) (eListN mA) :=
  pe_imp (pe_callTy call_list_of hg hm hvb ha (by decide) (by decide) he hpl) fun _ _ _ h => go_listN h
end
theorem Md.mono {P : Program} {w : World} {K : PySem.W.Frag} {mg : Str → Option Value} {base : Heap} {fl : Fls} {j k : Nat} {f : Addr} {fd : FuncData} {ps : List Str} {m : List D → M D} (F : Md P w K mg base fl j f fd ps m) (h : j ≤ k) : Md P w K mg base fl k f fd ps m := ⟨F.fn.mono h, F.bd⟩
noncomputable def m__law_pen : List D → M D := fn 3
 (sSeq (sSet 1 (eC (.int 0)))
 (sSeq (sFor (itScr (eVar 0)) (gSet 2)
 (sSet 1 (e2 fMod (eN fInt (aCons (e2 fPlus (e2 fMul (eVar 1) (eC (.int 167))) (eVar 2)) aNil)) (eC (.int 999999323)))))
 (sRet (eDisp [("cells", (eN fListS (aCons (eVar 0) aNil))), ("at", (eC (.int 0))), ("digits", (eC (.int 0))), ("count", (eC (.int 0))), ("fold", (eVar 1))]))))
noncomputable def m__law_draw : List D → M D := fn 5
 (sSeq (sDput (eVar 0) (eC (.str "count")) (e2 fPlus (e2 fDget (eVar 0) (eC (.str "count"))) (eC (.int 1))))
 (sSeq (sIf (tAndM (tOf (e2 fEqD (e2 fDget (eVar 0) (eC (.str "digits"))) (eC (.int 0)))) (tOf (e2 (fCmp fun i j => decide (i < j)) (e2 fDget (eVar 0) (eC (.str "at"))) (eN fLen (aCons (e2 fDget (eVar 0) (eC (.str "cells"))) aNil)))))
 (sSeq (sSet 2 (e2 fItem (e2 fDget (eVar 0) (eC (.str "cells"))) (e2 fDget (eVar 0) (eC (.str "at")))))
 (sSeq (sDput (eVar 0) (eC (.str "at")) (e2 fPlus (e2 fDget (eVar 0) (eC (.str "at"))) (eC (.int 1))))
 (sIf (tOf (e2 (fCmp fun i j => decide (j ≤ i)) (eVar 2) (e2 fPow (eC (.int 10)) (eC (.int 18)))))
 (sDput (eVar 0) (eC (.str "digits")) (e2 fSub (eVar 2) (e2 fPow (eC (.int 10)) (eC (.int 18)))))
 (sDput (eVar 0) (eC (.str "fold")) (e2 fMod (eN fInt (aCons (e2 fPlus (e2 fMul (e2 fDget (eVar 0) (eC (.str "fold"))) (eC (.int 25301))) (eVar 2)) aNil)) (eC (.int 2147483077)))))))
 sNil)
 (sSeq (sIf (tOf (e2 (fCmp fun i j => decide (j < i)) (e2 fDget (eVar 0) (eC (.str "digits"))) (eC (.int 0))))
 (sSeq (sSet 3 (e2 fMod (eN fInt (aCons (e2 fDget (eVar 0) (eC (.str "digits"))) aNil)) (eVar 1)))
 (sSeq (sDput (eVar 0) (eC (.str "digits")) (e2 fFdiv (e2 fDget (eVar 0) (eC (.str "digits"))) (eVar 1)))
 (sRet (eVar 3))))
 sNil)
 (sSeq (sSet 4 (e2 fPlus (e2 fPlus (e2 fDget (eVar 0) (eC (.str "fold"))) (e2 fMul (e2 fDget (eVar 0) (eC (.str "count"))) (eC (.int 5237)))) (eC (.int 157))))
 (sRet (e2 fMod (e2 fFdiv (eN fInt (aCons (e2 fMod (e2 fPow (eVar 4) (eC (.int 61))) (eC (.int 2305843009213693951))) aNil)) (eC (.int 128))) (eVar 1)))))))
noncomputable def m__law_pick : List D → M D := fn 2
 (sRet (e2 fItem (eVar 1) (eCall 2 m__law_draw (aCons (eVar 0) (aCons (eN fLen (aCons (eVar 1) aNil)) aNil)))))
end DL
/-! DL13: what is told of classes. -/
namespace DL
open PySem PySem.Spec PyProof.Rows L2
section
variable {K : PySem.W.Frag} {mg : Str → Option Value} {cs : List Str} {f c0 : Str} {C0 : Addr}
theorem ref_eq {o : Option Value} {C D : Addr} (h : o = some (.ref C)) (h' : o = some (.ref D)) : C = D := by
  have := h.symm.trans h'
  simpa using this
theorem fldOk_by (h : ∀ c ∈ cs, ∃ C, mg c = some (.ref C) ∧ Cls K C ∧ NoAttr K C f) : FldOkR K mg cs f := fun c hc C hC => by
  obtain ⟨D, h1, h2⟩ := h c hc
  obtain rfl := ref_eq hC h1
  exact h2
theorem kit_eq {C : Addr} : PySem.W.kitOne K (.ref C) (.ref C) = some true := by
  unfold PySem.W.kitOne
  rw [if_pos (by simp)]
theorem kit_ne {C D : Addr} (ne : D ≠ C) (ic : PySem.W.isClsIn K C = true) (ty : PySem.W.typeIn K (.ref C) = some (.type "type")) (su : PySem.W.subIn K (.ref D) (.ref C) = some false) : PySem.W.kitOne K (.ref D) (.ref C) = some false := by
  unfold PySem.W.kitOne
  rw [if_neg (by simpa using ne)]
  unfold PySem.W.kitCls
  have ic' : (PySem.W.clsIn K C).isSome = true := ic
  simp only [ic', ty]
  exact su
def isiTbl (cs : List Str) (c0 : Str) : Kd → Option Bool
  | .own c => if c ∈ cs then some (decide (c = c0)) else none
  | _ => none
theorem isiTbl_ok (h : ∀ c ∈ cs, ∃ C, mg c = some (.ref C) ∧ OwnC K C ∧ PySem.W.kitOne K (.ref C) (.ref C0) = some (decide (c = c0))) : IsiOk K mg (.ref C0) (isiTbl cs c0) := by
  refine ⟨fun c C b hb hC => ?_, fun k t b hb ht => ?_⟩
  · simp only [isiTbl] at hb
    split at hb
    · rename_i hc
      obtain ⟨D, h1, h2, _⟩ := h c hc
      obtain rfl := ref_eq hC h1
      exact h2
    · cases hb
  · cases k with
    | ty n => cases hb
    | own c =>
      simp only [isiTbl] at hb
      split at hb
      · rename_i hc
        cases hb
        obtain ⟨D, h1, _, h3⟩ := h c hc
        obtain ⟨C, hC, rfl⟩ := ht
        obtain rfl := ref_eq hC h1
        exact h3
      · cases hb
/-- a built-in class n; m: those that are of it -/
def isiTy (n : String) (sub : List String) : Kd → Option Bool
  | .ty t => if t = n then some true else if t ∈ ["NoneType", "bool", "int", "str", "tuple", "list", "dict"] then some (decide (t ∈ sub)) else none
  | _ => none
theorem isiTy_ok {n : String} {sub : List String} (h : ∀ t ∈ ["NoneType", "bool", "int", "str", "tuple", "list", "dict"], t ≠ n → PySem.W.kitOne K (.type t) (.type n) = some (decide (t ∈ sub))) : IsiOk K mg (.type n) (isiTy n sub) := by
  refine ⟨fun c C b hb hC => (by cases hb), fun k t b hb ht => ?_⟩
  cases k with
  | own c => cases hb
  | ty m =>
    obtain rfl : t = .type m := ht
    simp only [isiTy] at hb
    split at hb
    · rename_i e
      subst e
      cases hb
      show (if (Value.type m == Value.type m) = true then some true else _) = some true
      rw [if_pos (by simp)]
    · rename_i e
      split at hb
      · rename_i hm
        cases hb
        exact h m hm e
      · cases hb
theorem isi_list_ok : IsiOk K mg (.type "list") (isiTy "list" []) := isiTy_ok (by
  intro t ht
  simp only [List.mem_cons, List.not_mem_nil, or_false] at ht
  rcases ht with rfl | rfl | rfl | rfl | rfl | rfl | rfl <;> intro h <;> first | exact absurd rfl h | rfl)
theorem isi_tuple_ok : IsiOk K mg (.type "tuple") (isiTy "tuple" []) := isiTy_ok (by
  intro t ht
  simp only [List.mem_cons, List.not_mem_nil, or_false] at ht
  rcases ht with rfl | rfl | rfl | rfl | rfl | rfl | rfl <;> intro h <;> first | exact absurd rfl h | rfl)
theorem isi_int_ok : IsiOk K mg (.type "int") (isiTy "int" ["bool"]) := isiTy_ok (by
  intro t ht
  simp only [List.mem_cons, List.not_mem_nil, or_false] at ht
  rcases ht with rfl | rfl | rfl | rfl | rfl | rfl | rfl <;> intro h <;> first | exact absurd rfl h | rfl)
theorem isi_bool_ok : IsiOk K mg (.type "bool") (isiTy "bool" []) := isiTy_ok (by
  intro t ht
  simp only [List.mem_cons, List.not_mem_nil, or_false] at ht
  rcases ht with rfl | rfl | rfl | rfl | rfl | rfl | rfl <;> intro h <;> first | exact absurd rfl h | rfl)
variable {P : Program} {w : World} {base : Heap} {fl : Fls} {op : CmpOp} {k : Nat} {tbl : Str → Option (List D → M D)}
theorem ownOk_by (h : ∀ c m, tbl c = some m → ∃ C f fd ps j, mg c = some (.ref C) ∧ PySem.W.findIn K (.ref C) (cmpInfo op).2.1 = some (some (.ref f)) ∧ PySem.W.isFn K (.ref f) = true ∧ ps.length = 2 ∧ Md P w K mg base fl j f fd ps m ∧ j ≤ k ∧
    ∀ c' ∈ cs, ∃ C', mg c' = some (.ref C') ∧ PySem.W.notFirst K C (.ref C') = true) : OwnOkR P w K mg base fl op k tbl cs := fun c m hm => by
  obtain ⟨C, f, fd, ps, j, h1, h2, h3, h4, h5, h6, h7⟩ := h c m hm
  refine ⟨C, f, fd, ps, h1, h2, h3, h4, h5.mono h6, fun c' hc' C' hC' => ?_⟩
  obtain ⟨D, h8, h9⟩ := h7 c' hc'
  obtain rfl := ref_eq hC' h8
  exact h9
end
end DL
/-! DL14: what is shown fits. -/
namespace DL
open PySem PySem.Spec PyProof.Rows L2
mutual
def wt : PyData → Nat
  | .none => 8
  | .bool _ => 8
  | .int i => i.natAbs.log2 + 3
  | .str x => 10 * x.length + 2
  | .list xs => wtAll xs + 4
  | .tuple xs => wtAll xs + 4
  | .dict kvs => wtKv kvs + 4
def wtAll : List PyData → Nat
  | [] => 0
  | x :: xs => wt x + 2 + wtAll xs
def wtKv : List (PyData × PyData) → Nat
  | [] => 0
  | (k, v) :: r => wt k + wt v + 4 + wtKv r
end
mutual
/-- texts have signs that repr can show -/
def chOk : PyData → Bool
  | .none => true
  | .bool _ => true
  | .int _ => true
  | .str x => x.cps.all fun c => decide (c < 16 ^ 8)
  | .list xs => chAll xs
  | .tuple xs => chAll xs
  | .dict kvs => chKv kvs
def chAll : List PyData → Bool
  | [] => true
  | x :: xs => chOk x && chAll xs
def chKv : List (PyData × PyData) → Bool
  | [] => true
  | (k, v) :: r => chOk k && chOk v && chKv r
end
theorem piled_cons (t : Str) (ts : List Str) : piled (t :: ts) = t.length + 2 + piled ts := by
  unfold piled
  simp
theorem len1 (x : String) (n : Nat) (h : (Str.ofString x).length = n) : (x : Str).length = n := h
theorem join_le (ts : List Str) : (Str.join ", " ts).length ≤ piled ts := by
  cases ts with
  | nil => decide
  | cons t ts =>
    have := join_length_add (t :: ts) (by simp)
    omega
theorem listText_le (ts : List Str) : (listText ts).length ≤ piled ts + 4 := by
  unfold listText
  rw [Str.length_append]
  have e2 : (Str.ofString "]").length = 1 := by decide
  cases ts with
  | nil =>
    have e1 : (textFrom 0 "[" []).length = 1 := by decide
    have e1' : (textFrom 0 (Str.ofString "[") []).length = 1 := e1
    have e3 : ((("]" : String) : Str)).length = 1 := e2
    omega
  | cons t ts =>
    have h : textFrom 0 "[" (t :: ts) = textFrom 1 ((Str.ofString "[" ++ Str.ofString "") ++ t) ts := rfl
    rw [h, textFrom_length_pos _ _ _ (by omega), Str.length_append, Str.length_append, piled_cons]
    have e1 : (Str.ofString "[").length = 1 := by decide
    have e0 : (Str.ofString "").length = 0 := by decide
    have e3 : ((("]" : String) : Str)).length = 1 := e2
    omega
theorem tupleText_le (ts : List Str) : (tupleText ts).length ≤ piled ts + 4 := by
  unfold tupleText
  rw [Str.length_append, Str.length_append]
  have := join_le ts
  have e1 : (Str.ofString "(").length = 1 := by decide
  have e1' : (("(" : String) : Str).length = 1 := e1
  have e2 : (Str.ofString ",)").length = 2 := by decide
  have e3 : (Str.ofString ")").length = 1 := by decide
  split
  · have : (Str.ofString ",)").length = 2 := e2
    omega
  · have : (Str.ofString ")").length = 1 := e3
    omega
theorem dictText_le (ts : List Str) : (dictText ts).length ≤ piled ts + 4 := by
  unfold dictText
  rw [Str.length_append, Str.length_append]
  have := join_le ts
  have e1 : (Str.ofString "{").length = 1 := by decide
  have e1' : (("{" : String) : Str).length = 1 := e1
  have e2 : (Str.ofString "}").length = 1 := by decide
  have e2' : (("}" : String) : Str).length = 1 := e2
  omega
mutual
theorem shown_le : ∀ d : PyData, chOk d = true → d.shown.length ≤ wt d
  | .none, _ => by
    show (Str.ofString "None").length ≤ 8
    decide
  | .bool b, _ => by
    cases b
    · show (Str.ofString "False").length ≤ 8
      decide
    · show (Str.ofString "True").length ≤ 8
      decide
  | .int i, _ => by
    simp only [PyData.shown, wt]
    have h := int_text_length_le (a := i) (k := i.natAbs.log2 + 1) (by omega) (by omega)
    have e : (Str.ofString (toString i)).length = (toString i).length := PySem.ofString_length _
    show (Str.ofString (toString i)).length ≤ _
    omega
  | .str x, h => by
    simp only [PyData.shown, wt]
    refine StrLaws.reprText_len x fun c hc => ?_
    simp only [chOk] at h
    have := Array.all_eq_true_iff_forall_mem.mp h c (by simpa using hc)
    simpa using this
  | .list xs, h => by
    simp only [PyData.shown, wt]
    have := shownAll_le xs (by simpa [chOk] using h)
    have := listText_le (PyData.shownAll xs)
    omega
  | .tuple xs, h => by
    simp only [PyData.shown, wt]
    have := shownAll_le xs (by simpa [chOk] using h)
    have := tupleText_le (PyData.shownAll xs)
    omega
  | .dict kvs, h => by
    simp only [PyData.shown, wt]
    have := shownKv_le kvs (by simpa [chOk] using h)
    have := dictText_le (PyData.shownKv kvs)
    omega
theorem shownAll_le : ∀ xs : List PyData, chAll xs = true → piled (PyData.shownAll xs) ≤ wtAll xs
  | [], _ => by simp [PyData.shownAll, wtAll, piled]
  | x :: xs, h => by
    simp only [chAll, Bool.and_eq_true] at h
    simp only [PyData.shownAll, wtAll, piled_cons]
    have := shown_le x h.1
    have := shownAll_le xs h.2
    omega
theorem shownKv_le : ∀ xs : List (PyData × PyData), chKv xs = true → piled (PyData.shownKv xs) ≤ wtKv xs
  | [], _ => by simp [PyData.shownKv, wtKv, piled]
  | (k, v) :: xs, h => by
    simp only [chKv, Bool.and_eq_true] at h
    simp only [PyData.shownKv, wtKv, piled_cons]
    have := shown_le k h.1.1
    have := shown_le v h.1.2
    have := shownKv_le xs h.2
    rw [Str.length_append, Str.length_append]
    have e1 : (Str.ofString ": ").length = 2 := by decide
    have e1' : ((": " : String) : Str).length = 2 := e1
    omega
end
/-- it can be shown -/
def Shows (p : PyData) (n w : Nat) : Prop := p.showable = true ∧ chOk p = true ∧ wt p ≤ w ∧ p.depth ≤ n
theorem repr_some {st : Store} {d : D} {p : PyData} (h : toPy st 60 d = some p) (s : Shows p 60 sizeLine) : fRepr st [d] = some (.str p.shown) := by
  obtain ⟨h1, h2, h3, h4⟩ := s
  unfold fRepr
  simp only [h]
  rw [if_pos ⟨h1, Nat.le_trans (shown_le p h2) h3, h4⟩]
end DL
/-! DL15: the pen's numbers. -/
namespace DL
open PySem PySem.Spec PyProof.Rows L2
structure Pen where
  cells : List Int
  at_ : Int
  digits : Int
  count : Int
  fold : Int
def Pen.kv (p : Pen) : List (Key × D) := [(.inr "cells", .lst (p.cells.map D.int)), (.inr "at", .int p.at_), (.inr "digits", .int p.digits), (.inr "count", .int p.count), (.inr "fold", .int p.fold)]
def Pen.so (p : Pen) : SO := .dk p.kv
structure PenOk (c : Int) (p : Pen) : Prop where
  len : p.cells.length ≤ 1000
  at0 : 0 ≤ p.at_
  dig : 0 ≤ p.digits
  cnt : 0 ≤ p.count
  cntc : p.count ≤ c
  fold0 : 0 ≤ p.fold
  fold1 : p.fold < 2147483077
theorem get_cells (p : Pen) : valD p.kv (.inr "cells") = some (.lst (p.cells.map D.int)) := rfl
theorem get_at (p : Pen) : valD p.kv (.inr "at") = some (.int p.at_) := rfl
theorem get_digits (p : Pen) : valD p.kv (.inr "digits") = some (.int p.digits) := rfl
theorem get_count (p : Pen) : valD p.kv (.inr "count") = some (.int p.count) := rfl
theorem get_fold (p : Pen) : valD p.kv (.inr "fold") = some (.int p.fold) := rfl
theorem put_at (p : Pen) (v : Int) : putD p.kv (.inr "at") (.int v) = ({ p with at_ := v } : Pen).kv := rfl
theorem put_digits (p : Pen) (v : Int) : putD p.kv (.inr "digits") (.int v) = ({ p with digits := v } : Pen).kv := rfl
theorem put_count (p : Pen) (v : Int) : putD p.kv (.inr "count") (.int v) = ({ p with count := v } : Pen).kv := rfl
theorem put_fold (p : Pen) (v : Int) : putD p.kv (.inr "fold") (.int v) = ({ p with fold := v } : Pen).kv := rfl
theorem kv_len (p : Pen) : p.kv.length < sizeLine := by show 5 < sizeLine; decide
/-- d['k'], of the pen -/
theorem get_ok {st : Store} {n : Nat} {p : Pen} {k : Str} {v : D} {δ : DEnv} (i : Nat) (hi : δ[i]? = some (some (.ref n))) (h : st[n]? = some p.so) (e : valD p.kv (.inr k) = some v) : e2 fDget (eVar i) (eC (.str k)) δ st = .ok v st := by
  simp only [e2, eVar, eC, bind_eq, hi, Option.join_some, lift_some, pure_eq, fDget, h, Pen.so, e]
theorem put_ok {st st' : Store} {n : Nat} {p p' : Pen} {k : Str} {v : Int} {δ : DEnv} {m : EM} (i : Nat) (hm : m δ st = .ok (.int v) st') (hi : δ[i]? = some (some (.ref n))) (h : st'[n]? = some p.so) (e : putD p.kv (.inr k) (.int v) = p'.kv) :
    sDput (eVar i) (eC (.str k)) m δ st = .ok (.next, δ) (st'.set n p'.so) := by
  simp only [sDput, eVar, eC, bind_eq, hm, hi, Option.join_some, lift_some, pure_eq, h, Pen.so, if_pos (kv_len p), e]
theorem set_get {st : Store} {n : Nat} {p : Pen} {so : SO} (h : st[n]? = some so) : (st.set n p.so)[n]? = some p.so := List.getElem?_set_self (List.getElem?_eq_some_iff.mp h).1
theorem pen_M : (2305843009213693951 : Int) ≠ 0 := by decide
/-- the number that is blended -/
def blend (p : Pen) (many : Int) : Int := ((((p.fold + p.count * 5237 + 157) ^ 61).fmod 2305843009213693951).fdiv 128).fmod many
/-- the pen behind a draw, and what is drawn -/
def Pen.step (p : Pen) : Pen := 
  let p1 := { p with count := p.count + 1 }
  if p1.digits = 0 ∧ p1.at_ < p1.cells.length then
    let cell := p1.cells.getD p1.at_.toNat 0
    let p2 := { p1 with at_ := p1.at_ + 1 }
    if 10 ^ 18 ≤ cell then { p2 with digits := cell - 10 ^ 18 } else { p2 with fold := (p2.fold * 25301 + cell).fmod 2147483077 }
  else p1
def Pen.drawn (p : Pen) (many : Int) : Int × Pen :=
  let p3 := p.step
  if 0 < p3.digits then (p3.digits.fmod many, { p3 with digits := p3.digits.fdiv many }) else (blend p3 many, p3)
theorem PenOk.step {c : Int} {p : Pen} (h : PenOk c p) : PenOk (c + 1) p.step := by
  obtain ⟨h1, h2, h3, h4, h5, h6, h7⟩ := h
  unfold Pen.step
  dsimp only
  split
  · split
    · exact ⟨h1, by dsimp only; omega, by dsimp only; omega, by dsimp only; omega, by dsimp only; omega, h6, h7⟩
    · exact ⟨h1, by dsimp only; omega, h3, by dsimp only; omega, by dsimp only; omega, Int.fmod_nonneg_of_pos _ (by decide), Int.fmod_lt_of_pos _ (by decide)⟩
  · exact ⟨h1, h2, h3, by dsimp only; omega, by dsimp only; omega, h6, h7⟩
theorem PenOk.drawn {c : Int} {p : Pen} (h : PenOk c p) {many : Int} (hm : 0 < many) : PenOk (c + 1) (p.drawn many).2 ∧ 0 ≤ (p.drawn many).1 ∧ (p.drawn many).1 < many := by
  have h3 := h.step
  unfold Pen.drawn
  dsimp only
  split
  · rename_i hd
    obtain ⟨h1, h2, h3, h4, h5, h6, h7⟩ := h3
    refine ⟨⟨h1, h2, ?_, h4, h5, h6, h7⟩, Int.fmod_nonneg_of_pos _ hm, Int.fmod_lt_of_pos _ hm⟩
    exact Int.fdiv_nonneg (by omega) (by omega)
  · exact ⟨h3, Int.fmod_nonneg_of_pos _ hm, Int.fmod_lt_of_pos _ hm⟩
theorem step_cells (p : Pen) : p.step.cells = p.cells := by
  unfold Pen.step
  dsimp only
  split
  · split <;> rfl
  · rfl
theorem drawn_cells (p : Pen) (many : Int) : (p.drawn many).2.cells = p.cells := by
  unfold Pen.drawn
  dsimp only
  split
  · exact step_cells p
  · exact step_cells p
/-! ### values at ints -/
section
variable {st : Store} {i j : Int}
theorem x_plus : fPlus st (.int i) (.int j) = some (.int (i + j)) := rfl
theorem x_sub : fSub st (.int i) (.int j) = some (.int (i - j)) := rfl
theorem x_mod (h : j ≠ 0) : fMod st (.int i) (.int j) = some (.int (i.fmod j)) := if_pos h
theorem x_fdiv (h : j ≠ 0) (h2 : j.natAbs < 1073741824) : fFdiv st (.int i) (.int j) = some (.int (i.fdiv j)) := if_pos ⟨h, h2⟩
theorem x_pow (h : 0 ≤ j) (h1 : j ≤ 1000000) (h2 : i.natAbs < 2 ^ 64) : fPow st (.int i) (.int j) = some (.int (i ^ j.toNat)) := if_pos ⟨h, h1, h2⟩
theorem x_mul1 (h : -(2 ^ 64) < i) (h2 : i < 2 ^ 64) : fMul st (.int i) (.int j) = some (.int (i * j)) := if_pos (.inl ⟨h, h2⟩)
theorem x_mul2 (h : -(2 ^ 64) < j) (h2 : j < 2 ^ 64) : fMul st (.int i) (.int j) = some (.int (i * j)) := if_pos (.inr ⟨h, h2⟩)
theorem x_eq : fEqD st (.int i) (.int j) = some (.bl (i == j)) := rfl
theorem x_cmp {f : Int → Int → Bool} : fCmp f st (.int i) (.int j) = some (.bl (f i j)) := rfl
theorem x_int : fInt st [.int i] = some (.int i) := rfl
theorem x_len {xs : List D} : fLen st [.lst xs] = some (.int xs.length) := rfl
end
theorem M.ok_bind {α β : Type} {m : M α} {f : α → M β} {st st' : Store} {a : α} (h : m st = .ok a st') : (m >>= f) st = f a st' := by rw [bind_eq, h]
theorem seq_next {a b : SM} {δ δ' : DEnv} {st st' : Store} (h : a δ st = .ok (.next, δ') st') : sSeq a b δ st = b δ' st' := by
  unfold sSeq
  rw [M.ok_bind h]
theorem seq_ret {a b : SM} {δ δ' : DEnv} {st st' : Store} {d : D} (h : a δ st = .ok (.ret d, δ') st') : sSeq a b δ st = .ok (.ret d, δ') st' := by
  unfold sSeq
  rw [M.ok_bind h]
  rfl
theorem if_yes {t : TM} {a b : SM} {δ : DEnv} {st st' : Store} (h : t δ st = .ok true st') : sIf t a b δ st = a δ st' := by
  unfold sIf
  rw [M.ok_bind h]
  rfl
theorem if_not {t : TM} {a b : SM} {δ : DEnv} {st st' : Store} (h : t δ st = .ok false st') : sIf t a b δ st = b δ st' := by
  unfold sIf
  rw [M.ok_bind h]
  rfl
theorem set_run {m : EM} {i : Nat} {δ : DEnv} {st st' : Store} {d : D} (h : m δ st = .ok d st') : sSet i m δ st = .ok (.next, δ.set i (some d)) st' := by
  unfold sSet
  rw [M.ok_bind h]
  rfl
theorem ret_run {m : EM} {δ : DEnv} {st st' : Store} {d : D} (h : m δ st = .ok d st') : sRet m δ st = .ok (.ret d, δ) st' := by
  unfold sRet
  rw [M.ok_bind h]
  rfl
theorem e1_run {f : Store → D → Option D} {a : EM} {δ : DEnv} {st st1 : Store} {x v : D} (ha : a δ st = .ok x st1) (h : f st1 x = some v) : e1 f a δ st = .ok v st1 := by
  unfold e1
  rw [M.ok_bind ha, h]
  rfl
theorem e2_run {f : Store → D → D → Option D} {a b : EM} {δ : DEnv} {st st1 st2 : Store} {x y v : D} (ha : a δ st = .ok x st1) (hb : b δ st1 = .ok y st2) (h : f st2 x y = some v) : e2 f a b δ st = .ok v st2 := by
  unfold e2
  rw [M.ok_bind ha, M.ok_bind hb, h]
  rfl
theorem eN_run {f : Store → List D → Option D} {a : AM} {δ : DEnv} {st st1 : Store} {xs : List D} {v : D} (ha : a δ st = .ok xs st1) (h : f st1 xs = some v) : eN f a δ st = .ok v st1 := by
  unfold eN
  rw [M.ok_bind ha, h]
  rfl
theorem nil_run {δ : DEnv} {st : Store} : aNil δ st = .ok [] st := rfl
theorem cons_run {a : EM} {r : AM} {δ : DEnv} {st st1 st2 : Store} {x : D} {xs : List D} (ha : a δ st = .ok x st1) (hr : r δ st1 = .ok xs st2) : aCons a r δ st = .ok (x :: xs) st2 := by
  unfold aCons
  rw [M.ok_bind ha, M.ok_bind hr]
  rfl
theorem one_run {a : EM} {δ : DEnv} {st st1 : Store} {x : D} (ha : a δ st = .ok x st1) : aCons a aNil δ st = .ok [x] st1 := cons_run ha nil_run
theorem var_run {i : Nat} {δ : DEnv} {st : Store} {d : D} (h : δ[i]? = some (some d)) : eVar i δ st = .ok d st := by
  unfold eVar
  rw [h]
  rfl
theorem c_run {d : D} {δ : DEnv} {st : Store} : eC d δ st = .ok d st := rfl
theorem tOf_run {m : EM} {δ : DEnv} {st st' : Store} {b : Bool} (h : m δ st = .ok (.bl b) st') : tOf m δ st = .ok b st' := by
  unfold tOf
  rw [M.ok_bind h]
  rfl
theorem and_yes {a b : TM} {δ : DEnv} {st st' : Store} (h : a δ st = .ok true st') : tAndM a b δ st = b δ st' := by
  unfold tAndM
  rw [M.ok_bind h]
  rfl
theorem and_not {a b : TM} {δ : DEnv} {st st' : Store} (h : a δ st = .ok false st') : tAndM a b δ st = .ok false st' := by
  unfold tAndM
  rw [M.ok_bind h]
  rfl
theorem or_yes {a b : TM} {δ : DEnv} {st st' : Store} (h : a δ st = .ok true st') : tOrM a b δ st = .ok true st' := by
  unfold tOrM
  rw [M.ok_bind h]
  rfl
theorem or_not {a b : TM} {δ : DEnv} {st st' : Store} (h : a δ st = .ok false st') : tOrM a b δ st = b δ st' := by
  unfold tOrM
  rw [M.ok_bind h]
  rfl
theorem not_run {a : TM} {δ : DEnv} {st st' : Store} {c : Bool} (h : a δ st = .ok c st') : tNotM a δ st = .ok (!c) st' := by
  unfold tNotM
  rw [M.ok_bind h]
  rfl
theorem fn_ret {N : Nat} {body : SM} {ds : List D} {st st' : Store} {d : D} {δ : DEnv} (h : body (startD N ds) st = .ok (.ret d, δ) st') : fn N body ds st = .ok d st' := by
  unfold fn
  rw [M.ok_bind h]
  rfl
theorem fn_next {N : Nat} {body : SM} {ds : List D} {st st' : Store} {δ : DEnv} (h : body (startD N ds) st = .ok (.next, δ) st') : fn N body ds st = .ok .non st' := by
  unfold fn
  rw [M.ok_bind h]
  rfl
theorem call_run {n : Nat} {m : List D → M D} {a : AM} {δ : DEnv} {st st1 st2 : Store} {ds : List D} {d : D} (ha : a δ st = .ok ds st1) (hl : ds.length = n) (h : m ds st1 = .ok d st2) : eCall n m a δ st = .ok d st2 := by
  unfold eCall
  rw [M.ok_bind ha, if_pos hl, h]
theorem ifE_yes {t : TM} {a b : EM} {δ : DEnv} {st st' : Store} (h : t δ st = .ok true st') : eIf t a b δ st = a δ st' := by
  unfold eIf
  rw [M.ok_bind h]
  rfl
theorem ifE_not {t : TM} {a b : EM} {δ : DEnv} {st st' : Store} (h : t δ st = .ok false st') : eIf t a b δ st = b δ st' := by
  unfold eIf
  rw [M.ok_bind h]
  rfl
theorem item_run {st : Store} {xs : List D} {d : D} {i : Int} {x : D} (hs : seqOf st d = some xs) (h0 : 0 ≤ i) (h : xs[i.toNat]? = some x) : fItem st d (.int i) = some x := by
  unfold fItem
  simp only [hs, Option.bind_some]
  have hl := (List.getElem?_eq_some_iff.mp h).1
  unfold L2.atI ixN
  rw [if_pos h0, if_pos (by omega)]
  exact h
theorem blend_lt {p : Pen} {c : Int} (ok : PenOk c p) (hc : c ≤ 10 ^ 12 + 1) : (p.fold + p.count * 5237 + 157).natAbs < 2 ^ 64 := by
  obtain ⟨_, _, _, h1, h2, h3, h4⟩ := ok
  omega
theorem step_run {st : Store} {n : Nat} {p : Pen} {c many : Int} (h : st[n]? = some p.so) (ok : PenOk c p) :
    ∃ δ : DEnv, δ.length = 5 ∧ δ[0]? = some (some (.ref n)) ∧ δ[1]? = some (some (.int many)) ∧ ∀ rest : SM, 
    (sSeq (sDput (eVar 0) (eC (.str "count")) (e2 fPlus (e2 fDget (eVar 0) (eC (.str "count"))) (eC (.int 1))))
 (sSeq (sIf (tAndM (tOf (e2 fEqD (e2 fDget (eVar 0) (eC (.str "digits"))) (eC (.int 0)))) (tOf (e2 (fCmp fun i j => decide (i < j)) (e2 fDget (eVar 0) (eC (.str "at"))) (eN fLen (aCons (e2 fDget (eVar 0) (eC (.str "cells"))) aNil)))))
 (sSeq (sSet 2 (e2 fItem (e2 fDget (eVar 0) (eC (.str "cells"))) (e2 fDget (eVar 0) (eC (.str "at")))))
 (sSeq (sDput (eVar 0) (eC (.str "at")) (e2 fPlus (e2 fDget (eVar 0) (eC (.str "at"))) (eC (.int 1))))
 (sIf (tOf (e2 (fCmp fun i j => decide (j ≤ i)) (eVar 2) (e2 fPow (eC (.int 10)) (eC (.int 18)))))
 (sDput (eVar 0) (eC (.str "digits")) (e2 fSub (eVar 2) (e2 fPow (eC (.int 10)) (eC (.int 18)))))
 (sDput (eVar 0) (eC (.str "fold")) (e2 fMod (eN fInt (aCons (e2 fPlus (e2 fMul (e2 fDget (eVar 0) (eC (.str "fold"))) (eC (.int 25301))) (eVar 2)) aNil)) (eC (.int 2147483077)))))))
 sNil) rest)) (startD 5 [.ref n, .int many]) st = rest δ (st.set n p.step.so) := by
  have hn := (List.getElem?_eq_some_iff.mp h).1
  have G : ∀ so, (st.set n so)[n]? = some so := fun so => List.getElem?_set_self hn
  have e0 : startD 5 [.ref n, .int many] = [some (.ref n), some (.int many), none, none, none] := rfl
  rw [e0]
  -- count
  have s1 : sDput (eVar 0) (eC (.str "count")) (e2 fPlus (e2 fDget (eVar 0) (eC (.str "count"))) (eC (.int 1))) [some (.ref n), some (.int many), none, none, none] st = .ok (.next, [some (.ref n), some (.int many), none, none, none]) (st.set n ({ p with count := p.count + 1 } : Pen).so) :=
    put_ok 0 (e2_run (get_ok 0 rfl h (get_count p)) c_run x_plus) rfl h (put_count p _)
  have h1 := G ({ p with count := p.count + 1 } : Pen).so
  generalize hp1 : ({ p with count := p.count + 1 } : Pen) = p1 at s1 h1
  have c1 : p1.cells = p.cells := by rw [← hp1]
  have t1 : ∀ b : Bool, b = (p1.digits == 0) → tOf (e2 fEqD (e2 fDget (eVar 0) (eC (.str "digits"))) (eC (.int 0))) [some (.ref n), some (.int many), none, none, none] (st.set n p1.so) = .ok b (st.set n p1.so) := fun b hb => by
    rw [hb]
    exact tOf_run (e2_run (get_ok 0 rfl h1 (get_digits p1)) c_run x_eq)
  have t2 : ∀ b : Bool, b = decide (p1.at_ < ((p1.cells.map D.int).length : Int)) → tOf (e2 (fCmp fun i j => decide (i < j)) (e2 fDget (eVar 0) (eC (.str "at"))) (eN fLen (aCons (e2 fDget (eVar 0) (eC (.str "cells"))) aNil))) [some (.ref n), some (.int many), none, none, none] (st.set n p1.so) = .ok b (st.set n p1.so) := fun b hb => by
    rw [hb]
    exact tOf_run (e2_run (get_ok 0 rfl h1 (get_at p1)) (eN_run (one_run (get_ok 0 rfl h1 (get_cells p1))) x_len) x_cmp)
  have hstep : p.step = (if p1.digits = 0 ∧ p1.at_ < p1.cells.length then
    (if 10 ^ 18 ≤ p1.cells.getD p1.at_.toNat 0 then ({ p1 with at_ := p1.at_ + 1, digits := p1.cells.getD p1.at_.toNat 0 - 10 ^ 18 } : Pen) else { p1 with at_ := p1.at_ + 1, fold := (p1.fold * 25301 + p1.cells.getD p1.at_.toNat 0).fmod 2147483077 }) else p1) := by
    unfold Pen.step
    rw [hp1]
  by_cases hd : p1.digits = 0 ∧ p1.at_ < p1.cells.length
  · have hat : 0 ≤ p1.at_ := by rw [← hp1]; exact ok.at0
    have hlt : p1.at_.toNat < p1.cells.length := by omega
    obtain ⟨cell, hcell⟩ : ∃ cell, p1.cells.getD p1.at_.toNat 0 = cell := ⟨_, rfl⟩
    have hget : (p1.cells.map D.int)[p1.at_.toNat]? = some (.int cell) := by
      rw [List.getElem?_map, List.getElem?_eq_getElem hlt, ← hcell]
      simp [List.getD_eq_getElem?_getD, List.getElem?_eq_getElem hlt]
    rw [if_pos hd, hcell] at hstep
    refine ⟨[some (.ref n), some (.int many), some (.int cell), none, none], rfl, rfl, rfl, fun rest => ?_⟩
    rw [seq_next s1]
    have s2 : sSet 2 (e2 fItem (e2 fDget (eVar 0) (eC (.str "cells"))) (e2 fDget (eVar 0) (eC (.str "at")))) [some (.ref n), some (.int many), none, none, none] (st.set n p1.so) = .ok (.next, [some (.ref n), some (.int many), some (.int cell), none, none]) (st.set n p1.so) :=
      set_run (e2_run (get_ok 0 rfl h1 (get_cells p1)) (get_ok 0 rfl h1 (get_at p1)) (item_run rfl hat hget))
    have s3 : sDput (eVar 0) (eC (.str "at")) (e2 fPlus (e2 fDget (eVar 0) (eC (.str "at"))) (eC (.int 1))) [some (.ref n), some (.int many), some (.int cell), none, none] (st.set n p1.so) = .ok (.next, [some (.ref n), some (.int many), some (.int cell), none, none]) ((st.set n p1.so).set n ({ p1 with at_ := p1.at_ + 1 } : Pen).so) :=
      put_ok 0 (e2_run (get_ok 0 rfl h1 (get_at p1)) c_run x_plus) rfl h1 (put_at p1 _)
    rw [List.set_set] at s3
    have h2 := G ({ p1 with at_ := p1.at_ + 1 } : Pen).so
    generalize hp2 : ({ p1 with at_ := p1.at_ + 1 } : Pen) = p2 at s3 h2
    have t3 : tOf (e2 (fCmp fun i j => decide (j ≤ i)) (eVar 2) (e2 fPow (eC (.int 10)) (eC (.int 18)))) [some (.ref n), some (.int many), some (.int cell), none, none] (st.set n p2.so) = .ok (decide ((10 : Int) ^ (18 : Int).toNat ≤ cell)) (st.set n p2.so) :=
      tOf_run (e2_run (var_run rfl) (e2_run c_run c_run (x_pow (by decide) (by decide) (by decide))) x_cmp)
    have inner : sIf (tAndM (tOf (e2 fEqD (e2 fDget (eVar 0) (eC (.str "digits"))) (eC (.int 0)))) (tOf (e2 (fCmp fun i j => decide (i < j)) (e2 fDget (eVar 0) (eC (.str "at"))) (eN fLen (aCons (e2 fDget (eVar 0) (eC (.str "cells"))) aNil)))))  (sSeq (sSet 2 (e2 fItem (e2 fDget (eVar 0) (eC (.str "cells"))) (e2 fDget (eVar 0) (eC (.str "at")))))  (sSeq (sDput (eVar 0) (eC (.str "at")) (e2 fPlus (e2 fDget (eVar 0) (eC (.str "at"))) (eC (.int 1))))  (sIf (tOf (e2 (fCmp fun i j => decide (j ≤ i)) (eVar 2) (e2 fPow (eC (.int 10)) (eC (.int 18)))))  (sDput (eVar 0) (eC (.str "digits")) (e2 fSub (eVar 2) (e2 fPow (eC (.int 10)) (eC (.int 18)))))  (sDput (eVar 0) (eC (.str "fold")) (e2 fMod (eN fInt (aCons (e2 fPlus (e2 fMul (e2 fDget (eVar 0) (eC (.str "fold"))) (eC (.int 25301))) (eVar 2)) aNil)) (eC (.int 2147483077)))))))  sNil [some (.ref n), some (.int many), none, none, none] (st.set n p1.so) = .ok (.next, [some (.ref n), some (.int many), some (.int cell), none, none]) (st.set n p.step.so) := by
      rw [if_yes ((and_yes (t1 true (by simp [hd.1]))).trans (t2 true (by simp [hd.2])))]
      rw [seq_next s2, seq_next s3]
      by_cases hc : (10 : Int) ^ 18 ≤ cell
      · rw [if_yes (by rw [t3]; congr 1; simpa using hc)]
        rw [if_pos hc] at hstep
        have := put_ok (m := e2 fSub (eVar 2) (e2 fPow (eC (.int 10)) (eC (.int 18)))) (k := "digits") (p' := p.step) (δ := [some (.ref n), some (.int many), some (.int cell), none, none]) 0 (e2_run (var_run rfl) (e2_run c_run c_run (x_pow (by decide) (by decide) (by decide))) x_sub) rfl h2 (by rw [put_digits, hstep, ← hp2]; rfl)
        rw [List.set_set] at this
        exact this
      · rw [if_not (by rw [t3]; congr 1; simpa using hc)]
        rw [if_neg hc] at hstep
        have := put_ok (m := e2 fMod (eN fInt (aCons (e2 fPlus (e2 fMul (e2 fDget (eVar 0) (eC (.str "fold"))) (eC (.int 25301))) (eVar 2)) aNil)) (eC (.int 2147483077))) (k := "fold") (p' := p.step) (δ := [some (.ref n), some (.int many), some (.int cell), none, none]) 0
          (e2_run (eN_run (one_run (e2_run (e2_run (get_ok 0 rfl h2 (get_fold p2)) c_run (x_mul2 (by decide) (by decide))) (var_run rfl) x_plus)) x_int) c_run (x_mod (by decide))) rfl h2 (by rw [put_fold, hstep, ← hp2])
        rw [List.set_set] at this
        exact this
    rw [seq_next inner]
  · rw [if_neg hd] at hstep
    refine ⟨[some (.ref n), some (.int many), none, none, none], rfl, rfl, rfl, fun rest => ?_⟩
    rw [seq_next s1, hstep]
    by_cases h3 : p1.digits = 0
    · have h4 : ¬ p1.at_ < p1.cells.length := fun z => hd ⟨h3, z⟩
      rw [seq_next (δ' := [some (.ref n), some (.int many), none, none, none]) (st' := st.set n p1.so)]
      rw [if_not ((and_yes (t1 true (by simp [h3]))).trans (t2 false (by simpa using h4)))]
      rfl
    · rw [seq_next (δ' := [some (.ref n), some (.int many), none, none, none]) (st' := st.set n p1.so)]
      rw [if_not (and_not (t1 false (by simpa using h3)))]
      rfl
theorem draw_run {st : Store} {n : Nat} {p : Pen} {c many : Int} (h : st[n]? = some p.so) (ok : PenOk c p) (hc : c ≤ 10 ^ 12) (hm : 0 < many) (hm2 : many < 1073741824) :
    m__law_draw [.ref n, .int many] st = .ok (.int (p.drawn many).1) (st.set n (p.drawn many).2.so) := by
  have hn := (List.getElem?_eq_some_iff.mp h).1
  have G : ∀ so, (st.set n so)[n]? = some so := fun so => List.getElem?_set_self hn
  obtain ⟨δ, hl, d0, d1, run⟩ := step_run (many := many) h ok
  have ok3 := ok.step
  unfold m__law_draw
  obtain ⟨p3, hp3⟩ : ∃ p3, p.step = p3 := ⟨_, rfl⟩
  have hdr : p.drawn many = (if 0 < p3.digits then (p3.digits.fmod many, { p3 with digits := p3.digits.fdiv many }) else (blend p3 many, p3)) := by
    unfold Pen.drawn
    rw [hp3]
  rw [hp3] at run ok3
  have h3 := G p3.so
  have t : tOf (e2 (fCmp fun i j => decide (j < i)) (e2 fDget (eVar 0) (eC (.str "digits"))) (eC (.int 0))) δ (st.set n p3.so) = .ok (decide ((0 : Int) < p3.digits)) (st.set n p3.so) :=
    tOf_run (e2_run (get_ok 0 d0 h3 (get_digits p3)) c_run x_cmp)
  have mz : many ≠ 0 := by omega
  by_cases hd : 0 < p3.digits
  · rw [if_pos hd] at hdr
    rw [hdr]
    have a3 : (δ.set 3 (some (.int (p3.digits.fmod many))))[0]? = some (some (.ref n)) := by rw [List.getElem?_set_ne (by decide)]; exact d0
    have a4 : (δ.set 3 (some (.int (p3.digits.fmod many))))[1]? = some (some (.int many)) := by rw [List.getElem?_set_ne (by decide)]; exact d1
    have a5 : (δ.set 3 (some (.int (p3.digits.fmod many))))[3]? = some (some (.int (p3.digits.fmod many))) := List.getElem?_set_self (by omega)
    have s2 := put_ok (m := e2 fFdiv (e2 fDget (eVar 0) (eC (.str "digits"))) (eVar 1)) (k := "digits") (δ := δ.set 3 (some (.int (p3.digits.fmod many)))) 0 (e2_run (get_ok 0 a3 h3 (get_digits p3)) (var_run a4) (x_fdiv mz (by omega))) a3 h3 (put_digits p3 _)
    rw [List.set_set] at s2
    refine fn_ret (δ := δ.set 3 (some (.int (p3.digits.fmod many)))) ?_
    refine (run _).trans (seq_ret ?_)
    rw [if_yes (by rw [t, decide_eq_true hd])]
    rw [seq_next (set_run (e2_run (eN_run (one_run (get_ok 0 d0 h3 (get_digits p3))) x_int) (var_run d1) (x_mod mz)))]
    rw [seq_next s2]
    exact ret_run (var_run a5)
  · rw [if_neg hd] at hdr
    rw [hdr]
    have bl := blend_lt ok3 (by omega)
    obtain ⟨b, hb⟩ : ∃ b, p3.fold + p3.count * 5237 + 157 = b := ⟨_, rfl⟩
    rw [hb] at bl
    have a1 : (δ.set 4 (some (.int b)))[1]? = some (some (.int many)) := by rw [List.getElem?_set_ne (by decide)]; exact d1
    have a4 : (δ.set 4 (some (.int b)))[4]? = some (some (.int b)) := List.getElem?_set_self (by omega)
    refine fn_ret (δ := δ.set 4 (some (.int b))) ?_
    refine (run _).trans ?_
    rw [seq_next (δ' := δ) (st' := st.set n p3.so) (by rw [if_not (by rw [t, decide_eq_false hd])]; rfl)]
    have s4 : sSet 4 (e2 fPlus (e2 fPlus (e2 fDget (eVar 0) (eC (.str "fold"))) (e2 fMul (e2 fDget (eVar 0) (eC (.str "count"))) (eC (.int 5237)))) (eC (.int 157))) δ (st.set n p3.so) = .ok (.next, δ.set 4 (some (.int b))) (st.set n p3.so) := by
      rw [← hb]
      exact set_run (e2_run (e2_run (get_ok 0 d0 h3 (get_fold p3)) (e2_run (get_ok 0 d0 h3 (get_count p3)) c_run (x_mul2 (by decide) (by decide))) x_plus) c_run x_plus)
    rw [seq_next s4]
    have e : blend p3 many = (((b ^ 61).fmod 2305843009213693951).fdiv 128).fmod many := by unfold blend; rw [hb]
    rw [e]
    exact ret_run (e2_run (e2_run (eN_run (one_run (e2_run (e2_run (var_run a4) c_run (x_pow (by decide) (by decide) bl)) c_run (x_mod (by decide)))) x_int) c_run (x_fdiv (by decide) (by decide))) (var_run a1) (x_mod mz))
theorem len_run {st : Store} {d : D} {xs : List D} (h : seqOf st d = some xs) : fLen st [d] = some (.int xs.length) := by
  unfold fLen
  cases d with
  | ref n =>
    simp only [seqOf] at h
    split at h
    · rename_i q
      cases h
      simp [q]
    · cases h
  | lst ds => cases h; rfl
  | tup ds => cases h; rfl
  | _ => cases h
/-- some[draw] -/
theorem pick_run {st : Store} {n : Nat} {p : Pen} {c : Int} {d : D} {xs : List D} (h : st[n]? = some p.so) (ok : PenOk c p) (hc : c ≤ 10 ^ 12) (hs : seqOf st d = some xs) (hs2 : ∀ so, seqOf (st.set n so) d = some xs) (h0 : xs ≠ []) (h1 : xs.length ≤ 1000000) :
    ∃ (x : D) (p' : Pen), x ∈ xs ∧ PenOk (c + 1) p' ∧ m__law_pick [.ref n, d] st = .ok x (st.set n p'.so) := by
  have hl : 0 < xs.length := List.length_pos_iff.mpr h0
  have hm : (0 : Int) < (xs.length : Int) := by omega
  obtain ⟨ok', k0, k1⟩ := ok.drawn hm
  have hk : (p.drawn xs.length).1.toNat < xs.length := by omega
  refine ⟨xs[(p.drawn xs.length).1.toNat], (p.drawn xs.length).2, List.getElem_mem _, ok', ?_⟩
  unfold m__law_pick
  refine fn_ret (δ := [some (.ref n), some d]) (ret_run (e2_run (var_run rfl) (call_run (cons_run (var_run rfl) (one_run (eN_run (one_run (var_run rfl)) (len_run hs)))) rfl (draw_run h ok hc hm (by omega))) (item_run (hs2 _) k0 ?_)))
  exact List.getElem?_eq_getElem hk
/-- the pen, new -/
def foldOf (ns : List Int) : Int → Int := fun f => ns.foldl (fun f c => (f * 167 + c).fmod 999999323) f
theorem foldOf_ok : ∀ (ns : List Int) (f : Int), 0 ≤ f → f < 999999323 → 0 ≤ foldOf ns f ∧ foldOf ns f < 999999323
  | [], f, h0, h1 => ⟨h0, h1⟩
  | n :: ns, f, _, _ => foldOf_ok ns _ (Int.fmod_nonneg_of_pos _ (by decide)) (Int.fmod_lt_of_pos _ (by decide))
theorem pen_run {st : Store} {ns : List Int} (h : ns.length ≤ 1000) : ∃ p : Pen, PenOk 0 p ∧ p.cells = ns ∧ m__law_pen [.scr ns] st = .ok (.ref st.length) (st ++ [p.so]) := by
  obtain ⟨f0, f1⟩ := foldOf_ok ns 0 (by decide) (by decide)
  refine ⟨⟨ns, 0, 0, 0, foldOf ns 0⟩, ⟨h, Int.le_refl _, Int.le_refl _, Int.le_refl _, Int.le_refl _, f0, by dsimp only; omega⟩, rfl, ?_⟩
  unfold m__law_pen
  have loop : ∀ (ms : List Int) (f : Int) (o : Option D), 0 ≤ f → f < 999999323 → ∃ o', forL none (ns.map D.int) (gSet 2) (sSet 1 (e2 fMod (eN fInt (aCons (e2 fPlus (e2 fMul (eVar 1) (eC (.int 167))) (eVar 2)) aNil)) (eC (.int 999999323)))) (ms.map D.int) [some (.scr ns), some (.int f), o] st = .ok (.next, [some (.scr ns), some (.int (foldOf ms f)), o']) st := by
    intro ms
    induction ms with
    | nil => exact fun f o _ _ => ⟨o, rfl⟩
    | cons m ms ih =>
      intro f o g0 g1
      obtain ⟨o', ih'⟩ := ih ((f * 167 + m).fmod 999999323) (some (.int m)) (Int.fmod_nonneg_of_pos _ (by decide)) (Int.fmod_lt_of_pos _ (by decide))
      refine ⟨o', ?_⟩
      rw [List.map_cons]
      unfold forL
      rw [chk_none]
      show ((sSet 1 _ [some (.scr ns), some (.int f), some (.int m)]) >>= _) st = _
      rw [M.ok_bind (set_run (e2_run (eN_run (one_run (e2_run (e2_run (var_run rfl) c_run (x_mul2 (by decide) (by decide))) (var_run rfl) x_plus)) x_int) c_run (x_mod (by decide))))]
      exact ih'
  obtain ⟨o', hl⟩ := loop ns 0 none (by decide) (by decide)
  refine fn_ret (δ := [some (.scr ns), some (.int (foldOf ns 0)), o']) ?_
  rw [seq_next (set_run c_run)]
  have hit : itScr (eVar 0) [some (.scr ns), some (.int 0), none] st = .ok (ns.map D.int, none) st := rfl
  have hfor : sFor (itScr (eVar 0)) (gSet 2) (sSet 1 (e2 fMod (eN fInt (aCons (e2 fPlus (e2 fMul (eVar 1) (eC (.int 167))) (eVar 2)) aNil)) (eC (.int 999999323)))) [some (.scr ns), some (.int 0), none] st = .ok (.next, [some (.scr ns), some (.int (foldOf ns 0)), o']) st := by
    unfold sFor
    rw [M.ok_bind hit]
    exact hl
  show sSeq _ _ [some (.scr ns), some (.int 0), none] st = _
  rw [seq_next hfor]
  rfl
end DL
/-! DL16: errors raised. -/
namespace DL
open PySem PySem.Spec PyProof.Rows L2

/-- what the top has written of the class B above an error's class, whose __init__ is ValueError's -/
structure ExB (K : PySem.W.Frag) (B : Addr) : Prop where
  ga : PySem.W.specialIn K (.ref B) "__getattribute__" = some (some (.builtin "type.__getattribute__"))
  rd : PySem.W.readsIn K B (.type "type") = true
  ini : PySem.W.findCls K (.ref B) (.type "type") "__init__" = some (.val (.builtin "ValueError.__init__"))
section
variable {X : Cx} {x : Str} {B : Addr} {e : Expr} {es : List Expr} {ta : TA} {p1 p2 pos : Pos}
theorem pe_binit {pl : Sem Bool} (hg : Gl X x) (gm : X.mg x = some (.ref B)) (T : ExB X.K B) (ha : PA X (e :: es) ta)
    (hc : eval (.Call (.Attribute (.Name x p1) "__init__" p2) (e :: es) [] pos) X.env = (do
      let ov ← eval (.Name x p1) X.env
      standAt p2.atName
      let (f, first) ← holding [ov] (getMethod ov "__init__" pl)
      callWith pos f first (backTo pos (starEach (e :: es) X.env)) (backToKw pos (keywordEach [] X.env))) := by rfl)
    (hdb : (x == ("__debug__" : Str)) = false := by decide)
    (he : starEach (e :: es) X.env = (false, eval e X.env) :: starEach es X.env := by rfl) (hpl : (backTo pos (starEach es X.env)).any (·.1) = false := by rfl) :
    PE X (.Call (.Attribute (.Name x p1) "__init__" p2) (e :: es) [] pos) (tVeI X.K ta) := by
  refine ⟨fun pins s σ H Q I h => ?_⟩
  refine PySem.W.methodCall_KW (ld_glob I hg gm ?_ hdb) hc
  refine PySem.W.method_cls I.kIn T.ga (PySem.W.cls_value I.kIn T.rd T.ini (by decide +kernel) ?_)
  show wpAny _ _ (callWith pos (Value.builtin "ValueError.__init__") [] (backTo pos (starEach (e :: es) X.env)) []) _ _ _
  refine PyProof.Rows.callWith_method1 (thn (ha.run pos pins _ σ H _ (I.tok _) h) fun us s1 ⟨vs, H1, I1, r1, a, C, ws, ev, hl, T, ea, q⟩ => ?_) he hpl
  subst ev
  cases r1 with
  | @cons _ u0 _ ur ra rw' =>
    obtain rfl : u0 = Value.ref a := ra
    have hlen : ur.length ≤ sizeLine := by
      rw [← Paired.length rw', sizeLine_eq]
      omega
    exact oinit_ok T I1 ea hlen fun s' J => ⟨.non, H1, J, rfl, q⟩
end

/-- __init__ of an error: its fields, in the order in which they are set -/
def spExi (C : Addr) (n : Nat) (fs : List Str) : Sp := fun vs H Q _ => ∃ a ws, vs = .ref a :: ws ∧ ws.length = n ∧ H a = some (exo a C none) ∧
  ∀ d H', H d = none → d ≠ a → H' a = some (exo a C (some d)) → H' d = some (exd d (fs.zip ws.reverse)) → (∀ b, b ≠ a → b ≠ d → H' b = H b) → Q .non H'
/-- an error's class: its __init__ at fI keeps that -/
structure ExC (P : Program) (w : World) (K : PySem.W.Frag) (mg : Str → Option Value) (base : Heap) (k : Nat) (c : Str) (C fI : Addr) (fd : FuncData) (ps : List Str) (n : Nat) (fs : List Str) : Prop where
  mg_ : mg c = some (.ref C)
  ox : OexC K C
  ini : PySem.W.findIn K (.ref C) "__init__" = some (some (.ref fI))
  tI : PySem.W.typeIn K (.ref fI) = some (.type "function")
  fn : FnOk P w K mg base (L2.CX P w) k fI fd ps (spExi C n fs)
  bd : Binds K fd ps []
def sRaise (c : Str) (n : Nat) (a : AM) : SM := fun δ => a δ >>= fun ds st => if ds.length = n then .exc c ds.reverse st else .stuck
theorem RAll.reverse {T : Tab} {ρ : Rho} {st : Store} {H : Hp} : ∀ {ds : List D} {vs : List V}, RAll T ρ st H ds vs → RAll T ρ st H ds.reverse vs.reverse
  | [], vs, h => by
    simp only [RAll] at h
    rw [h]
    exact RAll.nil
  | d :: ds, vs, h => by
    simp only [RAll] at h
    obtain ⟨x, xs, rfl, rx, rxs⟩ := h
    rw [List.reverse_cons, List.reverse_cons]
    exact RAll.append (RAll.reverse rxs) (.cons rx .nil)
section
variable {X : Cx} {fl : Fls} {E : XK} {k n : Nat} {c : Str} {C fI : Addr} {fd : FuncData} {ps fs : List Str} {e : Expr} {es : List Expr} {mA : AM} {p pos pos2 : Pos}
theorem ds_raise (hc : X.calm = true) (tk : Takes X (wx E)) (T : ExC X.prog X.w X.K X.mg X.base k c C fI fd ps n (fl c)) (hr : RoomG (k + 1) X.A) (hg : Gl X c) (ha : DA X fl (wx E) (e :: es) mA) (hn : n ≤ 1000)
    (hdb : (c == ("__debug__" : Str)) = false := by decide) (he : starEach (e :: es) X.env = (false, eval e X.env) :: starEach es X.env := by rfl) (hpl : (backTo pos (starEach es X.env)).any (·.1) = false := by rfl) :
    DS X fl E (.Raise (some (.Call (.Name c p) (e :: es) [] pos)) none pos2) (sRaise c n mA) := by
  have hx : Passes (L2.CX X.prog X.w) X (fun _ _ _ => False) := fun _ _ _ _ _ _ _ h => by
    obtain ⟨_, _, _, _, _, _, _, _, _, _, _, _, z⟩ := h
    exact z.elim
  refine ps_imp (ps_raise hc tk (pmk_oex (ds := []) (dvs := []) T.ox T.ini T.tI T.fn hr.rm T.bd .nil hx hg T.mg_ ha hdb he hpl)) fun D σ H ⟨ρ, δ, st, m, en, h⟩ => ?_
  refine ⟨ρ, δ, st, m, en, (Post.bind h).monoE fun ds ρ1 st1 H1 e1 m1 h1 xs rxs => ?_⟩
  by_cases hl : ds.length = n
  case neg =>
    rw [if_neg hl] at h1
    exact False.elim h1
  rw [if_pos hl] at h1
  have hlx : xs.length = n := by rw [← rxs.length, hl]
  refine ⟨by omega, fun a ha0 => ?_⟩
  rw [List.append_nil]
  refine ⟨a, xs, rfl, hlx, upd_same, fun d H' hd hda h2 h3 h4 => ⟨rfl, d, _, h2, h3, ?_, ?_⟩⟩
  · rw [upd_ne hda] at hd
    exact hd
  · have hd1 : H1 d = none := by rw [upd_ne hda] at hd; exact hd
    have eH : upd (del H' a) d (.xd ((fl c).zip xs.reverse)) = upd H1 d (.xd ((fl c).zip xs.reverse)) := by
      funext b
      by_cases hb : b = d
      · rw [hb, upd_same, upd_same]
      · rw [upd_ne hb, upd_ne hb]
        by_cases hba : b = a
        · rw [hba, del_same, ha0]
        · rw [del_ne hba, h4 b hba hb, upd_ne hba]
    rw [eH]
    have e2 := Ext.new (ρ := ρ1) (st := st1) (o := .xd ((fl c).zip xs.reverse)) m1 hd1
    exact h1 ρ1 _ C d xs.reverse e2 (m1.new hd1) T.mg_ upd_same (m1.notLive hd1) (RAll.reverse (rxs.ext e2 _ _))
end

/-! ### the three shapes of __init__ -/
theorem exi_len {C : Addr} {n : Nat} {fs : List Str} {m : Nat} (hm : m = n + 1) (vs : List V) (H : Hp) (Q : VK) (E : XK) (h : spExi C n fs vs H Q E) : vs.length = m := by
  obtain ⟨a, ws, rfl, hl, _⟩ := h
  simp [hl, hm]
section
variable {K : PySem.W.Frag} {C : Addr} {vs : List V} {H : Hp} {Q : VK} {E : XK} {t f1 f2 f3 : Str} {N : List Str}
abbrev tBI (K : PySem.W.Frag) (t : Str) : TS := tDrop (tVeI K (tCons (tVar 0) (tCons (tC (.str t)) tNil)))
theorem exi_read1 (T : OexC K C) (n1 : PySem.W.findIn K (.ref C) f1 = some none) (h : spExi C 1 [f1] vs H Q E) (hN : N.length = 2) :
    tSeq (tBI K t) (tOst K f1 (tVar 0) (tVar 1)) { nx := fun _ H' => Q .non H', rt := Q } (L2.start N vs) H := by
  obtain ⟨a, ws, rfl, hl, he, q⟩ := h
  match ws, hl, N, hN with
  | [v1], _, [x0, x1], _ =>
    refine ⟨.ref a, rfl, a, C, [_], rfl, by simp, T, he, ?_⟩
    refine ⟨v1, rfl, .ref a, rfl, a, C, rfl, T, n1, .inl ⟨he, fun d hd hda => ?_⟩⟩
    exact q d _ hd hda upd_same (by rw [upd_ne hda, upd_same]; rfl) fun b hb1 hb2 => by rw [upd_ne hb1, upd_ne hb2]
theorem exi_read2 (T : OexC K C) (n1 : PySem.W.findIn K (.ref C) f1 = some none) (n2 : PySem.W.findIn K (.ref C) f2 = some none) (h : spExi C 2 [f2, f1] vs H Q E) (hN : N.length = 3) :
    tSeq (tBI K t) (tSeq (tOst K f1 (tVar 0) (tVar 1)) (tOst K f2 (tVar 0) (tVar 2))) { nx := fun _ H' => Q .non H', rt := Q } (L2.start N vs) H := by
  obtain ⟨a, ws, rfl, hl, he, q⟩ := h
  match ws, hl, N, hN with
  | [v1, v2], _, [x0, x1, x2], _ =>
    refine ⟨.ref a, rfl, a, C, [_], rfl, by simp, T, he, ?_⟩
    refine ⟨v1, rfl, .ref a, rfl, a, C, rfl, T, n1, .inl ⟨he, fun d hd hda => ?_⟩⟩
    refine ⟨v2, rfl, .ref a, rfl, a, C, rfl, T, n2, .inr ⟨d, [(f1, v1)], upd_same, by rw [upd_ne hda, upd_same], by simp, ?_⟩⟩
    exact q d _ hd hda (by rw [upd_ne (Ne.symm hda), upd_same]) upd_same fun b hb1 hb2 => by rw [upd_ne hb2, upd_ne hb1, upd_ne hb2]
theorem exi_read3 (T : OexC K C) (n1 : PySem.W.findIn K (.ref C) f1 = some none) (n2 : PySem.W.findIn K (.ref C) f2 = some none) (n3 : PySem.W.findIn K (.ref C) f3 = some none) (h : spExi C 3 [f3, f2, f1] vs H Q E) (hN : N.length = 4) :
    tSeq (tBI K t) (tSeq (tOst K f1 (tVar 0) (tVar 1)) (tSeq (tOst K f2 (tVar 0) (tVar 2)) (tOst K f3 (tVar 0) (tVar 3)))) { nx := fun _ H' => Q .non H', rt := Q } (L2.start N vs) H := by
  obtain ⟨a, ws, rfl, hl, he, q⟩ := h
  match ws, hl, N, hN with
  | [v1, v2, v3], _, [x0, x1, x2, x3], _ =>
    refine ⟨.ref a, rfl, a, C, [_], rfl, by simp, T, he, ?_⟩
    refine ⟨v1, rfl, .ref a, rfl, a, C, rfl, T, n1, .inl ⟨he, fun d hd hda => ?_⟩⟩
    refine ⟨v2, rfl, .ref a, rfl, a, C, rfl, T, n2, .inr ⟨d, [(f1, v1)], upd_same, by rw [upd_ne hda, upd_same], by simp, ?_⟩⟩
    refine ⟨v3, rfl, .ref a, rfl, a, C, rfl, T, n3, .inr ⟨d, [(f2, v2), (f1, v1)], by rw [upd_ne (Ne.symm hda), upd_same], upd_same, by simp, ?_⟩⟩
    exact q d _ hd hda (by rw [upd_ne (Ne.symm hda), upd_ne (Ne.symm hda), upd_same]) upd_same fun b hb1 hb2 => by rw [upd_ne hb2, upd_ne hb2, upd_ne hb1, upd_ne hb2]
end

/-! ### try .. except X as e: .. except Y as e: .. -/
/-- a clause: the class that it names, its reading (the exception at a, its class, its dict) -/
abbrev Cl := Value × (Addr → Value → Option Addr → TS)
/-- how a suite ends, the name gone -/
def goneE (D : Ends) (i : Nat) : Ends := { nx := fun σ H => D.nx (σ.set i none) H, rt := D.rt, bk := fun σ H => D.bk (σ.set i none) H, ct := fun σ H => D.ct (σ.set i none) H }
/-- what the clauses want of an exception -/
def wCls (K : PySem.W.Frag) (i : Nat) (Wout : WX) (D : Ends) : List Cl → WX
  | [] => Wout
  | (c, ts) :: r => fun cls d σ H => ∃ b, PySem.W.exmOne K cls c = some b ∧ (b = true → ∀ a, H a = none → ts a cls d (goneE D i) (σ.set i (some (.ref a))) H) ∧ (b = false → wCls K i Wout D r cls d σ H)
inductive ClsOk (X : Cx) (n : Str) : List ExceptHandler → List Cl → Prop
  | nil : ClsOk X n [] []
  | cons {x : Str} {c : Value} {ts : Addr → Value → Option Addr → TS} {b₀ : Stmt} {suite : List Stmt} {np pos' : Pos} {hds : List ExceptHandler} {l : List Cl} (hc : Names X x c)
      (hsu : ∀ (a : Addr) (oe : Obj) (cls : Value) (d : Option Addr) (pn : List (Addr × Obj)), Zc cls d oe → (∃ vs, oe.data = .fields vs) → PSs (X.suite a ((a, oe) :: pn)) (b₀ :: suite) (ts a cls d)) (r : ClsOk X n hds l) :
      ClsOk X n (.ExceptHandler (some (.Name x np)) (some n) (b₀ :: suite) pos' :: hds) ((c, ts) :: l)
section
variable {X : Cx} {n : Str} {i : Nat} {body : List Stmt} {h₀ : ExceptHandler} {hds : List ExceptHandler} {l : List Cl} {pos : Pos} {tb : WX → TS} {Wout : WX}
/-- the exception at a lies on the ground: the clauses are looked through -/
theorem handle_run {pins : List (Addr × Obj)} {σ' : L2.St} {H' : Hp} {sI s' : Shared} {B h3 : Heap} {a : Addr} {cls : Value} {d : Option Addr} {D : Ends} (ok : X.Ok) (hs : X.stack = X.env :: X.outer) (hf : X.env.frame = some X.env.locals) (hN : X.N.Nodup) (hi : X.N[i]? = some n) (hln : X.env.kindOf n = some .local) (tk : Takes X Wout)
    (J : Inv X pins σ' H' sI) (nb : ∀ b o, sI.heap.get? b = some o → b ∉ frs X.stack → B.get? b = some o) (up : sI.heap.UpToSlots h3) (os : s'.os = sI.os) (ag : AllBare s'.gens) (na : H' a = none) (fl3 : HandSPX.FlyingZ B (X.env :: X.outer) a (Zc cls d) h3) :
    ∀ {hds : List ExceptHandler} {l : List Cl}, ClsOk X n hds l → wCls X.K i Wout D l cls d σ' H' → wpAny (model X.prog X.w) X.A (handleBy (.ref a) X.env hds) (SP X pins D) X.xe { s' with heap := h3 } := by
  have J3 : Inv X pins σ' H' { s' with heap := h3 } := J.landed nb fl3.1 up os ag
  obtain ⟨oe3, vs3, he3, hz3, hd3⟩ := fl3.there
  have nfr : a ∉ frs (X.env :: X.outer) := fun hm => by
    obtain ⟨_, o', e', hnf⟩ := fl3.2.2.1.mem hm
    rw [he3] at e'
    cases e'
    exact hnf _ hd3
  have nL : a ≠ X.env.locals := fun z => nfr (List.mem_filterMap.mpr ⟨X.env, List.mem_cons_self, by rw [hf, z]⟩)
  have nF : a ∉ X.fs := fun hm => by
    obtain ⟨e, he, q⟩ := List.mem_filterMap.mp hm
    exact nfr (List.mem_filterMap.mpr ⟨e, List.mem_cons_of_mem _ he, q⟩)
  have S3 := J3.suite he3 hd3 na nL nF
  have hloc : Loc X.env.scope n := .inl hln
  intro hds l hk
  induction hk with
  | nil =>
    intro w
    refine wpAny_handleBy_nil ?_
    obtain ⟨k1, k2, k3, oe, vs, T, oT, ts', he, hz, hd, h1, hr⟩ := id fl3
    unfold PySem.passOn
    refine wpAny_bind (wpAny_field he hd h1 ?_)
    rw [if_neg (show ¬ ((Value.ref T == Value.none) = true) from by simp)]
    have fin : wpAny (model X.prog X.w) X.A (setFlight (.ref a) X.env.frame) (fun _ s4 => wpAny (model X.prog X.w) X.A (throw (.ref a) : Sem Flow) (SP X pins D) X.xe s4) X.xe { s' with heap := h3 } := by
      rw [hf]
      refine HandSPX.setFlight_upZ fl3 fun h4 hh4 up4 => wpAny_throw (tk _ _ ?_)
      exact ⟨a, B, sI, pins, σ', H', cls, d, rfl, J, nb, up.trans up4, .inr (.inr (by rw [hs]; exact hh4)), na, os, ag, w⟩
    first
      | exact wpAny_bind (wpAny_pure (wpAny_bind fin))
      | exact wpAny_bind fin
  | @cons x c ts b₀ suite np pos' hds2 l2 hc hsu r ih =>
    intro w
    obtain ⟨b, hb1, hyes, hno⟩ := w
    refine wpAny_handleBy_cons (codeAny_handlers_test ?_) (by intro q; cases q)
    have LT : PySem.W.Looks (model X.prog X.w) h3 (typeOf (.ref a)) cls := fun A Q E s k q => wpAny_typeOf_ref (k _ _ he3) (by rw [hz3.1]; exact q)
    have LM := PySem.W.exm_one (M := model X.prog X.w) (J3.kIn) LT hb1
    have named : ∀ {Q E : Value → Shared → Prop}, Q c { s' with heap := h3 } → wpAny (model X.prog X.w) (X.A.mark (some (.ref a))) (eval (.Name x np) X.env) Q E { s' with heap := h3 } := fun {Q E} q => by
      obtain ⟨hg, hdbg, hm | ⟨hm, hv, hnn⟩⟩ := hc
      · exact ld_glob (X := X.suite a ((a, oe3) :: (X.pn ++ pins))) S3 hg hm q hdbg
      · exact ld_blt (X := X.suite a ((a, oe3) :: (X.pn ++ pins))) S3 hg hm hv q hnn hdbg
    refine named (LM.here ?_)
    cases b with
    | false =>
      show wpAny _ X.A (handleBy (.ref a) X.env hds2) _ _ _
      exact ih (hno rfl)
    | true =>
      refine codeAny_handlers_suite_as ?_
      refine HandSPX.lands_againZ fl3 fun h4 fl4 up4 => ?_
      have J4 : Inv X pins σ' H' { s' with heap := h4 } := J.landed nb fl4.1 (up.trans up4) os ag
      obtain ⟨oe4, vs4, he4, hz4, hd4⟩ := fl4.there
      have S4 := J4.suite he4 hd4 na nL nF
      refine store_ok (X := X.suite a ((a, oe4) :: (X.pn ++ pins))) (v := .ref a) S4 hN hi hloc rfl (fun s5 S5 => ?_) (.inr hln)
      refine wpAny_mono ((hsu a oe4 cls d (X.pn ++ pins) hz4 ⟨_, hd4⟩).run [] s5 _ H' _ S5 (hyes rfl a na)) (fun f s6 hsp => ?_) (fun _ _ z => False.elim z)
      have end_ : ∀ {σ6 : L2.St} {H6 : Hp} {Q : Shared → Prop}, Inv (X.suite a ((a, oe4) :: (X.pn ++ pins))) [] σ6 H6 s6 → (∀ s7, Inv X pins (σ6.set i none) H6 s7 → Q s7) →
          wpAny (model X.prog X.w) X.A (do bindName X.env n .none; unbindBehindTheSuite X.env n pos') (fun _ s7 => Q s7) X.xe s6 := fun {σ6 H6 Q} S6 hq => gone_ok (S6.unsuite ok) hN hi hln hq
      cases f with
      | next =>
        obtain ⟨σ6, H6, S6, q6⟩ := hsp
        exact end_ S6 fun s7 J7 => ⟨_, _, J7, q6⟩
      | brk =>
        obtain ⟨σ6, H6, S6, q6⟩ := hsp
        exact end_ S6 fun s7 J7 => ⟨_, _, J7, q6⟩
      | cont =>
        obtain ⟨σ6, H6, S6, q6⟩ := hsp
        exact end_ S6 fun s7 J7 => ⟨_, _, J7, q6⟩
      | ret u =>
        obtain ⟨v6, σ6, H6, S6, r6, q6⟩ := hsp
        exact end_ S6 fun s7 J7 => ⟨_, _, _, J7, r6, q6⟩
theorem ps_try_cls (hs : X.stack = X.env :: X.outer) (hf : X.env.frame = some X.env.locals) (hN : X.N.Nodup) (hi : X.N[i]? = some n) (hln : X.env.kindOf n = some .local) (tk : Takes X Wout)
    (hb : ∀ (W : WX) (pn : List (Addr × Obj)) (xe : Value → Shared → Prop), Takes (X.tr pn xe) W → PassesOwn (model X.prog X.w) X.A X.env xe → PSs (X.tr pn xe) body (tb W))
    (hh : ClsOk X n (h₀ :: hds) l) : PS X (.Try body (h₀ :: hds) [] [] pos) (fun D σ H => tb (wCls X.K i Wout D l) D σ H) := by
  refine ⟨fun pins s σ H D I h => ?_⟩
  have ok := I.ok
  have hfr : X.A.frames = some (X.env :: X.outer) := by rw [ok.frames, hs]
  refine wpAny_Try_except ?_
  refine wpAny_mono ((hb (wCls X.K i Wout D l) (X.pn ++ pins) (fun e s₁ => wpAny (model X.prog X.w) X.A (noteFrame e X.env) (fun _ s₂ => wpAny (model X.prog X.w) X.A (setFlight e none) (fun _ s₃ =>
    wpAny (model X.prog X.w) X.A (handleBy e X.env (h₀ :: hds)) (SP X pins D) X.xe s₃) X.xe s₂) X.xe s₁) (fun u s' xx => ?_) PassesOwn.looking).run [] s σ H D (I.toTry _) h) (fun f s1 hsp => ?_) (fun e s1 he => he)
  · obtain ⟨a, B, sI, pins', σ', H', cls, d, rfl, J', nb, up, sky, na, os, ag, w⟩ := xx
    have J : Inv X pins σ' H' sI := J'.ofTry ok
    have sky' : Sky B (X.env :: X.outer) a (Zc cls d) X.env.locals s'.heap := by rw [← hs]; exact sky
    show wpAny (model X.prog X.w) X.A (noteFrame (.ref a) X.env) _ _ _
    exact Sky.land Zc.steady hfr hf sky' fun h3 fl3 up3 => handle_run ok hs hf hN hi hln tk J nb (up.trans up3) os ag na fl3 hh w
  · cases f with
    | next =>
      obtain ⟨σ', H', J', q⟩ := hsp
      exact wpAny_execs_nil ⟨σ', H', J'.ofTry ok, q⟩
    | brk =>
      obtain ⟨σ', H', J', q⟩ := hsp
      exact ⟨σ', H', J'.ofTry ok, q⟩
    | cont =>
      obtain ⟨σ', H', J', q⟩ := hsp
      exact ⟨σ', H', J'.ofTry ok, q⟩
    | ret u =>
      obtain ⟨v, σ', H', J', r, q⟩ := hsp
      exact ⟨v, σ', H', J'.ofTry ok, r, q⟩
end
end DL
/-! DL17: try: f() / except X as fault: return (text, fault.f, ..) -/
namespace DL
open PySem PySem.Spec PyProof.Rows L2
/-- what reading the field f of an error of the class at C asks -/
structure ExR (K : PySem.W.Frag) (C : Addr) (f : Str) : Prop where
  ga : PySem.W.findIn K (.ref C) "__getattribute__" = some (some (.builtin "BaseException.__getattribute__"))
  gg : PySem.W.findIn K (.ref C) "__getattr__" = some none
  exC : PySem.W.subIn K (.ref C) (.type "BaseException") = some true
  hdC : PySem.W.hasDictIn K C = true
  noN : PySem.W.findIn K (.ref C) f = some none
def tXf (K : PySem.W.Frag) (i : Nat) (a : Addr) (cls : Value) (d : Option Addr) (f : Str) : TE := fun σ H Q => σ[i]? = some (some (.ref a)) ∧ ∃ C dd fs v, cls = .ref C ∧ ExR K C f ∧ d = some dd ∧ H dd = some (.xd fs) ∧ fs.lookup f = some v ∧ Q v H
section
variable {X : Cx} {a : Addr} {oe : Obj} {cls : Value} {d : Option Addr} {pn : List (Addr × Obj)} {f n : Str} {i : Nat} {q1 q2 : Pos}
theorem pe_xf (hz : Zc cls d oe) (hf : ∃ vs, oe.data = .fields vs) (hi : X.N[i]? = some n) (hv : Vis X.env.scope n) (hd : (n == ("__debug__" : Str)) = false) (hcd : (n == ("__classdict__" : Str)) = false)
    (hb : attributeBase (.Name n q1) f X.env (eval (.Name n q1) X.env) = eval (.Name n q1) X.env) :
    PE (X.suite a ((a, oe) :: pn)) (.Attribute (.Name n q1) f q2) (tXf X.K i a cls d f) := by
  refine ⟨fun pins s σ H Q I h => ?_⟩
  obtain ⟨hs, C, dd, fs, v, ec, T, ed, ea, hl, q⟩ := h
  refine attr_of hb (thn ((pe_var (X := X.suite a ((a, oe) :: pn)) (pos := q1) (i := i) hi hv hd hcd).run pins s σ H (fun x H1 => x = .ref a ∧ H1 = H) I ⟨.ref a, hs, rfl, rfl⟩) fun u s1 hh => ?_)
  obtain ⟨x, H1, I1, rx, ex, eH⟩ := hh
  subst ex
  subst eH
  obtain rfl : u = Value.ref a := rx
  subst ec
  subst ed
  obtain ⟨ha, _⟩ := I1.pin (a, oe) (List.mem_append_left _ List.mem_cons_self)
  obtain ⟨vs, hd⟩ := hf
  have hx : ObjOk X.prog X.w H1 s1.heap dd (.xd fs) := I1.hok dd _ ea
  obtain ⟨mA, hns, hr⟩ := hx
  obtain ⟨od, ho, hl2⟩ := lookIn_ns hns
  obtain ⟨u, hu, ru⟩ := RelO.some_of (v := v) (o := mA f) (by rw [← hl]; exact hr f)
  have J : PySem.W.InstAt s1.heap a oe C (some od) := ⟨ha, hz.1, by unfold PySem.W.notCls; rw [hd] <;> rfl, by rw [hz.2]; exact ho⟩
  exact HandSPX.exc_get I1.kIn J T.ga T.gg T.exC (PySem.W.findObj_own T.hdC T.noN rfl (by rw [hl2, hu])) (handed_of ru) ⟨v, H1, I1.tok _, ru, q⟩
end
/-- a clause: the class, the text, the fields -/
structure FCl where
  c : Str
  s : Str
  fs : List Str
def lookAll (kv : List (Str × D)) : List Str → Option (List D)
  | [] => some []
  | f :: fs => (kv.lookup f).bind fun d => (lookAll kv fs).map (d :: ·)
/-- what the clauses make of an error -/
def caught (fl : Str → List Str) (c : Str) (ds : List D) : List FCl → Option D
  | [] => none
  | k :: r => if c = k.c then (lookAll ((fl c).zip ds) k.fs).map fun vs => .tup (.str k.s :: vs) else caught fl c ds r
def sTryF (fl : Str → List Str) (i : Nat) (m : EM) (l : List FCl) : SM := fun δ st => if i < δ.length then (match m δ st with
  | .ok _ st' => .ok (.next, δ) st'
  | .exc c ds st' => match caught fl c ds l with
    | some v => .ok (.ret v, δ) st'
    | none => .stuck
  | .stuck => .stuck) else .stuck
/-- fault.f, .. -/
def tXfs (K : PySem.W.Frag) (i : Nat) (a : Addr) (cls : Value) (d : Option Addr) : List Str → TA
  | [] => tNil
  | f :: fs => tCons (tXf K i a cls d f) (tXfs K i a cls d fs)
def tFCl (K : PySem.W.Frag) (i : Nat) (k : FCl) : Addr → Value → Option Addr → TS := fun a cls d => tRet (tTup (tCons (tC (.str k.s)) (tXfs K i a cls d k.fs)))
def cvOf (mg : Str → Option Value) (c : Str) : Value := (mg c).getD .none
section
variable {X : Cx} {fl : Fls} {n : Str} {i : Nat}
inductive AttOk (X : Cx) (n : Str) : List Expr → List Str → Prop
  | nil : AttOk X n [] []
  | cons {f : Str} {q1 q2 : Pos} {es : List Expr} {fs : List Str} (r : AttOk X n es fs) (hb : attributeBase (.Name n q1) f X.env (eval (.Name n q1) X.env) = eval (.Name n q1) X.env := by rfl)
      (hs : starEach (.Attribute (.Name n q1) f q2 :: es) X.env = (false, eval (.Attribute (.Name n q1) f q2) X.env) :: starEach es X.env := by rfl) : AttOk X n (.Attribute (.Name n q1) f q2 :: es) (f :: fs)
/-- the clauses of the text -/
inductive FClsOk (X : Cx) (n : Str) : List ExceptHandler → List FCl → Prop
  | nil : FClsOk X n [] []
  | cons {x s : Str} {C : Addr} {np pos' p1 p2 p3 : Pos} {j k : _} {es : List Expr} {fs : List Str} {hds : List ExceptHandler} {l : List FCl} (hg : Gl X x) (hm : X.mg x = some (.ref C))
      (ha : AttOk X n es fs) (r : FClsOk X n hds l) (hl : fs.length + 1 ≤ sizeLine := by decide) (hdb : (x == ("__debug__" : Str)) = false := by decide)
      (hs : starEach (.Constant (.str s) j p1 :: es) X.env = (false, eval (.Constant (.str s) j p1) X.env) :: starEach es X.env := by rfl) :
      FClsOk X n (.ExceptHandler (some (.Name x np)) (some n) [.Return (some (.Tuple (.Constant (.str s) j p1 :: es) k p2)) p3] pos' :: hds) (⟨x, s, fs⟩ :: l)
theorem pa_att {a : Addr} {oe : Obj} {cls : Value} {d : Option Addr} {pn : List (Addr × Obj)} {es : List Expr} {fs : List Str} (hz : Zc cls d oe) (hf : ∃ vs, oe.data = .fields vs) (hi : X.N[i]? = some n) (hv : Vis X.env.scope n) (hd : (n == ("__debug__" : Str)) = false) (hcd : (n == ("__classdict__" : Str)) = false)
    (h : AttOk X n es fs) : PA (X.suite a ((a, oe) :: pn)) es (tXfs X.K i a cls d fs) := by
  induction h with
  | nil => exact pa_nil
  | cons r hb hs ih => exact pa_cons (pe_xf hz hf hi hv hd hcd hb) ih hs
theorem clsOk_of (hi : X.N[i]? = some n) (hv : Vis X.env.scope n) (hd : (n == ("__debug__" : Str)) = false) (hcd : (n == ("__classdict__" : Str)) = false) {hds : List ExceptHandler} {l : List FCl} (h : FClsOk X n hds l) :
    ClsOk X n hds (l.map fun k => (cvOf X.mg k.c, tFCl X.K i k)) := by
  induction h with
  | nil => exact .nil
  | cons hg hm ha r hl hdb hs ih =>
    refine .cons ⟨hg, hdb, .inl ?_⟩ (fun a oe cls d pn hz hf => ?_) ih
    · unfold cvOf
      rw [hm]
      rfl
    · exact pss_one (ps_ret (pe_tup (pa_cons pe_str (pa_att hz hf hi hv hd hcd ha) hs)))
/-- the classes of the clauses: which is which; what is read of each -/
structure FTab (X : Cx) (cl : List FCl) : Prop where
  ex : ∀ k ∈ cl, ∀ k' ∈ cl, ∀ C C', X.mg k.c = some (.ref C) → X.mg k'.c = some (.ref C') → PySem.W.exmOne X.K (.ref C) (.ref C') = some (decide (k.c = k'.c))
  rd : ∀ k ∈ cl, ∀ C, X.mg k.c = some (.ref C) → ∀ f ∈ k.fs, ExR X.K C f
theorem read_xfs {T : Tab} {ρ : Rho} {st : Store} {H : Hp} {σ : L2.St} {c : Str} {C a d : Addr} {ds : List D} {xs : List V} (hd : H d = some (.xd ((T.fl c).zip xs))) (rx : RAll T ρ st H ds xs) (hσ : σ[i]? = some (some (.ref a))) :
    ∀ {fs : List Str} {vs : List D} {Q : List V → Hp → Prop}, lookAll ((T.fl c).zip ds) fs = some vs → (∀ f ∈ fs, ExR T.K C f) → (∀ ws, RAll T ρ st H vs ws → Q ws H) → tXfs T.K i a (.ref C) (some d) fs σ H Q := by
  intro fs
  induction fs with
  | nil =>
    intro vs Q h _ q
    cases h
    exact q [] RAll.nil
  | cons f fs ih =>
    intro vs Q h hr q
    unfold lookAll at h
    cases e : ((T.fl c).zip ds).lookup f with
    | none => rw [e] at h; cases h
    | some dv =>
      rw [e] at h
      cases e2 : lookAll ((T.fl c).zip ds) fs with
      | none => rw [Option.bind_some, e2] at h; cases h
      | some vs2 =>
        rw [Option.bind_some, e2] at h
        cases h
        obtain ⟨x, hx, rxv⟩ := zip_lookup rx e
        refine ⟨hσ, C, d, _, x, rfl, hr f List.mem_cons_self, rfl, hd, hx, ?_⟩
        exact ih e2 (fun g hg => hr g (List.mem_cons_of_mem _ hg)) fun ws rws => q _ (RAll.cons rxv rws)
theorem FClsOk.known {hds : List ExceptHandler} {l : List FCl} (h : FClsOk X n hds l) : ∀ k ∈ l, k.fs.length + 1 ≤ sizeLine ∧ ∃ C, X.mg k.c = some (.ref C) := by
  induction h with
  | nil => exact fun k z => by cases z
  | cons hg hm ha r hl hdb hs ih =>
    intro k hk
    cases hk with
    | head => exact ⟨hl, _, hm⟩
    | tail _ hk => exact ih k hk
theorem lookAll_len {kv : List (Str × D)} : ∀ {fs : List Str} {vs : List D}, lookAll kv fs = some vs → vs.length = fs.length := by
  intro fs
  induction fs with
  | nil => intro vs h; cases h; rfl
  | cons f fs ih =>
    intro vs h
    unfold lookAll at h
    cases e : kv.lookup f with
    | none => rw [e] at h; cases h
    | some dv =>
      rw [e, Option.bind_some] at h
      cases e2 : lookAll kv fs with
      | none => rw [e2] at h; cases h
      | some vs2 =>
        rw [e2] at h
        cases h
        simp [ih e2]
theorem caught_wCls {cl : List FCl} {W : WX} (F : FTab X cl) (hm : ∀ k ∈ cl, k.fs.length + 1 ≤ sizeLine ∧ ∃ C, X.mg k.c = some (.ref C)) {ρ : Rho} {st : Store} {H : Hp} {σ : L2.St} {Dd : Ends} {c : Str} {C d : Addr} {ds : List D} {xs : List V} {v : D}
    (hc : X.mg c = some (.ref C)) (hd : H d = some (.xd ((fl c).zip xs))) (m : Mt (XT X fl) ρ st H) (rx : RAll (XT X fl) ρ st H ds xs) (hi : i < σ.length)
    (q : ∀ ρ' H', Ext ρ st H ρ' st H' → Mt (XT X fl) ρ' st H' → ∀ x, R (XT X fl) ρ' st H' v x → Dd.rt x H') :
    ∀ {l : List FCl}, (∀ k ∈ l, k ∈ cl) → caught fl c ds l = some v → wCls X.K i W Dd (l.map fun k => (cvOf X.mg k.c, tFCl X.K i k)) (.ref C) (some d) σ H := by
  intro l
  induction l with
  | nil => intro _ h; cases h
  | cons k r ih =>
    intro sub h
    have hin : ∃ k0 ∈ cl, k0.c = c := by
      have : ∀ l : List FCl, (∀ k ∈ l, k ∈ cl) → caught fl c ds l = some v → ∃ k0 ∈ cl, k0.c = c := by
        intro l
        induction l with
        | nil => intro _ h; cases h
        | cons k r ih =>
          intro sub h
          unfold caught at h
          by_cases e : c = k.c
          · exact ⟨k, sub k List.mem_cons_self, e.symm⟩
          · rw [if_neg e] at h
            exact ih (fun x hx => sub x (List.mem_cons_of_mem _ hx)) h
      exact this _ sub h
    obtain ⟨k0, hk0, rfl⟩ := hin
    obtain ⟨hlen, C', hC'⟩ := hm k (sub k List.mem_cons_self)
    have hv : cvOf X.mg k.c = .ref C' := by unfold cvOf; rw [hC']; rfl
    refine ⟨decide (k0.c = k.c), ?_, fun hy a ha => ?_, fun hn => ?_⟩
    · show PySem.W.exmOne X.K (.ref C) (cvOf X.mg k.c) = _
      rw [hv]
      exact F.ex k0 hk0 k (sub k List.mem_cons_self) C C' hc hC'
    · have e := of_decide_eq_true hy
      unfold caught at h
      rw [if_pos e] at h
      cases e2 : lookAll ((fl k0.c).zip ds) k.fs with
      | none => rw [e2] at h; cases h
      | some vs =>
        rw [e2] at h
        cases h
        have hCC : C' = C := by
          rw [← e, hc] at hC'
          cases hC'
          rfl
        subst hCC
        refine read_xfs (T := XT X fl) hd rx (by rw [List.getElem?_set_self hi]) e2 (F.rd k (sub k List.mem_cons_self) C' hC') fun ws rws => ?_
        have hl2 : ws.length = k.fs.length := by rw [← rws.length, lookAll_len e2]
        refine ⟨by rw [List.length_cons, hl2]; exact hlen, fun p hp => ?_⟩
        have ee := Ext.new (ρ := ρ) (st := st) (o := .tup (V.str k.s :: ws)) m hp
        refine q ρ _ ee (m.new hp) (.ref p) ?_
        simp only [R]
        exact ⟨p, _, rfl, .inl ⟨upd_same, m.notLive hp⟩, RAll.cons R.str (rws.ext ee _ _)⟩
    · have e := of_decide_eq_false hn
      unfold caught at h
      rw [if_neg e] at h
      exact ih (fun x hx => sub x (List.mem_cons_of_mem _ hx)) h
theorem ds_tryF {E : XK} {e : Expr} {epos pos : Pos} {h₀ : ExceptHandler} {hds : List ExceptHandler} {l : List FCl} {m : EM} (hs : X.stack = X.env :: X.outer) (hf : X.env.frame = some X.env.locals) (hN : X.N.Nodup) (hi : X.N[i]? = some n) (hln : X.env.kindOf n = some .local) (tk : Takes X (wx E))
    (hv : Vis X.env.scope n) (F : FTab X l) (hc : FClsOk X n (h₀ :: hds) l)
    (hb : ∀ (W : WX) (pn : List (Addr × Obj)) (xe : Value → Shared → Prop), Takes (X.tr pn xe) W → PassesOwn (model X.prog X.w) X.A X.env xe → DE (X.tr pn xe) fl W e m)
    (hsw : swapsWith e none epos.line X.env = pure false := by rfl) (hd : (n == ("__debug__" : Str)) = false := by decide) (hcd : (n == ("__classdict__" : Str)) = false := by decide) :
    DS X fl E (.Try [.Expr e epos] (h₀ :: hds) [] [] pos) (sTryF fl i m l) := by
  refine ps_imp (ps_try_cls (tb := fun W => tDrop (tD (XT X fl) W m)) hs hf hN hi hln tk (fun W pn xe t p => pss_one (ps_expr (hb W pn xe t p) hsw)) (clsOk_of hi hv hd hcd hc)) fun D σ H ⟨ρ, δ, st, mt, en, h⟩ => ?_
  refine ⟨ρ, δ, st, mt, en, ?_⟩
  unfold sTryF at h
  dsimp only at h ⊢
  by_cases hlt : i < δ.length
  case neg =>
    rw [if_neg hlt] at h
    exact False.elim h
  rw [if_pos hlt] at h
  cases q : m δ st with
  | stuck => rw [q] at h; exact False.elim h
  | ok v st' =>
    rw [q] at h
    exact fun ρ1 H1 e1 m1 x rx => h ρ1 H1 e1 m1 σ (en.ext e1)
  | exc c ds st' =>
    rw [q] at h
    dsimp only at h
    cases q2 : caught fl c ds l with
    | none => rw [q2] at h; exact False.elim h
    | some v =>
      rw [q2] at h
      intro ρ1 H1 C d vs e1 m1 hca hdd hnl rv
      exact caught_wCls F hc.known hca hdd m1 rv (by rw [← en.len]; exact hlt) (fun ρ2 H2 e2 m2 x rx => h ρ2 H2 (e1.trans e2) m2 x rx) (fun k hk => hk) q2
end
end DL
/-! DL18: law's cells, held while a def runs that law called. -/
namespace DL
open PySem PySem.Spec PyProof.Rows L2
/-- with the cells; without them -/
def plusC (l : List Addr) (h : Heap) (H : Hp) : Hp := fun b => if b ∈ l then (h.get? b).map fun o => .frz o (.own b) else H b
def minusC (l : List Addr) (H : Hp) : Hp := fun b => if b ∈ l then none else H b
section
variable {P : Program} {w : World} {l : List Addr} {h h' : Heap} {H H' : Hp} {a b : Addr} {o : HO}
theorem plusC_in {ob : Obj} (hb : b ∈ l) (e : h.get? b = some ob) : plusC l h H b = some (.frz ob (.own b)) := by
  unfold plusC
  rw [if_pos hb, e]
  rfl
theorem plusC_out (hb : b ∉ l) : plusC l h H b = H b := by
  unfold plusC
  rw [if_neg hb]
theorem minusC_in (hb : b ∈ l) : minusC l H b = none := by
  unfold minusC
  rw [if_pos hb]
theorem minusC_out (hb : b ∉ l) : minusC l H b = H b := by
  unfold minusC
  rw [if_neg hb]
theorem objOk_mono (k : ∀ b xs, H b = some (.tup xs) → H' b = some (.tup xs)) (k2 : ∀ b x, H b = some (.own x) → H' b = some (.own x)) : ∀ {o : HO}, ObjOk P w H h a o → ObjOk P w H' h a o := by
  intro o
  induction o with
  | dT kvs =>
    rintro ⟨h1, h2, xs, h3, h4⟩
    exact ⟨h1, h2, xs, L2.Paired.mapP h3 (fun p q ⟨e1, e2, e3⟩ => ⟨e1, k _ _ e2, e3⟩), h4⟩
  | ins C dx fs =>
    rintro ⟨h1, h2⟩
    exact ⟨k2 _ _ h1, h2⟩
  | frz ob u ih =>
    rintro ⟨h1, h2⟩
    exact ⟨h1, ih h2⟩
  | _ => exact fun x => x
theorem hok_plus (hok : HOk P w H h) (hc : ∀ c ∈ l, H c = none ∧ ∃ ob, h.get? c = some ob) : HOk P w (plusC l h H) h := by
  have out : ∀ b u, H b = some u → plusC l h H b = some u := fun b u e => by
    rw [plusC_out fun hb => by rw [(hc b hb).1] at e; cases e]
    exact e
  intro b u e
  by_cases hb : b ∈ l
  · obtain ⟨ob, q⟩ := (hc b hb).2
    rw [plusC_in hb q] at e
    cases e
    exact ⟨q, ob, q⟩
  · rw [plusC_out hb] at e
    exact objOk_mono (fun b xs e => out _ _ e) (fun b xs e => out _ _ e) (hok b u e)
theorem hok_minus (hok : HOk P w H h) (hc : ∀ c ∈ l, ∃ ob, H c = some (.frz ob (.own c))) : HOk P w (minusC l H) h := by
  intro b u e
  by_cases hb : b ∈ l
  · rw [minusC_in hb] at e
    cases e
  · rw [minusC_out hb] at e
    refine objOk_mono (fun b xs e => ?_) (fun b xs e => ?_) (hok b u e)
    · rw [minusC_out fun hb => by obtain ⟨ob, q⟩ := hc b hb; rw [q] at e; cases e]
      exact e
    · rw [minusC_out fun hb => by obtain ⟨ob, q⟩ := hc b hb; rw [q] at e; cases e]
      exact e
/-- what was done with the cells held, told without them -/
theorem un_minus {fs : List Addr} (un : Un fs [] (plusC l h H) H' h h') (hok : HOk P w H' h') (hc : ∀ c ∈ l, H c = none ∧ c ∉ fs ∧ ∃ ob, h.get? c = some ob) : Un fs [] H (minusC l H') h h' := by
  have no : ∀ b : Addr, b ∉ ([] : List Addr) := fun b z => absurd z (by simp)
  have nc : ∀ {b u}, H b = some u → b ∉ l := fun {b u} e hb => by rw [(hc b hb).1] at e; cases e
  refine ⟨fun b o e n hf _ => ?_, fun b o e n hf _ => ?_, fun b o e n _ => ?_, fun b o e _ => un.there b o e (no b), fun b xs e => ?_, fun b o u e => ?_, fun b ps e => ?_⟩
  · by_cases hb : b ∈ l
    · exact (hok b _ (un.frzs b _ _ (plusC_in hb e))).1
    · exact un.keep b o e (by rw [plusC_out hb]; exact n) hf (no b)
  · have hb : b ∉ l := fun hb => (hc b hb).2.1 hf
    exact un.slot b o e (by rw [plusC_out hb]; exact n) hf (no b)
  · by_cases hb : b ∈ l
    · exact minusC_in hb
    · rw [minusC_out hb]
      exact un.free b o e (by rw [plusC_out hb]; exact n) (no b)
  · rw [minusC_out (nc e)]
    exact un.tups b xs (by rw [plusC_out (nc e)]; exact e)
  · rw [minusC_out (nc e)]
    exact un.frzs b o u (by rw [plusC_out (nc e)]; exact e)
  · rw [minusC_out (nc e)]
    exact un.tbls b ps (by rw [plusC_out (nc e)]; exact e)
end
/-- cells of this frame -/
structure LawC (X : Cx) (cs : List (Str × Addr)) : Prop where
  look : ∀ p ∈ cs, X.env.cells.lookup p.1 = some p.2
  fn : ∀ p ∈ cs, X.fn p.1 = true
  ex : X.ex = []
section
variable {X : Cx} {cs : List (Str × Addr)} {pins : List (Addr × Obj)} {σ : L2.St} {H : Hp} {s : Shared}
theorem LawC.new (O : LawC X cs) (I : Inv X pins σ H s) {c : Addr} (hc : c ∈ cs.map (·.2)) : X.s_0.heap.objs.size ≤ c ∧ H c = none ∧ (∃ ob v, s.heap.get? c = some ob ∧ ob.data = .cell v) := by
  obtain ⟨p, hp, rfl⟩ := List.mem_map.mp hc
  obtain ⟨v, ob, e, hd⟩ := I.cell p.1 p.2 (O.look p hp)
  exact ⟨I.ok.cab p.1 p.2 (O.fn p hp) (O.look p hp), I.freeC _ _ (O.look p hp), ob, v, e, hd⟩
theorem LawC.nofr (O : LawC X cs) (I : Inv X pins σ H s) {c : Addr} (hc : c ∈ cs.map (·.2)) : c ∉ frs X.stack := fun hm => by
  obtain ⟨h1, h2, ob, v, e, hd⟩ := O.new I hc
  rcases List.mem_cons.mp (I.stkSub _ hm) with z | z
  · obtain ⟨m, ⟨o, es, ep, e2, hd2, _⟩, _⟩ := I.loc
    rw [← z, e] at e2
    cases e2
    rw [hd] at hd2
    cases hd2
  · obtain ⟨_, o', e', _⟩ := I.ok.funs.mem z
    exact Nat.lt_irrefl _ (Nat.lt_of_lt_of_le (Heap.lt_size e') h1)
theorem LawC.env0 (O : LawC X cs) (I : Inv X pins σ H s) : Env0 X.prog X.w X.K X.mg X.base X.A X.stack s (plusC (cs.map (·.2)) s.heap H) := by
  have e0 := I.env0
  refine ⟨e0.frames, e0.mod, fun b o e => ⟨(e0.bs b o e).1, ?_⟩, e0.bsz, e0.funs, fun b hb => ?_, hok_plus e0.hok fun c hc => ?_, e0.bare⟩
  · rw [plusC_out fun hb => by
      have h1 := (O.new I hb).1
      exact Nat.lt_irrefl _ (Nat.lt_of_lt_of_le (Nat.lt_of_lt_of_le (Heap.lt_size e) I.ok.bsz) h1)]
    exact (e0.bs b o e).2
  · rw [plusC_out fun hc => O.nofr I hc hb]
    exact e0.frf b hb
  · obtain ⟨_, h2, ob, v, e, _⟩ := O.new I hc
    exact ⟨h2, ob, e⟩
/-- a def is called, the cells held; it lets no exception out -/
theorem run_fnL {k : Nat} {f : Addr} {fd : FuncData} {ps : List Str} {sp : Sp} {Q : VK} {us : List Value} {vs : List V}
    (O : LawC X cs) (F : FnG X.prog X.w X.K X.mg X.base k f fd ps sp) (hr : RoomG k X.A) (hb : Binds X.K fd ps [])
    (I : Inv X pins σ H s) (r : Vals vs us) (h : sp vs (plusC (cs.map (·.2)) s.heap H) (fun v H' => Q v (minusC (cs.map (·.2)) H')) fun _ _ _ => False) : wpAny (model X.prog X.w) X.A (call (.ref f) us) (EP X pins σ Q) X.xe s := by
  have hl : (us ++ []).length = ps.length := by rw [List.append_nil, ← r.length]; exact F.len _ _ _ _ h
  have hb' := hb s us I.kIn hl
  rw [List.append_nil] at hb'
  have hc : ∀ c ∈ cs.map (·.2), H c = none ∧ c ∉ frs X.stack ∧ ∃ ob, s.heap.get? c = some ob := fun c hc => by
    obtain ⟨_, h2, ob, v, e, _⟩ := O.new I hc
    exact ⟨h2, O.nofr I hc, ob, e⟩
  refine wpAny_call (codeAny_mono (F.run X.A X.stack s _ ⟨us, []⟩ us vs _ _ hr (O.env0 I) hb' r h) fun r s' hq => ?_)
  match r, hq with
  | .error e, hq =>
    obtain ⟨_, _, _, _, _, _, _, _, _, _, _, _, z⟩ := (show L2.CX X.prog X.w X.stack _ s (fun _ _ _ => False) e s' from hq)
    exact z.elim
  | .ok (.ret u), hq =>
    obtain ⟨v, H', os, bare, un, hok, rv, q⟩ := hq
    refine I.after ⟨v, minusC (cs.map (·.2)) H', os, bare, un_minus un hok hc, hok_minus hok fun c hm => ?_, rv, q⟩
    obtain ⟨_, _, ob, e⟩ := hc c hm
    exact ⟨ob, un.frzs c _ _ (plusC_in hm e)⟩
  | .ok .next, hq => exact False.elim hq
  | .ok .brk, hq => exact False.elim hq
  | .ok .cont, hq => exact False.elim hq
end
end DL
/-! DL19: law calls a def that may run law's lambdas: the frame is told to the store. -/
namespace DL
open PySem PySem.Spec PyProof.Rows L2
def NoCell (o : HO) : Prop := ∀ ob c, o ≠ .frz ob (.own c)
/-- what values ask of a change, cells aside -/
structure TrV (ρ : Rho) (st : Store) (H : Hp) (ρ' : Rho) (st' : Store) (H' : Hp) : Prop where
  pre : ∀ (n : Nat) (a : Addr), ρ.ix[n]? = some a → ρ'.ix[n]? = some a
  live : ∀ a o, H a = some o → Plain o → NoCell o → ¬ Live ρ st a → ¬ Live ρ' st' a
  stay : ∀ a o, H a = some o → Plain o → NoCell o → ¬ Live ρ st a → H' a = some o
section
variable {T : Tab} {ρ ρ1 ρ2 : Rho} {st st1 st2 : Store} {H H1 H2 : Hp}
theorem codeO_nc {c : Addr} {q : Str} : NoCell (LamX.CodeO c q) := fun ob c z => by
  unfold LamX.CodeO at z
  cases z
mutual
theorem R.trv (e : TrV ρ st H ρ1 st1 H1) : ∀ (d : D) (x : V), R T ρ st H d x → R T ρ1 st1 H1 d x
  | .non, x, h => by simpa only [R] using h
  | .bl b, x, h => by simpa only [R] using h
  | .int i, x, h => by simpa only [R] using h
  | .str s, x, h => by simpa only [R] using h
  | .tup ds, x, h => by
    simp only [R] at h ⊢
    obtain ⟨a, vs, e1, h1, h2⟩ := h
    refine ⟨a, vs, e1, ?_, RAll.trv e ds vs h2⟩
    rcases h1 with ⟨k, l⟩ | k
    · exact .inl ⟨e.stay a _ k plain_tup (fun _ _ z => by cases z) l, e.live a _ k plain_tup (fun _ _ z => by cases z) l⟩
    · exact .inr k
  | .lst ds, x, h => by
    simp only [R] at h ⊢
    obtain ⟨a, vs, e1, k, l, h2⟩ := h
    exact ⟨a, vs, e1, e.stay a _ k plain_lst (fun _ _ z => by cases z) l, e.live a _ k plain_lst (fun _ _ z => by cases z) l, RAll.trv e ds vs h2⟩
  | .ob c ds, x, h => by
    simp only [R] at h ⊢
    obtain ⟨a, C, dx, vs, e1, hc, k, l, h2⟩ := h
    exact ⟨a, C, dx, vs, e1, hc, e.stay a _ k plain_ins (fun _ _ z => by cases z) l, e.live a _ k plain_ins (fun _ _ z => by cases z) l, RAll.trv e ds vs h2⟩
  | .cst y, x, h => by simpa only [R] using h
  | .ref n, x, h => by
    simp only [R] at h ⊢
    obtain ⟨a, e1, k⟩ := h
    exact ⟨a, e1, e.pre _ _ k⟩
  | .clo k ds, x, h => by
    simp only [R] at h ⊢
    obtain ⟨a, ps, body, sc, pm, c', ctv, e1, e2, k1, l1, k2, l2⟩ := h
    exact ⟨a, ps, body, sc, pm, c', ctv, e1, e2, e.stay a _ k1 (fun _ z => by cases z) (fun _ _ z => by cases z) l1, e.live a _ k1 (fun _ z => by cases z) (fun _ _ z => by cases z) l1, e.stay c' _ k2 LamX.codeO_ne codeO_nc l2, e.live c' _ k2 LamX.codeO_ne codeO_nc l2⟩
  | .er c ds, x, h => by
    simp only [R] at h ⊢
    obtain ⟨a, C, vs, e1, hc, he, h2⟩ := h
    refine ⟨a, C, vs, e1, hc, ?_, RAll.trv e ds vs h2⟩
    rcases he with ⟨k, l, z⟩ | ⟨d, k, l, k2, l2⟩
    · exact .inl ⟨e.stay a _ k plain_exo (fun _ _ z => by cases z) l, e.live a _ k plain_exo (fun _ _ z => by cases z) l, z⟩
    · exact .inr ⟨d, e.stay a _ k plain_exo (fun _ _ z => by cases z) l, e.live a _ k plain_exo (fun _ _ z => by cases z) l, e.stay d _ k2 plain_exd (fun _ _ z => by cases z) l2, e.live d _ k2 plain_exd (fun _ _ z => by cases z) l2⟩
  | .gl f, x, h => by simpa only [R] using h
  | .scr ns, x, h => by
    simp only [R] at h ⊢
    obtain ⟨a, e1, h1⟩ := h
    refine ⟨a, e1, ?_⟩
    rcases h1 with ⟨o, k, l⟩ | k
    · exact .inl ⟨o, e.stay a _ k (fun _ z => by cases z) (fun _ _ z => by cases z) l, e.live a _ k (fun _ z => by cases z) (fun _ _ z => by cases z) l⟩
    · exact .inr k
theorem RAll.trv (e : TrV ρ st H ρ1 st1 H1) : ∀ (ds : List D) (vs : List V), RAll T ρ st H ds vs → RAll T ρ1 st1 H1 ds vs
  | [], vs, h => by simpa only [RAll] using h
  | d :: ds, vs, h => by
    simp only [RAll] at h ⊢
    obtain ⟨x, xs, e1, h1, h2⟩ := h
    exact ⟨x, xs, e1, R.trv e d x h1, RAll.trv e ds xs h2⟩
end
theorem RKV.trv {κ : Type} (e : TrV ρ st H ρ1 st1 H1) : ∀ (ds : List (κ × D)) (vs : List (κ × V)), RKV T ρ st H ds vs → RKV T ρ1 st1 H1 ds vs
  | [], vs, h => h
  | (k, d) :: ds, vs, h => by
    obtain ⟨x, xs, e1, h1, h2⟩ := h
    exact ⟨x, xs, e1, R.trv e d x h1, RKV.trv e ds xs h2⟩
theorem TabR.trv (e : TrV ρ st H ρ1 st1 H1) {a : Addr} (h : TabR T ρ st H a) (k : H1 a = H a) : TabR T ρ1 st1 H1 a := by
  obtain ⟨ps, q, t, ha⟩ := h
  refine ⟨ps, by rw [k]; exact q, t, fun pos cv hc => ?_⟩
  obtain ⟨c, e1, k1, l1⟩ := ha pos cv hc
  exact ⟨c, e1, e.stay c _ k1 LamX.codeO_ne codeO_nc l1, e.live c _ k1 LamX.codeO_ne codeO_nc l1⟩
theorem RObj.trv (e : TrV ρ st H ρ1 st1 H1) {o : SO} {a : Addr} (h : RObj T ρ st H o a) (k : o ≠ .dead → H1 a = H a) (hn : ∀ vs, o ≠ .fr vs) : RObj T ρ1 st1 H1 o a := by
  cases o with
  | dead => trivial
  | lst ds => obtain ⟨vs, q, r⟩ := h; exact ⟨vs, by rw [k (by intro z; cases z)]; exact q, r.trv e _ _⟩
  | dk ds => obtain ⟨vs, q, r⟩ := h; exact ⟨vs, by rw [k (by intro z; cases z)]; exact q, r.trv e _ _⟩
  | dt ds => obtain ⟨vs, q, r⟩ := h; exact ⟨vs, by rw [k (by intro z; cases z)]; exact q, r.trv e _ _⟩
  | ins c ds => obtain ⟨C, dx, vs, c1, q, r⟩ := h; exact ⟨C, dx, vs, c1, by rw [k (by intro z; cases z)]; exact q, r.trv e _ _⟩
  | fr vs => exact absurd rfl (hn vs)
/-- what the store tells of the frame -/
def frm (st : Store) : Option (Option (List (Option D))) := match (st[0]? : Option SO) with
  | some (.fr o) => some o
  | _ => none
theorem frm_some {o : Option (List (Option D))} (h : frm st = some o) : st[0]? = some (.fr o) := by
  unfold frm at h
  split at h
  · rename_i o' q
    cases h
    exact q
  · cases h
theorem Live.frame {o o' : Option (List (Option D))} (h : st[0]? = some (.fr o)) {a : Addr} : Live ρ (st.set 0 (.fr o')) a ↔ Live ρ st a := by
  have hlt : 0 < st.length := (List.getElem?_eq_some_iff.mp h).1
  unfold Live
  constructor
  · rintro (⟨i, w, h1, h2, h3⟩ | l)
    · by_cases hi : 0 = i
      · subst hi
        exact .inl ⟨0, _, h1, h, by intro z; cases z⟩
      · rw [List.getElem?_set_ne hi] at h2
        exact .inl ⟨i, w, h1, h2, h3⟩
    · exact .inr l
  · rintro (⟨i, w, h1, h2, h3⟩ | l)
    · by_cases hi : 0 = i
      · subst hi
        exact .inl ⟨0, .fr o', h1, by rw [List.getElem?_set_self hlt], by intro z; cases z⟩
      · exact .inl ⟨i, w, h1, by rw [List.getElem?_set_ne hi]; exact h2, h3⟩
    · exact .inr l
/-- the frame's values enter -/
theorem Mt.enter {o : Option (List (Option D))} {vals : List (Option D)} {l : List Addr} {h : Heap} (m : Mt T ρ st H) (hf : st[0]? = some (.fr o)) (hl : ∀ c ∈ l, H c = none)
    (hc : CellR T ρ (st.set 0 (.fr (some vals))) (plusC l h H) T.fl.cs vals) : Mt T ρ (st.set 0 (.fr (some vals))) (plusC l h H) ∧ Tr ρ st H ρ (st.set 0 (.fr (some vals))) (plusC l h H) := by
  have out : ∀ b u, H b = some u → plusC l h H b = some u := fun b u e => by
    rw [plusC_out fun hb => by rw [hl b hb] at e; cases e]
    exact e
  have tr : Tr ρ st H ρ (st.set 0 (.fr (some vals))) (plusC l h H) := ⟨fun _ _ k => k, fun a u e _ k z => k ((Live.frame hf).mp z), fun a u e _ _ => out a u e, fun _ _ _ _ _ n => n⟩
  refine ⟨⟨by rw [List.length_set]; exact m.len, m.nd, fun a ha => let ⟨u, e⟩ := m.trk a ha; ⟨u, out a u e⟩, fun a ha => let ⟨u, e⟩ := m.ptr a ha; ⟨u, out a u e⟩, m.dj, fun i a so h1 h2 => ?_⟩, tr⟩
  by_cases hi : 0 = i
  · subst hi
    have hlt : 0 < st.length := (List.getElem?_eq_some_iff.mp hf).1
    rw [List.getElem?_set_self hlt] at h2
    cases h2
    have q := m.obj 0 a _ h1 hf
    obtain ⟨_, ⟨ps, e, _⟩, _⟩ := id q
    have q' : RObj T ρ st H (.fr none) a := ⟨q.1, q.2.1, True.intro⟩
    have q2 := RObj.tr tr q' (by rw [out a _ e, e])
    exact ⟨q2.1, q2.2.1, hc⟩
  · rw [List.getElem?_set_ne hi] at h2
    by_cases hd : so = .dead
    · subst hd
      trivial
    · have q := m.obj i a so h1 h2
      obtain ⟨u, e⟩ := m.live (.inl ⟨i, so, h1, h2, hd⟩)
      exact RObj.tr tr q (by rw [out a _ e, e])
/-- the frame's values leave -/
theorem Mt.leave {o : Option (List (Option D))} {l : List Addr} (m : Mt T ρ st H) (hf : st[0]? = some (.fr o)) (hl : ∀ c ∈ l, (∃ ob, H c = some (.frz ob (.own c))) ∧ c ∉ ρ.ix ∧ ¬ ρ.pv c) :
    Mt T ρ (st.set 0 (.fr none)) (minusC l H) ∧ TrV ρ st H ρ (st.set 0 (.fr none)) (minusC l H) := by
  have out : ∀ b u, H b = some u → NoCell u → minusC l H b = some u := fun b u e n => by
    rw [minusC_out fun hb => by obtain ⟨⟨ob, q⟩, _⟩ := hl b hb; rw [q] at e; cases e; exact n _ _ rfl]
    exact e
  have trv : TrV ρ st H ρ (st.set 0 (.fr none)) (minusC l H) := ⟨fun _ _ k => k, fun a u e _ _ k z => k ((Live.frame hf).mp z), fun a u e _ n _ => out a u e n⟩
  have keep : ∀ {a}, a ∉ l → minusC l H a = H a := fun h => minusC_out h
  refine ⟨⟨by rw [List.length_set]; exact m.len, m.nd, fun a ha => ?_, fun a ha => ?_, m.dj, fun i a so h1 h2 => ?_⟩, trv⟩
  · rw [keep fun hm => (hl a hm).2.1 ha]
    exact m.trk a ha
  · rw [keep fun hm => (hl a hm).2.2 ha]
    exact m.ptr a ha
  · have nl : a ∉ l := fun hm => (hl a hm).2.1 (List.mem_of_getElem? h1)
    by_cases hi : 0 = i
    · subst hi
      have hlt : 0 < st.length := (List.getElem?_eq_some_iff.mp hf).1
      rw [List.getElem?_set_self hlt] at h2
      cases h2
      have q := m.obj 0 a _ h1 hf
      exact ⟨q.1, TabR.trv trv q.2.1 (keep nl), True.intro⟩
    · rw [List.getElem?_set_ne hi] at h2
      refine RObj.trv trv (m.obj i a so h1 h2) (fun _ => keep nl) fun vs z => ?_
      subst z
      have e1 : a = T.fl.tb := (m.obj i a (.fr vs) h1 h2).1
      have hlt : 0 < ρ.ix.length := by rw [m.len]; exact (List.getElem?_eq_some_iff.mp hf).1
      have h0 : ρ.ix[0]? = some (ρ.ix[0]) := List.getElem?_eq_getElem hlt
      have e2 : ρ.ix[0] = T.fl.tb := (m.obj 0 (ρ.ix[0]) (.fr o) h0 hf).1
      obtain ⟨l2, e3⟩ := List.getElem?_eq_some_iff.mp h1
      exact hi ((List.getElem_inj m.nd).mp (e2.trans (e1.symm.trans e3.symm)))
end
end DL
/-! DL20: f(..) in law's frame, f may run law's lambdas. -/
namespace DL
open PySem PySem.Spec PyProof.Rows L2
def callL (vals : List (Option D)) (r : M D) : M D := fun st => match frm st with
  | some none => match r (st.set 0 (.fr (some vals))) with
    | .ok v st' => match frm st' with
      | some _ => .ok v (st'.set 0 (.fr none))
      | none => .stuck
    | _ => .stuck
  | _ => .stuck
def eCallL (caps : List Nat) (n : Nat) (m : List D → M D) (a : AM) : EM := fun δ => a δ >>= fun ds => if ds.length = n then callL (caps.map fun i => (δ[i]?).join) (m ds) else M.stuck
/-- the captured names and their slots -/
inductive Caps (X : Cx) : List (Str × Addr) → List Nat → Prop
  | nil : Caps X [] []
  | cons {x : Str} {c : Addr} {i : Nat} {cs : List (Str × Addr)} {caps : List Nat} (hi : X.N[i]? = some x) (hk : X.env.scope.names.lookup x = some .cell) (r : Caps X cs caps) : Caps X ((x, c) :: cs) (i :: caps)
section
variable {X : Cx} {fl : Fls} {pins : List (Addr × Obj)} {σ : L2.St} {ρ ρ1 : Rho} {st st1 : Store} {H H1 : Hp} {s : Shared} {δ : DEnv}
theorem cellR_of {l : List Addr} (I : Inv X pins σ H s) (en : EnvOk (XT X fl) ρ st H δ σ) (tr : Tr ρ st H ρ1 st1 H1) (hH : ∀ c ∈ l, ∀ ob, s.heap.get? c = some ob → H1 c = some (.frz ob (.own c))) (hn : ∀ c ∈ l, ¬ Live ρ1 st1 c ∧ c ∉ ρ1.ix) :
    ∀ {cs : List (Str × Addr)} {caps : List Nat}, Caps X cs caps → (∀ p ∈ cs, X.env.cells.lookup p.1 = some p.2 ∧ p.2 ∈ l) → CellR (XT X fl) ρ1 st1 H1 cs (caps.map fun i => (δ[i]?).join) := by
  intro cs caps h
  induction h with
  | nil => exact fun _ => rfl
  | @cons x c i cs caps hi hk r ih =>
    intro hp
    obtain ⟨hc, hl⟩ := hp (x, c) List.mem_cons_self
    obtain ⟨v, ob, e, hd⟩ := I.cell x c hc
    refine ⟨(δ[i]?).join, caps.map fun i => (δ[i]?).join, ob, rfl, hH c hl ob e, hn c hl, ⟨v, hd⟩, fun d0 h0 => ?_, ih fun p hm => hp p (List.mem_cons_of_mem _ hm)⟩
    have hδ : δ[i]? = some (some d0) := by
      cases q : δ[i]? with
      | none => rw [q] at h0; cases h0
      | some o =>
        rw [q] at h0
        have h0 : o = some d0 := h0
        rw [h0]
    obtain ⟨y, hσ, ry⟩ := en.get i d0 hδ
    obtain ⟨mm, _, hl2⟩ := I.loc
    obtain ⟨u, ru, lk⟩ := hl2 i x y hi hσ (.inr (.inl hk))
    rcases lk with ⟨k', _⟩ | ⟨_, c2, e2, ob2, e3, hd2⟩
    · have k' : X.env.scope.names.lookup x = some .local := k'
      rw [hk] at k'
      cases k'
    · rw [hc] at e2
      cases e2
      rw [e] at e3
      cases e3
      exact ⟨y, u, hd2, ru, R.tr tr d0 y ry⟩
end
section
variable {X : Cx} {fl : Fls} {Wx : WX} {e : Expr} {es : List Expr} {mA : AM} {p pos : Pos} {k n : Nat} {x : Str} {m : List D → M D} {caps : List Nat}
theorem de_callL (O : LawC X fl.cs) (C : Caps X fl.cs caps) (F : Fd X.prog X.w X.K X.mg X.base fl k x n m) (hr : RoomG k X.A) (hg : Gl X x) (ha : DA X fl Wx (e :: es) mA) (hdb : (x == ("__debug__" : Str)) = false := by decide)
    (he : starEach (e :: es) X.env = (false, eval e X.env) :: starEach es X.env := by rfl) (hpl : (backTo pos (starEach es X.env)).any (·.1) = false := by rfl) : DE X fl Wx (.Call (.Name x p) (e :: es) [] pos) (eCallL caps n m mA) := by
  obtain ⟨f, fd, ps, F, hm, hk, hb⟩ := F.ex
  refine ⟨fun pins s σ H Q I ⟨ρ, δ, st, mt, en, h⟩ => ?_⟩
  have h' : tDA (XT X fl) Wx mA σ H fun vs H1 => ∃ ρ1 st1 ds, Mt (XT X fl) ρ1 st1 H1 ∧ RAll (XT X fl) ρ1 st1 H1 ds vs ∧ EnvOk (XT X fl) ρ1 st1 H1 δ σ ∧ ds.length = n ∧
      Post (XT X fl) ρ1 st1 H1 σ Wx (fun v ρ' st' H' => ∀ x, R (XT X fl) ρ' st' H' v x → Q x H') (callL (caps.map fun i => (δ[i]?).join) (m ds) st1) := by
    refine ⟨ρ, δ, st, mt, en, (Post.bind h).monoE fun ds ρ1 st1 H1 e1 m1 h1 xs rxs => ?_⟩
    by_cases hl : ds.length = n
    · rw [if_pos hl] at h1
      exact ⟨ρ1, st1, ds, m1, rxs, en.ext e1, hl, h1⟩
    · rw [if_neg hl] at h1
      exact False.elim h1
  refine wpAny_Call_Name_kw (ld_glob I hg hm ?_ hdb)
  refine PySem.W.callWith_K (h₀ := X.base) I.ok.mod.kin hk (thn (ha.run pos pins s σ H _ I h') fun us s1 ⟨vs, H1, I1, r, ρ1, st1, ds, m1, rxs, en1, hl, q⟩ => ⟨I1.kIn, ?_⟩) he hpl
  unfold callL at q
  cases qf : frm st1 with
  | none => rw [qf] at q; exact False.elim q
  | some o =>
    rw [qf] at q
    cases o with
    | some _ => exact False.elim q
    | none =>
      dsimp only at q
      have hf := frm_some qf
      have hnone : ∀ c ∈ fl.cs.map (·.2), H1 c = none := fun c hc => (O.new I1 hc).2.1
      have out : ∀ b u, H1 b = some u → plusC (fl.cs.map (·.2)) s1.heap H1 b = some u := fun b u e => by
        rw [plusC_out fun hb => by rw [hnone b hb] at e; cases e]
        exact e
      have tr0 : Tr ρ1 st1 H1 ρ1 (st1.set 0 (.fr (some (caps.map fun i => (δ[i]?).join)))) (plusC (fl.cs.map (·.2)) s1.heap H1) := ⟨fun _ _ k => k, fun a u e _ k z => k ((Live.frame hf).mp z), fun a u e _ _ => out a u e, fun _ _ _ _ _ n => n⟩
      have nl : ∀ c ∈ fl.cs.map (·.2), ¬ Live ρ1 (st1.set 0 (.fr (some (caps.map fun i => (δ[i]?).join)))) c := fun c hc z => m1.notLive (hnone c hc) ((Live.frame hf).mp z)
      have inH : ∀ c ∈ fl.cs.map (·.2), ∀ ob, s1.heap.get? c = some ob → plusC (fl.cs.map (·.2)) s1.heap H1 c = some (.frz ob (.own c)) := fun c hc ob e => plusC_in hc e
      have hcell := cellR_of I1 en1 tr0 inH (fun c hc => ⟨nl c hc, m1.nin (hnone c hc)⟩) C fun p hp => ⟨O.look p hp, List.mem_map.mpr ⟨p, hp, rfl⟩⟩
      obtain ⟨m2, tr⟩ := m1.enter hf hnone hcell
      refine run_fnL O F hr hb I1 r ⟨ρ1, _, ds, m2, RAll.tr tr _ _ rxs, hl, ?_⟩
      cases qm : m ds (st1.set 0 (.fr (some (caps.map fun i => (δ[i]?).join)))) with
      | stuck => rw [qm] at q; exact False.elim q
      | exc _ _ _ => rw [qm] at q; exact False.elim q
      | ok v st' =>
        rw [qm] at q
        dsimp only at q
        cases qg : frm st' with
        | none => rw [qg] at q; exact False.elim q
        | some o' =>
          rw [qg] at q
          dsimp only at q
          have hg' := frm_some qg
          intro ρ' H' e' m' y ry
          have hl' : ∀ c ∈ fl.cs.map (·.2), (∃ ob, H' c = some (.frz ob (.own c))) ∧ c ∉ ρ'.ix ∧ ¬ ρ'.pv c := fun c hc => by
            obtain ⟨_, _, ob, v, eo, _⟩ := O.new I1 hc
            have hp : Plain (.frz ob (.own c)) := fun _ z => by cases z
            have e1 := inH c hc ob eo
            refine ⟨⟨ob, e'.stay c _ e1 hp (nl c hc)⟩, fun z => m1.nin (hnone c hc) (e'.nix c _ e1 hp z), fun z => e'.live c _ e1 hp (nl c hc) (.inr z)⟩
          obtain ⟨m3, tv⟩ := m'.leave hg' hl'
          have nin : ∀ {a u}, H1 a = some u → a ∉ fl.cs.map (·.2) := fun {a u} e hc => by rw [hnone a hc] at e; cases e
          refine q ρ' (minusC (fl.cs.map (·.2)) H') ⟨e'.pre, e'.pvs, fun a l => ?_, fun a o e pl l z => ?_, fun a o e pl l => ?_, fun a o e pl hx => e'.nix a o (out a o e) pl hx⟩ m3 y (R.trv tv v y ry)
          · obtain ⟨u, e⟩ := m1.ptr a l
            rw [minusC_out (nin e), e'.hid a l, plusC_out (nin e)]
          · exact e'.live a o (out a o e) pl (fun z2 => l ((Live.frame hf).mp z2)) ((Live.frame hg').mp z)
          · rw [minusC_out (nin e)]
            exact e'.stay a o (out a o e) pl fun z2 => l ((Live.frame hf).mp z2)
end
end DL
/-! DL21: a lambda of law's frame runs in another def: the walk. -/
namespace DL
open PySem PySem.Spec PyProof.Rows L2
section
variable {P : Program} {w : World} {l : List Addr} {h h' B : Heap} {H H' : Hp} {fs : List Addr}
/-- the cells, as they are held -/
def HeldC (l fs : List Addr) (h : Heap) (H : Hp) : Prop := ∀ c ∈ l, c ∉ fs ∧ ∃ ob, h.get? c = some ob ∧ H c = some (.frz ob (.own c))
theorem plus_minus (hc : HeldC l fs h H) : plusC l h (minusC l H) = H := by
  funext b
  by_cases hb : b ∈ l
  · obtain ⟨_, ob, e, q⟩ := hc b hb
    rw [plusC_in hb e, q]
  · rw [plusC_out hb, minusC_out hb]
theorem plusC_congr (k : ∀ c ∈ l, h'.get? c = h.get? c) : plusC l h' H = plusC l h H := by
  funext b
  by_cases hb : b ∈ l
  · unfold plusC
    rw [if_pos hb, if_pos hb, k b hb]
  · rw [plusC_out hb, plusC_out hb]
theorem HeldC.keep (hc : HeldC l fs h H) (un : Un fs [] (minusC l H) H' h h') : ∀ c ∈ l, h'.get? c = h.get? c ∧ H' c = none := fun c hm => by
  obtain ⟨hf, ob, e, q⟩ := hc c hm
  rw [e]
  exact ⟨un.keep c ob e (minusC_in hm) hf (by simp), un.free c ob e (minusC_in hm) (by simp)⟩
theorem HeldC.keepB (hc : HeldC l fs h H) (un : UB fs (minusC l H) H' h B h') : ∀ c ∈ l, B.get? c = h.get? c ∧ H' c = none := fun c hm => by
  obtain ⟨hf, ob, e, q⟩ := hc c hm
  rw [e]
  exact ⟨un.keep c ob e (minusC_in hm) hf, un.free c ob e (minusC_in hm)⟩
theorem hok_back (hc : HeldC l fs h H) (k : ∀ c ∈ l, h'.get? c = h.get? c ∧ H' c = none) (hok : HOk P w H' h') : HOk P w (plusC l h H') h' := by
  rw [← plusC_congr fun c hm => (k c hm).1]
  refine hok_plus hok fun c hm => ⟨(k c hm).2, ?_⟩
  obtain ⟨_, ob, e, _⟩ := hc c hm
  exact ⟨ob, by rw [(k c hm).1]; exact e⟩
theorem un_back (hc : HeldC l fs h H) (un : Un fs [] (minusC l H) H' h h') : Un fs [] H (plusC l h H') h h' := by
  have no : ∀ b : Addr, b ∉ ([] : List Addr) := fun b z => absurd z (by simp)
  have nl : ∀ {b}, H b = none → b ∉ l := fun {b} n hb => by obtain ⟨_, ob, _, q⟩ := hc b hb; rw [n] at q; cases q
  have nt : ∀ {b u}, H b = some u → (∀ ob, u ≠ .frz ob (.own b)) → b ∉ l := fun {b u} e n hb => by obtain ⟨_, ob, _, q⟩ := hc b hb; rw [e] at q; exact n ob (Option.some.inj q)
  refine ⟨fun b o e n hf _ => un.keep b o e (by rw [minusC_out (nl n)]; exact n) hf (no b), fun b o e n hf _ => un.slot b o e (by rw [minusC_out (nl n)]; exact n) hf (no b), fun b o e n _ => ?_, fun b o e _ => un.there b o e (no b), fun b xs e => ?_, fun b o u e => ?_, fun b ps e => ?_⟩
  · rw [plusC_out (nl n)]
    exact un.free b o e (by rw [minusC_out (nl n)]; exact n) (no b)
  · have hb := nt e fun ob z => by cases z
    rw [plusC_out hb]
    exact un.tups b xs (by rw [minusC_out hb]; exact e)
  · by_cases hb : b ∈ l
    · obtain ⟨_, ob, e2, q⟩ := hc b hb
      rw [plusC_in hb e2, ← q, e]
    · rw [plusC_out hb]
      exact un.frzs b o u (by rw [minusC_out hb]; exact e)
  · have hb := nt e fun ob z => by cases z
    rw [plusC_out hb]
    exact un.tbls b ps (by rw [minusC_out hb]; exact e)
theorem ub_back (hc : HeldC l fs h H) (un : UB fs (minusC l H) H' h B h') : UB fs H (plusC l h H') h B h' := by
  have nl : ∀ {b}, H b = none → b ∉ l := fun {b} n hb => by obtain ⟨_, ob, _, q⟩ := hc b hb; rw [n] at q; cases q
  have nt : ∀ {b u}, H b = some u → (∀ ob, u ≠ .frz ob (.own b)) → b ∉ l := fun {b u} e n hb => by obtain ⟨_, ob, _, q⟩ := hc b hb; rw [e] at q; exact n ob (Option.some.inj q)
  refine ⟨fun b o e n hf => un.keep b o e (by rw [minusC_out (nl n)]; exact n) hf, un.slot, fun b o e n => ?_, un.there, fun b xs e => ?_, fun b o u e => ?_, fun b ps e => ?_⟩
  · rw [plusC_out (nl n)]
    exact un.free b o e (by rw [minusC_out (nl n)]; exact n)
  · have hb := nt e fun ob z => by cases z
    rw [plusC_out hb]
    exact un.tups b xs (by rw [minusC_out hb]; exact e)
  · by_cases hb : b ∈ l
    · obtain ⟨_, ob, e2, q⟩ := hc b hb
      rw [plusC_in hb e2, ← q, e]
    · rw [plusC_out hb]
      exact un.frzs b o u (by rw [minusC_out hb]; exact e)
  · have hb := nt e fun ob z => by cases z
    rw [plusC_out hb]
    exact un.tbls b ps (by rw [minusC_out hb]; exact e)
/-- a call's end, the cells put back -/
theorem cr_back {outer : List Env} {s : Shared} {Q : VK} {E : XK} {r : Result} {s' : Shared} (hc : HeldC l (frs outer) s.heap H)
    (h : CR (L2.CX P w) outer P w (minusC l H) s (fun v H' => (∀ c ∈ l, H' c = none) → Q v (plusC l s.heap H')) (fun c d H' => (∀ c ∈ l, H' c = none) → E c d (plusC l s.heap H')) r s') : CR (L2.CX P w) outer P w H s Q E r s' := by
  match r, h with
  | .error e, h =>
    obtain ⟨a, B, H', cls, d, rfl, fl, hok, ub, na, os, ag, q⟩ := (show L2.CX P w outer (minusC l H) s _ e s' from h)
    have k := hc.keepB ub
    refine ⟨a, B, plusC l s.heap H', cls, d, rfl, fl, hok_back hc k hok, ub_back hc ub, ?_, os, ag, q fun c hm => (k c hm).2⟩
    by_cases hb : a ∈ l
    · obtain ⟨_, ob, e2, _⟩ := hc a hb
      have e3 := (k a hb).1
      rw [e2] at e3
      have := fl.2.1
      rw [this] at e3
      cases e3
    · rw [plusC_out hb]
      exact na
  | .ok (.ret u), h =>
    obtain ⟨v, H', os, bare, un, hok, rv, q⟩ := h
    have k := hc.keep un
    exact ⟨v, plusC l s.heap H', os, bare, un_back hc un, hok_back hc k hok, rv, q fun c hm => (k c hm).2⟩
  | .ok .next, h => exact False.elim h
  | .ok .brk, h => exact False.elim h
  | .ok .cont, h => exact False.elim h
end
end DL
/-! DL22: the lambda's body: its frame; the call. -/
namespace DL
open PySem PySem.Spec PyProof.Rows L2
abbrev lamEnvC (q : Str) (cs : List (Str × Addr)) (scope : Scope) (L f c' : Addr) : Env := PySem.W.envX q scope L f (.ref c') (cloFrom cs scope.names [])
/-- the context of the lambda's body -/
def lamC (X : Cx) (q : Str) (cs : List (Str × Addr)) (N : List Str) (A : Around) (outer : List Env) (s : Shared) (H : Hp) (E : XK) (scope : Scope) (f c' : Addr) : Cx where
  prog := X.prog
  w := X.w
  K := X.K
  mg := X.mg
  base := X.base
  A := A.deeper (lamEnvC q cs scope s.heap.objs.size f c')
  N := N
  s_0 := s
  H_0 := H
  env := lamEnvC q cs scope s.heap.objs.size f c'
  outer := outer
  stack := lamEnvC q cs scope s.heap.objs.size f c' :: outer
  ex := []
  fn := fun _ => false
  calm := true
  pn := []
  xe := fun e s' => wpAny (model X.prog X.w) (A.deeper (lamEnvC q cs scope s.heap.objs.size f c')) (leaving (lamEnvC q cs scope s.heap.objs.size f c') e) (fun _ s'' => L2.CX X.prog X.w outer H s E e s'') (fun e' s'' => L2.CX X.prog X.w outer H s E e' s'') s'
/-- the lambda's names: captured ones and globals -/
structure LamN (N : List Str) (scope : Scope) : Prop where
  kind : scope.kind = .function
  co : scope.isCoroutine = false
  gen : scope.isGenerator = false
  own : ∀ y ∈ scope.names, y.2 ≠ .local ∧ y.2 ≠ .cell
  free : ∀ y ∈ scope.names, y.2 = .free → y.1 ∈ N
def lamNB (N : List Str) (scope : Scope) : Bool :=
  decide (scope.kind = .function) && !scope.isCoroutine && !scope.isGenerator && scope.names.all fun y => !decide (y.2 = .local) && !decide (y.2 = .cell) && (!decide (y.2 = .free) || decide (y.1 ∈ N))
theorem lamN_by {N : List Str} {scope : Scope} (h : lamNB N scope = true) : LamN N scope := by
  unfold lamNB at h
  simp only [Bool.and_eq_true, Bool.or_eq_true, Bool.not_eq_true', decide_eq_true_eq, decide_eq_false_iff_not, List.all_eq_true] at h
  obtain ⟨⟨⟨h1, h2⟩, h3⟩, h4⟩ := h
  refine ⟨h1, h2, h3, fun y hy => (h4 y hy).1, fun y hy e => ?_⟩
  rcases (h4 y hy).2 with z | z
  · exact absurd e z
  · exact z
theorem lookup_of_name {cs : List (Str × Addr)} {y : Str} (h : y ∈ cs.map (·.1)) : ∃ c, cs.lookup y = some c := by
  induction cs with
  | nil => simp at h
  | cons p cs ih =>
    obtain ⟨x, c⟩ := p
    rw [List.lookup_cons]
    cases e : y == x with
    | true => exact ⟨c, rfl⟩
    | false =>
      refine ih ?_
      have h : y ∈ x :: cs.map (·.1) := h
      rcases List.mem_cons.mp h with z | z
      · rw [z, beq_self_eq_true] at e
        cases e
      · exact z
section
variable {X : Cx} {cs : List (Str × Addr)} {N : List Str} {σB : L2.St} {HZ : Hp} {s1 : Shared} {q : Str}
theorem lam_start3 {A : Around} {outer : List Env} {E : XK} {scope : Scope} {f c' : Addr} {h₁ : Heap} {tk : Nat} (L : LamN N scope) (hcs : cs.map (·.1) = N) (e0 : Env0 X.prog X.w X.K X.mg X.base A outer s1 HZ) (hd : A.handled = none)
    (hcell : ∀ x c, cs.lookup x = some c → HZ c = none ∧ ∃ v, s1.heap.IsCell c v) (hinj : ∀ x y c, cs.lookup x = some c → cs.lookup y = some c → x = y)
    (hval : ∀ (i : Nat) (x : Str) (v : V), N[i]? = some x → σB[i]? = some (some v) → ∀ c, cs.lookup x = some c → ∃ u, RelV v u ∧ s1.heap.IsCell c (some u)) (hlen : σB.length = N.length)
    (hns : h₁.Ns s1.heap.objs.size fun y => ([] : List (Str × Value)).reverse.lookup y) (kp : ∀ b o, s1.heap.get? b = some o → h₁.get? b = some o) :
    Inv (lamC X q cs N A outer s1 HZ E scope f c') [] σB HZ { s1 with heap := h₁, toks := tk } := by
  have hfree : ∀ y ∈ scope.names, y.2 = .free → ∃ c, cs.lookup y.1 = some c := fun y hy e => lookup_of_name (by rw [hcs]; exact L.free y hy e)
  have cm : ∀ {y c}, (cloFrom cs scope.names []).lookup y = some c → cs.lookup y = some c := fun {y c} e => by
    rcases L2.cloFrom_mem (PySem.mem_of_lookup e) with hm | ⟨h1, h2⟩
    · cases hm
    · obtain ⟨c1, hc⟩ := hfree _ h1 rfl
      have hc : cs.lookup y = some c1 := hc
      have e2 : c = c1 := by
        rw [h2, hc] <;> rfl
      rw [e2]
      exact hc
  have look : ∀ {y}, scope.names.lookup y = some .free → ∃ c, (cloFrom cs scope.names []).lookup y = some c := fun {y} hl => by
    have hy : (y, NameKind.free) ∈ scope.names := PySem.mem_of_lookup hl
    exact L2.mem_lookup (L2.cloFrom_has (cells := cs) (acc := []) hy)
  have noA : ∀ b : Addr, b ∉ (lamC X q cs N A outer s1 HZ E scope f c').ex := fun b z => absurd (show b ∈ ([] : List Addr) from z) (by simp)
  refine ⟨⟨e0.mod, L.kind, rfl, rfl, Nat.le_refl _, fun y z c e1 e2 => hinj y z c (cm e1) (cm e2), fun y hy => ?_, fun y c z _ => ?_, fun _ => hd, Around.frames_deeper e0.frames, .inr ⟨rfl, rfl⟩, fun b z => absurd z (noA b), e0.bs, e0.bsz, fun b _ _ => noA b,
      fun b z => absurd z (noA b), e0.funs, e0.frf⟩,
    rfl, e0.bare, Un.kept kp, ⟨_, hns, fun i y v e1 e2 e3 => ?_⟩, fun y c e => ?_, e0.hok.fresh (Nat.le_refl _), fun y c e => ?_, fun q hq => absurd (show q ∈ ([] : List (Addr × Obj)) ++ [] from hq) (by simp), e0.hok.kept kp, hlen⟩
  · have hy : scope.names.lookup y = some .cell ∨ scope.names.lookup y = some .free := hy
    rcases hy with hy | hy
    · exact absurd rfl (L.own _ (PySem.mem_of_lookup hy)).2
    · exact look hy
  · have z : false = true := z
    cases z
  · have e3 : Vis scope y := e3
    rcases e3 with k | k | k
    · exact absurd rfl (L.own _ (PySem.mem_of_lookup k)).1
    · exact absurd rfl (L.own _ (PySem.mem_of_lookup k)).2
    · obtain ⟨c2, h2⟩ := look k
      obtain ⟨u, ru, z⟩ := hval i y v e1 e2 c2 (cm h2)
      exact ⟨u, ru, .inr ⟨.inr k, c2, h2, z.keeps kp⟩⟩
  · obtain ⟨_, v, z⟩ := hcell y c (cm e)
    exact ⟨v, z.keeps kp⟩
  · exact (hcell y c (cm e)).1
end
section
variable {X : Cx} {pins : List (Addr × Obj)} {σ : L2.St} {H : Hp} {s : Shared} {cs : List (Str × Addr)} {N : List Str} {q : Str}
/-- f(), f a lambda of the frame whose cells are held -/
theorem run_clo {E : XK} {Q : VK} {scope : Scope} {f c' : Addr} {params : Arguments} {body : Expr} {pm ctv : Value} {k : Nat} {σB : L2.St} {tb : XK → TE} (I : Inv X pins σ H s) (L : LamN N scope) (hcs : cs.map (·.1) = N) (hc : HeldC (cs.map (·.2)) (frs X.stack) s.heap H)
    (hof : s.heap.get? f = some (PySem.W.kla_obj "<lambda>" q params body scope (cloFrom cs scope.names []) pm c' ctv)) (hco : ∃ (oc : Obj) (vs : Array Value) (t : Tok), s.heap.get? c' = some oc ∧ oc.data = .fields vs ∧ vs[1]? = some (.str q t))
    (hbind : bindArgs (PySem.W.kla_fn "<lambda>" q params body scope (cloFrom cs scope.names []) pm (.ref c') ctv) ⟨[], []⟩ = pure []) (hr : RoomG (k + 1) X.A) (hx : PassesAt (L2.CX X.prog X.w) X σ E)
    (hinj : ∀ x y c, cs.lookup x = some c → cs.lookup y = some c → x = y) (hcell : ∀ c ∈ cs.map (·.2), ∃ v, s.heap.IsCell c v)
    (hval : ∀ (i : Nat) (x : Str) (v : V), N[i]? = some x → σB[i]? = some (some v) → ∀ c, cs.lookup x = some c → ∃ u, RelV v u ∧ s.heap.IsCell c (some u)) (hlen : σB.length = N.length)
    (hbody : ∀ (A : Around) (outer : List Env) (s : Shared) (H : Hp) (E : XK), RoomG k (A.deeper (lamEnvC q cs scope s.heap.objs.size f c')) → PE (lamC X q cs N A outer s H E scope f c') body (tb E))
    (h : tb (fun c d H' => (∀ b ∈ cs.map (·.2), H' b = none) → E c d (plusC (cs.map (·.2)) s.heap H')) σB (minusC (cs.map (·.2)) H) fun v H' => (∀ b ∈ cs.map (·.2), H' b = none) → Q v (plusC (cs.map (·.2)) s.heap H')) :
    wpAny (model X.prog X.w) X.A (call (.ref f) []) (EP X pins σ Q) X.xe s := by
  have e0 := I.env0
  have e1 : Env0 X.prog X.w X.K X.mg X.base X.A X.stack s (minusC (cs.map (·.2)) H) := by
    have sub : ∀ b, H b = none → minusC (cs.map (·.2)) H b = none := fun b n => by
      by_cases hb : b ∈ cs.map (·.2)
      · exact minusC_in hb
      · rw [minusC_out hb]
        exact n
    exact ⟨e0.frames, e0.mod, fun b o e => ⟨(e0.bs b o e).1, sub b (e0.bs b o e).2⟩, e0.bsz, e0.funs, fun b hb => sub b (e0.frf b hb), hok_minus e0.hok fun c hm => by
      obtain ⟨_, ob, _, q⟩ := hc c hm
      exact ⟨ob, q⟩, e0.bare⟩
  obtain ⟨oc, vs, t, hoc, hdc, hvc⟩ := hco
  have mem : ∀ {x c}, cs.lookup x = some c → c ∈ cs.map (·.2) := fun {x c} e => List.mem_map.mpr ⟨(x, c), PySem.mem_of_lookup e, rfl⟩
  have rc : codeAny (model X.prog X.w) X.A (.call (.ref f) ⟨[], []⟩) (CR (L2.CX X.prog X.w) X.stack X.prog X.w (minusC (cs.map (·.2)) H) s (fun v H' => (∀ b ∈ cs.map (·.2), H' b = none) → Q v (plusC (cs.map (·.2)) s.heap H')) fun c d H' => (∀ b ∈ cs.map (·.2), H' b = none) → E c d (plusC (cs.map (·.2)) s.heap H')) s := by
    refine PySem.W.kla_callFunE hr.rm.depth hof rfl L.co L.gen rfl ⟨c', oc, vs, t, rfl, hoc, hdc, hvc⟩ ?_
    rw [hbind]
    refine wpAny_pure (wpAny_newFunctionEnv (fun y hy => (L.own y hy).2) (fun y hy => absurd hy (by simp)) (fun h₁ hns hsb => ⟨I.nolimit.fresh _ hsb, ?_⟩) L.kind)
    show codeAny _ _ (.expr body (lamEnvC q cs scope s.heap.objs.size f c')) _ _
    have kp : ∀ b o, s.heap.get? b = some o → h₁.get? b = some o := fun b o e => hsb.extBut b o (Nat.ne_of_lt (Heap.lt_size e)) (Heap.get?_push_of_some _ e)
    have J : Inv (lamC X q cs N X.A X.stack s (minusC (cs.map (·.2)) H) (fun c d H' => (∀ b ∈ cs.map (·.2), H' b = none) → E c d (plusC (cs.map (·.2)) s.heap H')) scope f c') [] σB (minusC (cs.map (·.2)) H) { s with heap := h₁, toks := s.toks + ([] : List (Str × Value)).length } :=
      lam_start3 L hcs e1 hr.rm.hd (fun x c e => ⟨minusC_in (mem e), hcell c (mem e)⟩) hinj hval hlen hns kp
    refine PySem.W.kla_codeExpr (wpAny_mono ((hbody _ _ s _ _ ⟨hr.rm.deeper _, hr.gd⟩).run [] _ _ _ _ J h) (fun v s' hq => ?_) fun e s' hq => hq)
    obtain ⟨w', H', J', rv, q⟩ := hq
    exact ⟨w', H', J'.os, J'.bare, J'.base, J'.hok, rv, q⟩
  refine wpAny_call (codeAny_mono rc fun r s' hq => ?_)
  have hq' := cr_back hc hq
  cases r with
  | error e => exact hx pins H s e s' I hq'
  | ok fl =>
    cases fl with
    | ret u => exact I.after hq'
    | next => exact False.elim hq'
    | brk => exact False.elim hq'
    | cont => exact False.elim hq'
end
end DL
/-! DL23: work(), work a lambda of law's frame. -/
namespace DL
open PySem PySem.Spec PyProof.Rows L2
def callLam (lams : List EM) (d : D) : M D := fun st => match d with
  | .clo j _ => match lams[j]? with
    | some mb => match frm st with
      | some (some vals) => match mb vals (st.set 0 (.fr none)) with
        | .ok v st' => match frm st' with
          | some _ => .ok v (st'.set 0 (.fr (some vals)))
          | none => .stuck
        | .exc c ds st' => match frm st' with
          | some _ => .exc c ds (st'.set 0 (.fr (some vals)))
          | none => .stuck
        | .stuck => .stuck
      | _ => .stuck
    | none => .stuck
  | _ => .stuck
def eCallV (i : Nat) (lams : List EM) : EM := fun δ st => match (δ[i]?).join with
  | some d => callLam lams d st
  | none => .stuck
section
variable {T : Tab} {ρ ρ1 ρ' : Rho} {st st1 st' : Store} {H H1 H' : Hp} {h : Heap} {vals : List (Option D)} {l : List Addr}
theorem CellR.facts : ∀ {cs : List (Str × Addr)} {ds : List (Option D)}, CellR T ρ st H cs ds → ∀ c ∈ cs.map (·.2), (∃ ob, H c = some (.frz ob (.own c)) ∧ ∃ u, ob.data = .cell u) ∧ ¬ Live ρ st c ∧ c ∉ ρ.ix
  | [], _, _, c, hc => by simp at hc
  | (_, c0) :: cs, ds, r, c, hc => by
    obtain ⟨d, ds', ob, e1, k, l, hu, hr, r⟩ := r
    have hc : c ∈ c0 :: cs.map (·.2) := hc
    rcases List.mem_cons.mp hc with z | z
    · rw [z]
      exact ⟨⟨ob, k, hu⟩, l⟩
    · exact CellR.facts r c z
theorem CellR.slots : ∀ {cs : List (Str × Addr)} {ds : List (Option D)}, CellR T ρ st H cs ds → ∃ σB : L2.St, σB.length = ds.length ∧ ds.length = cs.length ∧
    (∀ (i : Nat) (d : D), ds[i]? = some (some d) → ∃ x, σB[i]? = some (some x) ∧ R T ρ st H d x) ∧
    (∀ (i : Nat) (p : Str × Addr) (x : V), cs[i]? = some p → σB[i]? = some (some x) → ∃ ob u, H p.2 = some (.frz ob (.own p.2)) ∧ ob.data = .cell (some u) ∧ RelV x u)
  | [], ds, r => by
    have r : ds = [] := r
    subst r
    exact ⟨[], rfl, rfl, fun i d h => by simp at h, fun i p x h => by simp at h⟩
  | (y0, c0) :: cs, ds, r => by
    obtain ⟨d, ds', ob, rfl, k, l, hu, hr, r⟩ := r
    obtain ⟨σB, h1, h2, h3, h4⟩ := CellR.slots r
    cases d with
    | none =>
      refine ⟨none :: σB, by simp [h1], by simp [h2], fun i d h => ?_, fun i p x h e => ?_⟩
      · cases i with
        | zero => simp at h
        | succ i => simpa using h3 i d (by simpa using h)
      · cases i with
        | zero => simp at e
        | succ i => exact h4 i p x (by simpa using h) (by simpa using e)
    | some d0 =>
      obtain ⟨x, u, q1, q2, q3⟩ := hr d0 rfl
      refine ⟨some x :: σB, by simp [h1], by simp [h2], fun i d h => ?_, fun i p y h e => ?_⟩
      · cases i with
        | zero =>
          have h : d0 = d := by simpa using h
          exact ⟨x, rfl, by rw [← h]; exact q3⟩
        | succ i => simpa using h3 i d (by simpa using h)
      · cases i with
        | zero =>
          have h : (y0, c0) = p := by simpa using h
          have e : x = y := by simpa using e
          subst h
          subst e
          exact ⟨ob, u, k, q1, q2⟩
        | succ i => exact h4 i p y (by simpa using h) (by simpa using e)
theorem CellR.move (hR : ∀ d x, R T ρ st H d x → R T ρ1 st1 H1 d x) : ∀ {cs : List (Str × Addr)} {ds : List (Option D)}, CellR T ρ st H cs ds → (∀ c ∈ cs.map (·.2), H1 c = H c ∧ ¬ Live ρ1 st1 c ∧ c ∉ ρ1.ix) → CellR T ρ1 st1 H1 cs ds
  | [], ds, r, _ => r
  | (y, c0) :: cs, ds, r, hc => by
    obtain ⟨d, ds', ob, e1, k, l, hu, hr, r⟩ := r
    obtain ⟨z1, z2⟩ := hc c0 List.mem_cons_self
    refine ⟨d, ds', ob, e1, by rw [z1]; exact k, z2, hu, fun d0 h0 => ?_, CellR.move hR r fun c hm => hc c (List.mem_cons_of_mem _ hm)⟩
    obtain ⟨x, u, q1, q2, q3⟩ := hr d0 h0
    exact ⟨x, u, q1, q2, hR _ _ q3⟩
/-- behind the lambda: the frame is told again -/
theorem frame_back {o' : Option (List (Option D))} (hl : l = T.fl.cs.map (·.2)) (m : Mt T ρ st H) (hf : st[0]? = some (.fr (some vals))) (cr : CellR T ρ st H T.fl.cs vals) (hh : ∀ c ∈ l, ∃ ob, h.get? c = some ob ∧ H c = some (.frz ob (.own c)))
    (tv : TrV ρ st H ρ (st.set 0 (.fr none)) (minusC l H)) (e' : Ext ρ (st.set 0 (.fr none)) (minusC l H) ρ' st' H') (m' : Mt T ρ' st' H') (hf' : st'[0]? = some (.fr o')) (hn : ∀ c ∈ l, H' c = none) :
    Mt T ρ' (st'.set 0 (.fr (some vals))) (plusC l h H') ∧ Tr ρ' st' H' ρ' (st'.set 0 (.fr (some vals))) (plusC l h H') ∧ Ext ρ st H ρ' (st'.set 0 (.fr (some vals))) (plusC l h H') := by
  have out : ∀ b u, H' b = some u → plusC l h H' b = some u := fun b u e => by
    rw [plusC_out fun hb => by rw [hn b hb] at e; cases e]
    exact e
  have fac := cr.facts
  have tr0 : Tr ρ' st' H' ρ' (st'.set 0 (.fr (some vals))) (plusC l h H') := ⟨fun _ _ k => k, fun a u e _ k z => k ((Live.frame hf').mp z), fun a u e _ _ => out a u e, fun _ _ _ _ _ n => n⟩
  have eq : ∀ c ∈ l, plusC l h H' c = H c := fun c hm => by
    obtain ⟨ob, e, q⟩ := hh c hm
    rw [plusC_in hm e, q]
  have nl : ∀ c ∈ l, ¬ Live ρ' (st'.set 0 (.fr (some vals))) c := fun c hm z => m'.notLive (hn c hm) ((Live.frame hf').mp z)
  have cr' : CellR T ρ' (st'.set 0 (.fr (some vals))) (plusC l h H') T.fl.cs vals :=
    CellR.move (fun d x r => R.tr tr0 d x (R.ext e' d x (R.trv tv d x r))) cr fun c hm => by
      rw [← hl] at hm
      exact ⟨eq c hm, nl c hm, m'.nin (hn c hm)⟩
  obtain ⟨m3, _⟩ := m'.enter hf' hn cr'
  refine ⟨m3, tr0, e'.pre, e'.pvs, fun a lp => ?_, fun a o e pl lv z => ?_, fun a o e pl lv => ?_, fun a o e pl hx => ?_⟩
  · have na : a ∉ l := fun hm => (fac a (by rw [← hl]; exact hm)).2.1 (.inr lp)
    rw [plusC_out na, e'.hid a lp, minusC_out na]
  · by_cases hm : a ∈ l
    · exact nl a hm z
    · exact e'.live a o (by rw [minusC_out hm]; exact e) pl (fun z2 => lv ((Live.frame hf).mp z2)) ((Live.frame hf').mp z)
  · by_cases hm : a ∈ l
    · rw [eq a hm]
      exact e
    · rw [plusC_out hm]
      exact e'.stay a o (by rw [minusC_out hm]; exact e) pl fun z2 => lv ((Live.frame hf).mp z2)
  · by_cases hm : a ∈ l
    · exact absurd hx (m'.nin (hn a hm))
    · exact e'.nix a o (by rw [minusC_out hm]; exact e) pl hx
end
/-- law's names in their order -/
structure FlOk (fl : Fls) (N : List Str) : Prop where
  hcs : fl.cs.map (·.1) = N
  hnd : N.Nodup
  hinj : ∀ x y c, fl.cs.lookup x = some c → fl.cs.lookup y = some c → x = y
theorem lookup_at {cs : List (Str × Addr)} : ∀ {i : Nat} {x : Str} {c : Addr}, (cs.map (·.1)).Nodup → cs[i]? = some (x, c) → cs.lookup x = some c := by
  induction cs with
  | nil => intro i x c _ h; simp at h
  | cons p cs ih =>
    intro i x c hn h
    obtain ⟨y, d⟩ := p
    have hn : (y :: cs.map (·.1)).Nodup := hn
    cases i with
    | zero =>
      have h : y = x ∧ d = c := by simpa using h
      rw [h.1, h.2, List.lookup_cons, beq_self_eq_true]
    | succ i =>
      have h : cs[i]? = some (x, c) := by simpa using h
      have hx : x ∈ cs.map (·.1) := List.mem_map.mpr ⟨(x, c), List.mem_of_getElem? h, rfl⟩
      rw [List.lookup_cons]
      cases e : x == y with
      | true =>
        rw [eq_of_beq e] at hx
        exact absurd hx (List.nodup_cons.mp hn).1
      | false => exact ih (List.nodup_cons.mp hn).2 h
/-- the lambdas of the text and what their bodies compute -/
def LamsOk (X : Cx) (fl : Fls) (N : List Str) (k : Nat) (lams : List EM) : Prop := ∀ (j : Nat) (ps : Arguments) (body : Expr) (sc : Scope) (mb : EM), fl.lm[j]? = some (ps, body, sc) → lams[j]? = some mb → LamN N sc ∧
  (∀ (pm : Value) (c' : Addr) (ctv : Value), bindArgs (PySem.W.kla_fn "<lambda>" fl.q ps body sc (cloFrom fl.cs sc.names []) pm (.ref c') ctv) ⟨[], []⟩ = pure []) ∧
  ∀ (A : Around) (outer : List Env) (s : Shared) (H : Hp) (E : XK) (f c' : Addr), RoomG k (A.deeper (lamEnvC fl.q fl.cs sc s.heap.objs.size f c')) → DE (lamC X fl.q fl.cs N A outer s H E sc f c') fl (wx E) body mb
section
variable {X : Cx} {fl : Fls} {Wx : WX} {N : List Str} {k i : Nat} {a : Str} {p1 p2 : Pos} {lams : List EM}
theorem de_callV (tk : Takes X Wx) (hr : RoomG (k + 1) X.A) (FO : FlOk fl N) (LO : LamsOk X fl N k lams) (hN : X.N[i]? = some a) (hv : Vis X.env.scope a) (hd : (a == ("__debug__" : Str)) = false := by decide) (hcd : (a == ("__classdict__" : Str)) = false := by decide) :
    DE X fl Wx (.Call (.Name a p1) [] [] p2) (eCallV i lams) := by
  refine ⟨fun pins s σ H Q I ⟨ρ, δ, st, mt, en, h⟩ => ?_⟩
  unfold eCallV at h
  dsimp only at h
  cases qd : (δ[i]?).join with
  | none => rw [qd] at h; exact False.elim h
  | some d =>
    rw [qd] at h
    have hδ : δ[i]? = some (some d) := by
      cases q : δ[i]? with
      | none => rw [q] at qd; cases qd
      | some o =>
        rw [q] at qd
        have qd : o = some d := qd
        rw [qd]
    obtain ⟨y, hσ, ry⟩ := en.get i d hδ
    unfold callLam at h
    cases d with
    | clo j xs =>
      dsimp only at h
      cases ql : lams[j]? with
      | none => rw [ql] at h; exact False.elim h
      | some mb =>
        rw [ql] at h
        dsimp only at h
        cases qf : frm st with
        | none => rw [qf] at h; exact False.elim h
        | some o =>
          cases o with
          | none => rw [qf] at h; exact False.elim h
          | some vals =>
            rw [qf] at h
            dsimp only at h
            have hf := frm_some qf
            simp only [R] at ry
            obtain ⟨f, ps, body, sc, pm, c', ctv, rfl, e2, k1, l1, k2, l2⟩ := ry
            obtain ⟨LN, hbind, hbody⟩ := LO j ps body sc mb e2 ql
            have hlt : 0 < ρ.ix.length := by rw [mt.len]; exact (List.getElem?_eq_some_iff.mp hf).1
            have h0 : ρ.ix[0]? = some (ρ.ix[0]) := List.getElem?_eq_getElem hlt
            have cr : CellR (XT X fl) ρ st H fl.cs vals := (mt.obj 0 (ρ.ix[0]) (.fr (some vals)) h0 hf).2.2
            have fac := cr.facts
            obtain ⟨m2, tv⟩ := mt.leave hf fun c hm => ⟨⟨_, (fac c hm).1.choose_spec.1⟩, (fac c hm).2.2, fun z => (fac c hm).2.1 (.inr z)⟩
            refine wpAny_Call_Name_kw (thn ((pe_var (pos := p1) (i := i) hN hv hd hcd).run pins s σ H (fun v H1 => v = .ref f ∧ H1 = H) I ⟨.ref f, hσ, rfl, rfl⟩) fun u s1 ⟨v, H1, I1, r1, q1⟩ => ?_)
            obtain ⟨ev, eH⟩ := q1
            subst ev
            subst eH
            obtain rfl : u = Value.ref f := r1
            have of1 := (I1.hok f _ k1).1
            have oc1 := (I1.hok c' _ k2).1
            refine PySem.W.callWith_F0 ⟨_, _, _, _, of1⟩ ?_
            have held : HeldC (fl.cs.map (·.2)) (frs X.stack) s1.heap H1 := fun c hm => by
              obtain ⟨⟨ob, q, _⟩, _⟩ := fac c hm
              refine ⟨fun hz => ?_, ob, (I1.hok c _ q).1, q⟩
              rw [I1.stkFree c hz] at q
              cases q
            obtain ⟨σB, z1, z2, z3, z4⟩ := cr.slots
            have hNl : fl.cs.length = N.length := by rw [← FO.hcs, List.length_map]
            refine run_clo (tb := fun E => tD (XT X fl) (wx E) mb) I1 LN FO.hcs held of1 oc1 (hbind pm c' ctv) hr (passAt tk σ) FO.hinj (fun c hm => ?_) (fun j2 x v e1 e3 c hc => ?_) (by rw [z1, z2, hNl]) (fun A outer s H E hr' => hbody A outer s H E f c' hr') ?_
            · obtain ⟨⟨ob, q, u, hu⟩, _⟩ := fac c hm
              exact ⟨u, ob, (I1.hok c _ q).1, hu⟩
            · have e1 : (fl.cs.map (·.1))[j2]? = some x := by rw [FO.hcs]; exact e1
              rw [List.getElem?_map] at e1
              cases qp : fl.cs[j2]? with
              | none => rw [qp] at e1; cases e1
              | some p =>
                rw [qp] at e1
                have e1 : p.1 = x := Option.some.inj e1
                obtain ⟨ob, u, w1, w2, w3⟩ := z4 j2 p v qp e3
                have w4 := lookup_at (i := j2) (x := p.1) (c := p.2) (by rw [FO.hcs]; exact FO.hnd) qp
                rw [e1, hc] at w4
                cases w4
                exact ⟨u, w3, ob, (I1.hok _ _ w1).1, w2⟩
            · refine ⟨ρ, vals, _, m2, ⟨z1.symm, fun i2 d2 e => ?_⟩, ?_⟩
              · obtain ⟨x, w1, w2⟩ := z3 i2 d2 e
                exact ⟨x, w1, R.trv tv d2 x w2⟩
              have hh : ∀ c ∈ fl.cs.map (·.2), ∃ ob, s1.heap.get? c = some ob ∧ H1 c = some (.frz ob (.own c)) := fun c hm => (held c hm).2
              show Post _ _ _ _ _ _ _ (mb vals (st.set 0 (.fr none)))
              cases qm : mb vals (st.set 0 (.fr none)) with
              | stuck => rw [qm] at h; exact False.elim h
              | ok v st' =>
                rw [qm] at h
                dsimp only at h
                cases qg : frm st' with
                | none => rw [qg] at h; exact False.elim h
                | some o' =>
                  rw [qg] at h
                  dsimp only at h
                  intro ρ' H' e' m' x rx hn
                  obtain ⟨m3, t3, e3⟩ := frame_back (T := XT X fl) (h := s1.heap) rfl mt hf cr hh tv e' m' (frm_some qg) hn
                  exact h ρ' _ e3 m3 x (R.tr t3 v x rx)
              | exc c ds st' =>
                rw [qm] at h
                dsimp only at h
                cases qg : frm st' with
                | none => rw [qg] at h; exact False.elim h
                | some o' =>
                  rw [qg] at h
                  dsimp only at h
                  intro ρ' H' C dd vs e' m' hca hdd hnl rv hn
                  obtain ⟨m3, t3, e3⟩ := frame_back (T := XT X fl) (h := s1.heap) rfl mt hf cr hh tv e' m' (frm_some qg) hn
                  refine h ρ' _ C dd vs e3 m3 hca ?_ (fun z => hnl ((Live.frame (frm_some qg)).mp z)) (RAll.tr t3 _ _ rv)
                  rw [plusC_out fun hm => by rw [hn dd hm] at hdd; cases hdd]
                  exact hdd
    | _ => exact False.elim h
end
end DL
/-! DL24: a lambda is made in law's frame. -/
namespace DL
open PySem PySem.Spec PyProof.Rows L2
def eLam (k : Nat) : EM := fun _ st => match frm st with
  | some none => .ok (.clo k []) st
  | _ => .stuck
/-- the function object of a lambda -/
def LamO (q : Str) (params : Arguments) (body : Expr) (scope : Scope) (cells : List (Str × Addr)) (f : Addr) (pm : Value) (c' : Addr) (ctv : Value) : HO := .ext fun h => h.get? f = some (PySem.W.kla_obj "<lambda>" q params body scope cells pm c' ctv)
section
variable {X : Cx} {pins : List (Addr × Obj)} {σ : L2.St} {H : Hp} {s : Shared}
theorem lamO_ok {H : Hp} {h : Heap} {q : Str} {params : Arguments} {body : Expr} {scope : Scope} {cells : List (Str × Addr)} {f : Addr} {pm : Value} {c' : Addr} {ctv : Value} (e : h.get? f = some (PySem.W.kla_obj "<lambda>" q params body scope cells pm c' ctv)) :
    ObjOk X.prog X.w H h f (LamO q params body scope cells f pm c' ctv) := ⟨e, ⟨_, e⟩, fun h1 h2 a st => st _ a⟩
/-- the lambda is made; Z: what is told of the code objects that are known -/
theorem lam_make3 {Z : Addr → Prop} {ps : Array Value} {c P : Addr} {q : Str} {params : Arguments} {body : Expr} {scope : Scope} {pos : Pos} {E : Value → Shared → Prop} {Q : Value → Shared → Prop} (I : Inv X pins σ H s) (TB : LamX.TabB X.base X.mg c P) (hcode : X.env.code = .ref c)
    (hq : X.env.qual ++ "<lambda>" = q) (hP : H P = some (.tbl ps)) (ht : TriplesOk ps.toList) (ha : ∀ (pos : Pos) (cv : Value), codeAmong pos ps.toList = some cv → ∃ c, cv = .ref c ∧ H c = some (LamX.CodeO c q) ∧ Z c) (hZ : ∀ b, H b = none → Z b)
    (hdef : defaultsOf params X.env = ([], [])) (hfree : ∀ y ∈ scope.names, y.2 = .free → ∃ c, X.env.cells.lookup y.1 = some c)
    (h : ∀ (f c' : Addr) (pm ctv : Value) (H1 : Hp) (ps' : Array Value) (s' : Shared), Inv X pins σ H1 s' → (∀ b o, b ≠ P → H b = some o → H1 b = some o) → H f = none → H1 f = some (LamO q params body scope (cloFrom X.env.cells scope.names []) f pm c' ctv) →
      H1 c' = some (LamX.CodeO c' q) → Z c' → H1 P = some (.tbl ps') → TriplesOk ps'.toList → (∀ (pos : Pos) (cv : Value), codeAmong pos ps'.toList = some cv → ∃ c, cv = .ref c ∧ H1 c = some (LamX.CodeO c q) ∧ Z c) → Q (.ref f) s') :
    wpAny (model X.prog X.w) X.A (eval (.Lambda params body scope pos) X.env) Q E s := by
  subst hq
  refine PySem.W.kla_eval hdef ?_
  have bP : s.heap.BuiltinsAt X.mg P := TB.bm.keeps I.bk
  have hP' : s.heap.get? P = some { cls := .none, data := .fields ps } := I.hok P _ hP
  cases hc : codeAmong pos ps.toList with
  | none =>
    refine PySem.W.kla_makeFunction (mg := X.mg) (c := c) (P := P) (ps := ps) (closure_ok hfree) I.ok.glob (I.mod.glob.keeps I.bk) hcode (TB.code.keeps I.bk) hP' ht hc TB.gP bP fun c' ctv h' tk hx hge hlt hrec htb => ?_
    obtain ⟨c2, oc, vs, t, e2, hoc, hd, hv⟩ := hrec
    cases e2
    have hsz : s.heap.objs.size ≤ h'.objs.size := Nat.le_trans hge (Nat.le_of_lt hlt)
    have nC : H c' = none := I.hok.fresh hge
    have nF : H h'.objs.size = none := I.hok.fresh hsz
    have I1 := LamX.inv_table (t' := tk) (more := #[rawInt pos.line, rawInt pos.col, .ref c']) (h' := h') I hP (fun b o hb e => hx b o hb e) htb hge ⟨oc, vs, t, hoc, hd, hv⟩
    have I2 := I1.laid (t' := tk) (a := h'.objs.size) (o := LamO (X.env.qual ++ "<lambda>") params body scope (cloFrom X.env.cells scope.names []) h'.objs.size ((X.mg "__name__").getD .none) c' ctv) (fun b u e => Heap.get?_push_of_some _ e) (Nat.le_refl _) (lamO_ok (Heap.get?_push_size _ rfl))
    have n1 : c' ≠ h'.objs.size := Nat.ne_of_lt hlt
    have n2 : P ≠ h'.objs.size := ne_of_none hP nF
    have n3 : P ≠ c' := ne_of_none hP nC
    have keep : ∀ b o, b ≠ P → H b = some o → upd (upd (upd H P (.tbl (ps ++ #[rawInt pos.line, rawInt pos.col, .ref c']))) c' (LamX.CodeO c' (X.env.qual ++ "<lambda>"))) h'.objs.size (LamO (X.env.qual ++ "<lambda>") params body scope (cloFrom X.env.cells scope.names []) h'.objs.size ((X.mg "__name__").getD .none) c' ctv) b = some o := fun b o hb e => by
      rw [upd_ne (ne_of_none e nF), upd_ne (ne_of_none e nC), upd_ne hb]
      exact e
    have eL : (ps ++ #[rawInt pos.line, rawInt pos.col, .ref c']).toList = ps.toList ++ [rawInt pos.line, rawInt pos.col, .ref c'] := by simp
    refine h h'.objs.size c' ((X.mg "__name__").getD .none) ctv _ (ps ++ #[rawInt pos.line, rawInt pos.col, .ref c']) _ I2 keep nF upd_same (by rw [upd_ne n1, upd_same]) (hZ c' nC) (by rw [upd_ne n2, upd_ne n3, upd_same]) (by rw [eL]; exact PySem.TriplesOk_snoc _ _ _ _ ht) fun p' cv hcv => ?_
    rw [eL] at hcv
    rcases LamX.among_app _ ht hcv with z | z
    · obtain ⟨c0, e1, e2, e3⟩ := ha p' cv z
      exact ⟨c0, e1, keep _ _ (fun y => by rw [y, hP] at e2; exact LamX.codeO_ne _ (Option.some.inj e2).symm) e2, e3⟩
    · exact ⟨c', z, by rw [upd_ne n1, upd_same], hZ c' nC⟩
  | some cv =>
    obtain ⟨c', e, hco, hz⟩ := ha pos cv hc
    subst e
    refine PySem.W.kla_makeFunctionHit (mg := X.mg) (c := c) (P := P) (ps := ps) (closure_ok hfree) I.ok.glob (I.mod.glob.keeps I.bk) hcode (TB.code.keeps I.bk) hP' ht hc bP fun ctv h' tk hx hsz => ?_
    have nF : H h'.objs.size = none := I.hok.fresh hsz
    have I1 : Inv X pins σ H { s with heap := h', toks := tk } := I.kept hx
    have I2 := I1.laid (t' := tk) (a := h'.objs.size) (o := LamO (X.env.qual ++ "<lambda>") params body scope (cloFrom X.env.cells scope.names []) h'.objs.size ((X.mg "__name__").getD .none) c' ctv) (fun b u e => Heap.get?_push_of_some _ e) (Nat.le_refl _) (lamO_ok (Heap.get?_push_size _ rfl))
    have keep : ∀ b o, H b = some o → upd H h'.objs.size (LamO (X.env.qual ++ "<lambda>") params body scope (cloFrom X.env.cells scope.names []) h'.objs.size ((X.mg "__name__").getD .none) c' ctv) b = some o := fun b o e => by
      rw [upd_ne (ne_of_none e nF)]
      exact e
    exact h h'.objs.size c' ((X.mg "__name__").getD .none) ctv _ ps _ I2 (fun b o _ e => keep b o e) nF upd_same (keep _ _ hco) hz (keep _ _ hP) ht fun p' cv hcv => let ⟨c0, e1, e2, e3⟩ := ha p' cv hcv; ⟨c0, e1, keep _ _ e2, e3⟩
end
section
variable {X : Cx} {fl : Fls} {Wx : WX} {params : Arguments} {body : Expr} {scope : Scope} {pos : Pos} {k : Nat} {c : Addr}
theorem de_lam (TB : LamX.TabB X.base X.mg c fl.tb) (hcode : X.env.code = .ref c) (hq : X.env.qual ++ "<lambda>" = fl.q) (hk : fl.lm[k]? = some (params, body, scope)) (hcs : X.env.cells = fl.cs) (hdef : defaultsOf params X.env = ([], [])) (hfree : ∀ y ∈ scope.names, y.2 = .free → y.1 ∈ fl.cs.map (·.1)) :
    DE X fl Wx (.Lambda params body scope pos) (eLam k) := by
  refine ⟨fun pins s σ H Q I ⟨ρ, δ, st, mt, en, h⟩ => ?_⟩
  unfold eLam at h
  dsimp only at h
  cases qf : frm st with
  | none => rw [qf] at h; exact False.elim h
  | some o =>
    cases o with
    | some _ => rw [qf] at h; exact False.elim h
    | none =>
      rw [qf] at h
      dsimp only at h
      have hf := frm_some qf
      have hlt : 0 < ρ.ix.length := by rw [mt.len]; exact (List.getElem?_eq_some_iff.mp hf).1
      have h0 : ρ.ix[0]? = some (ρ.ix[0]) := List.getElem?_eq_getElem hlt
      obtain ⟨eP, ⟨ps, hP, ht, ha⟩, _⟩ := mt.obj 0 (ρ.ix[0]) (.fr none) h0 hf
      have eP : ρ.ix[0] = fl.tb := eP
      rw [eP] at hP h0
      refine lam_make3 (Z := fun b => ¬ Live ρ st b) I TB hcode hq hP ht ha (fun b n => mt.notLive n) hdef (fun y hy e => by rw [hcs]; exact lookup_of_name (hfree y hy e)) fun f c' pm ctv H1 ps' s' I1 keep nF eF eC zC eP2 ht' ha' => ?_
      have tr : Tr ρ st H ρ st H1 := ⟨fun _ _ k => k, fun _ _ _ _ k => k, fun a u e pl _ => keep a u (fun z => by rw [z, hP] at e; exact pl ps (Option.some.inj e).symm) e, fun _ _ _ _ _ n => n⟩
      have thr : ∀ a, (∃ u, H a = some u) → ∃ u, H1 a = some u := fun a ⟨u, e⟩ => by
        by_cases z : a = fl.tb
        · exact ⟨_, by rw [z]; exact eP2⟩
        · exact ⟨u, keep a u z e⟩
      have lP : Live ρ st fl.tb := .inl ⟨0, _, h0, hf, by intro z; cases z⟩
      have m1 : Mt (XT X fl) ρ st H1 := by
        refine ⟨mt.len, mt.nd, fun a ha => thr a (mt.trk a ha), fun a ha => thr a (mt.ptr a ha), mt.dj, fun i a so h1 h2 => ?_⟩
        by_cases hi : 0 = i
        · subst hi
          rw [h0] at h1
          cases h1
          rw [hf] at h2
          cases h2
          exact ⟨rfl, ⟨ps', eP2, ht', ha'⟩, True.intro⟩
        · have na : a ≠ fl.tb := fun z => by
            obtain ⟨l1, e1⟩ := List.getElem?_eq_some_iff.mp h0
            obtain ⟨l2, e2⟩ := List.getElem?_eq_some_iff.mp h1
            exact hi ((List.getElem_inj mt.nd).mp (e1.trans (z.symm.trans e2.symm)))
          by_cases hd : so = .dead
          · subst hd
            trivial
          · obtain ⟨u, e⟩ := mt.live (.inl ⟨i, so, h1, h2, hd⟩)
            exact RObj.tr tr (mt.obj i a so h1 h2) (by rw [keep a u na e, e])
      have e1 : Ext ρ st H ρ st H1 := ⟨fun _ _ k => k, fun _ k => k, fun a l => ?_, tr.live, tr.stay, fun _ _ _ _ k => k⟩
      · refine ⟨.ref f, H1, I1, rfl, h ρ H1 e1 m1 (.ref f) ?_⟩
        simp only [R]
        exact ⟨f, params, body, scope, pm, c', ctv, rfl, hk, by rw [← hcs]; exact eF, mt.notLive nF, eC, zC⟩
      · obtain ⟨u, e⟩ := mt.ptr a l
        rw [keep a u (fun z => mt.dj a l (by rw [z]; exact List.mem_of_getElem? h0)) e, e]
end
end DL
/-! DL25: the end of a law that makes lambdas. -/
namespace DL
open PySem PySem.Spec PyProof.Rows L2
/-- the promise of law: the script is told, the table is new -/
def spLaw (K : PySem.W.Frag) (tb : Addr) (ns : List Int) : Sp := fun vs H Q _ => ∃ a, vs = [.ref a] ∧ a ≠ tb ∧ H tb = some (.tbl #[]) ∧ ((∃ o, H a = some (.frz o (.lst (ns.map V.int)))) ∨ ∀ H', SqL K H' a (ns.map V.int)) ∧ ∀ H', Q (.bl true) H'
section
variable {P : Program} {w : World} {K : PySem.W.Frag} {mg : Str → Option Value} {base : Heap} {k : Nat}
/-- the tables of law's run, entered where n objects are -/
abbrev flAt (flT : Str → List Str) (tb : Addr) (q : Str) (lm : List (Arguments × Expr × Scope)) (sc : Scope) (n : Nat) : Fls := ⟨flT, cellsFrom (n + 1) sc.names [], tb, q, lm⟩
theorem fnL_of {x qual y : Str} {st : Stmt} {f c tb : Addr} {fd : FuncData} {N : List Str} {mm : SM} {flT : Str → List Str} {qn : Str} {lm : List (Arguments × Expr × Scope)} {ns : List Int} (F : Fun K x qual st f fd) (S : FnScope N [y] (defScope st)) (hc : fd.code = .ref c)
    (hb : ∀ (A : Around) (outer : List Env) (s : Shared) (H : Hp) (E : XK), RoomG k (A.deeper (envOfC qual (defScope st) s.heap.objs.size f (.ref c))) →
      DSs (cxOf (L2.CX P w) P w K mg base N qual (defScope st) f (.ref c) A outer s H E) (flAt flT tb qn lm (defScope st) s.heap.objs.size) E (defBody st) mm)
    (hm : ∃ st', fn N.length mm [.scr ns] [.fr none] = .ok (.bl true) st') : FnG P w K mg base (k + 1) f fd [y] (spLaw K tb ns) := by
  obtain ⟨oc, od, kV, doc, pm, an, cdv, ct, osl, rfl, lk, hcd⟩ := F.ex
  have hc : cdv = .ref c := hc
  subst hc
  refine ⟨fun vs H Q E h => ?_, fun A outer s H args us vs Q E hr e0 hbd r hsp => LamX.run_ofS lk hcd S hr.rm e0 hbd r ?_ fun hr' => ⟨_, hb A outer s H E ⟨hr', hr.gd⟩, ?_⟩⟩
  · obtain ⟨a, rfl, _⟩ := h
    rfl
  · obtain ⟨a, rfl, _⟩ := hsp
    rfl
  · obtain ⟨a, rfl, nat, ht, hs, q⟩ := hsp
    obtain ⟨st', hm⟩ := hm
    have rr : RAll (XT (cxOf (L2.CX P w) P w K mg base N qual (defScope st) f (.ref c) A outer s H E) (flAt flT tb qn lm (defScope st) s.heap.objs.size)) ⟨[tb], fun _ => False⟩ [.fr none] H [.scr ns] [.ref a] := by
      refine .cons ?_ .nil
      simp only [R]
      refine ⟨a, rfl, ?_⟩
      rcases hs with ⟨o, e⟩ | e
      · refine .inl ⟨o, e, fun z => ?_⟩
        rcases z with ⟨i, o, h1, _, _⟩ | z
        · have := List.mem_of_getElem? h1
          exact nat (by simpa using this)
        · exact z
      · exact .inr e
    have hp : Post (XT (cxOf (L2.CX P w) P w K mg base N qual (defScope st) f (.ref c) A outer s H E) (flAt flT tb qn lm (defScope st) s.heap.objs.size)) ⟨[tb], fun _ => False⟩ [.fr none] H [] (wx E) (fun v _ _ _ => v = .bl true) ((mm (startD N.length [.scr ns]) >>= outOf) [.fr none]) := by
      show Post _ _ _ _ _ _ _ (fn N.length mm [.scr ns] [.fr none])
      rw [hm]
      exact fun ρ' H' _ _ => rfl
    refine ⟨⟨[tb], fun _ => False⟩, _, [.fr none], ?_, start_ok rr, (Post.bind hp).sig.monoE fun p ρ1 st1 H1 e1 m1 h1 => ?_⟩
    · refine ⟨rfl, by simp, fun b hb => ?_, fun _ z => z.elim, fun _ z => z.elim, fun i b o h1 h2 => ?_⟩
      · have e : b = tb := by simpa using hb
        rw [e]
        exact ⟨_, ht⟩
      · have e : b = tb := by simpa using List.mem_of_getElem? h1
        have e2 : o = .fr none := by simpa using List.mem_of_getElem? h2
        subst e
        subst e2
        refine ⟨rfl, ⟨#[], ht, True.intro, fun pos cv hcv => ?_⟩, True.intro⟩
        simp [codeAmong] at hcv
    · obtain ⟨fl, δ⟩ := p
      have fin : ∀ {v : D}, v = .bl true → ∀ x, R (XT (cxOf (L2.CX P w) P w K mg base N qual (defScope st) f (.ref c) A outer s H E) (flAt flT tb qn lm (defScope st) s.heap.objs.size)) ρ1 st1 H1 v x → Q x H1 := fun {v} hv x rx => by
        subst hv
        rw [R.bl_of rx]
        exact q H1
      cases fl with
      | ret d => exact fun x rx => fin (h1 ρ1 H1 .refl m1) x rx
      | next => exact fun σ' _ => fin (v := .non) (h1 ρ1 H1 .refl m1) .non R.non
      | brk => exact fun σ' _ => h1
      | cont => exact fun σ' _ => h1
end
end DL
/-! DL26: the end of a law that makes lambdas: from outside. -/
namespace DL
open PySem PySem.Spec PyProof.Rows L2
theorem enterT {P : Program} {w : World} {K : PySem.W.Frag} {mg mb : Str → Option Value} {k : Nat} {fa a c tb : Addr} {fd : FuncData} {x : Str} {s₁ : Shared} {vs : List Value} {ns : List Int}
    (KX : K.In s₁.heap) (hns : s₁.heap.Ns mainGlobals mg) (hb : s₁.heap.Ns builtinsNs mb) (hbb : ∀ x : Str, x ≠ "__name__" → mb x = bootBuiltins x) (hlim : s₁.heap.NoLimit) (hsm : ∃ mm, s₁.heap.Ns sysModules mm) (hg : s₁.gens = #[])
    (hT : s₁.heap.get? tb = some { cls := .none, data := .fields #[] }) (nT : K.lookup tb = none) (C : PySem.W.CodeHd s₁.heap c tb)
    (hbm : ∃ (bm : Addr) (ob : Obj), mg "__builtins__" = some (.ref bm) ∧ bm ≠ builtinsNs ∧ s₁.heap.get? bm = some ob ∧ ob.cls = .type "module" ∧ ob.dict = some builtinsNs ∧ ob.data = .plain)
    (ha : s₁.heap.get? a = some { cls := .type "list", data := .seq vs.toArray }) (hi : IntsAre vs ns) (hl : ns.length ≤ sizeLine) (hr : RoomG k callerA)
    (F : ∀ base : Heap, K.In base → base.Ns mainGlobals mg → SysB base → LamX.TabB base mg c tb → FnG P w K mg base k fa fd [x] (spLaw K tb ns)) (hbind : ∀ (s : Shared) (u : Value), BindsTo s fd ⟨[u], []⟩ [(x, u)]) :
    codeAny (model P w) callerA (.call (.ref fa) ⟨[.ref a], []⟩) (fun r s' => r = .ok (.ret (.bool true)) ∧ OldK s₁.heap s'.heap ∧ s'.os = s₁.os ∧ AllBare s'.gens) s₁ := by
  classical
  have rv := vals_ints hi
  have lenV := hi.length
  have aT : a ≠ tb := fun z => by
    rw [z, hT] at ha
    have z' : Data.fields #[] = Data.seq vs.toArray _ := congrArg Obj.data (Option.some.inj ha)
    cases z'
  obtain ⟨H, hH⟩ : ∃ H : Hp, H = fun b => if b = tb then some (.tbl #[]) else if b = a ∧ K.lookup a = none then some (.frz { cls := .type "list", data := .seq vs.toArray } (.lst (ns.map V.int))) else none := ⟨_, rfl⟩
  have Htb : H tb = some (.tbl #[]) := by rw [hH]; exact if_pos rfl
  have hat : ∀ b u, H b = some u → (b = tb ∧ u = .tbl #[]) ∨ (b = a ∧ K.lookup a = none ∧ u = .frz { cls := .type "list", data := .seq vs.toArray } (.lst (ns.map V.int))) := fun b u q => by
    rw [hH] at q
    dsimp only at q
    split at q
    · rename_i hc
      exact .inl ⟨hc, (Option.some.inj q).symm⟩
    · split at q
      · rename_i hc
        exact .inr ⟨hc.1, hc.2, (Option.some.inj q).symm⟩
      · cases q
  have hok : HOk P w H s₁.heap := fun b u q => by
    rcases hat b u q with ⟨rfl, rfl⟩ | ⟨rfl, _, rfl⟩
    · exact hT
    · exact ⟨ha, by rw [List.length_map]; exact hl, vs, _, rv, ha⟩
  have plainB : ∀ {b : Addr} {o : Obj}, s₁.heap.get? b = some o → (∀ its n, o.data ≠ .seq its n) → o.data ≠ .fields #[] → H b = none := fun {b o} e hd hd2 => by
    cases q : H b with
    | none => rfl
    | some u =>
      rcases hat b u q with ⟨rfl, rfl⟩ | ⟨rfl, _, _⟩
      · rw [hT] at e
        cases e
        exact absurd rfl hd2
      · rw [ha] at e
        cases e
        exact absurd rfl (hd _ _)
  have nsB : ∀ {b : Addr} {mm : Str → Option Value}, s₁.heap.Ns b mm → (hidT s₁.heap H).Ns b mm := fun {b mm} ⟨o, es, ep, e, d, r⟩ => ⟨o, es, ep, hidT_get e (plainB e (fun its n z => by rw [d] at z; cases z) fun z => by rw [d] at z; cases z), d, r⟩
  have kB : K.In (hidT s₁.heap H) := fun b o e => hidT_get (KX b o e) (by
    cases q : H b with
    | none => rfl
    | some u =>
      rcases hat b u q with ⟨rfl, _⟩ | ⟨rfl, hk, _⟩
      · rw [nT] at e
        cases e
      · rw [hk] at e
        cases e)
  have sB : SysB (hidT s₁.heap H) := let ⟨mm, h⟩ := hsm; let ⟨o, _, _, e, _⟩ := nsB h; ⟨o, e⟩
  have M0 : L2.Mod K mg (hidT s₁.heap H) := ⟨kB, nsB hns, ⟨mb, nsB hb, hbb⟩, let ⟨mc, h1, h2⟩ := hlim; ⟨mc, nsB h1, h2⟩⟩
  have TB : LamX.TabB (hidT s₁.heap H) mg c tb := by
    refine ⟨?_, ?_, fun z => ?_⟩
    · obtain ⟨o, us, file, tf, flags, tg, inF, text, tt, e1, r1, r2, r3, r4, r5, r6, r7, r8, hne⟩ := C
      refine ⟨o, us, file, tf, flags, tg, inF, text, tt, hidT_get e1 (plainB e1 (fun vs n z => ?_) fun z => ?_), r1, r2, r3, r4, r5, r6, r7, r8, hne⟩
      · rw [r2] at z
        cases z
      · rw [r2] at z
        cases z
        simp at r3
    · obtain ⟨bm, ob, b1, b2, b3, b4, b5, b6⟩ := hbm
      have nG : bm ≠ mainGlobals := fun q => by
        obtain ⟨o, es, ep, e, hd, _⟩ := hns
        rw [q, e] at b3
        cases b3
        rw [hd] at b6
        cases b6
      have nP : bm ≠ tb := fun q => by
        rw [q, hT] at b3
        cases b3
        cases b6
      refine ⟨bm, ob, b1, b2, nG, nP, hidT_get b3 (plainB b3 (fun vs n z => ?_) fun z => ?_), b4, b5, b6⟩
      · rw [b6] at z
        cases z
      · rw [b6] at z
        cases z
    · obtain ⟨o, es, ep, e, hd, _⟩ := hns
      rw [z, hT] at e
      cases e
      cases hd
  have e0 : Env0 P w K mg (hidT s₁.heap H) callerA [] s₁ H := ⟨rfl, M0, fun b o e => of_hidT e, Nat.le_of_eq (hidT_size _ _), trivial, fun b hb => absurd (show b ∈ ([] : List Addr) from hb) (by simp), hok, .of_eq hg⟩
  have hsp : spLaw K tb ns [.ref a] H (fun v _ => v = .bl true) (fun _ _ _ => False) := by
    refine ⟨a, rfl, aT, Htb, ?_, fun _ => rfl⟩
    cases hk : K.lookup a with
    | some o =>
      have e := KX a o hk
      rw [ha] at e
      cases e
      exact .inr fun H' => .inr ⟨_, vs.toArray, _, hk, rfl, rfl, rfl, by rw [List.size_toArray, lenV]; exact hl, by simpa using rv⟩
    | none =>
      refine .inl ⟨{ cls := .type "list", data := .seq vs.toArray }, ?_⟩
      rw [hH]
      exact (if_neg aT).trans (if_pos ⟨rfl, hk⟩)
  refine codeAny_mono ((F _ kB (nsB hns) sB TB).run callerA [] s₁ H ⟨[.ref a], []⟩ [.ref a] [.ref a] _ _ hr e0 (hbind s₁ (.ref a)) (.cons rfl .nil) hsp) fun r s' h => ?_
  cases r with
  | error e =>
    obtain ⟨_, _, _, _, _, _, _, _, _, _, _, _, z⟩ := (show L2.CX P w [] H s₁ (fun _ _ _ => False) e s' from h)
    exact z.elim
  | ok fl =>
    cases fl with
    | next => exact False.elim h
    | brk => exact False.elim h
    | cont => exact False.elim h
    | ret u =>
      obtain ⟨v, H', os, bare, un, hok', r', q⟩ := h
      have q' : v = .bl true := q
      subst q'
      obtain rfl : u = Value.bool true := r'
      have key : ∀ b o, b ≠ tb → s₁.heap.get? b = some o → s'.heap.get? b = some o := fun b o nb e => by
        cases q : H b with
        | none => exact un.keep b o e q (by intro z; exact absurd (show b ∈ ([] : List Addr) from z) (by simp)) (by simp)
        | some u =>
          rcases hat b u q with ⟨z, _⟩ | ⟨rfl, _, rfl⟩
          · exact absurd z nb
          · obtain ⟨e2, _⟩ := hok' b _ (un.frzs b _ _ q)
            rw [ha] at e
            cases e
            exact e2
      obtain ⟨more, z⟩ := un.tbls tb #[] Htb
      have hm : s'.heap.get? tb = some { cls := .none, data := .fields (#[] ++ more) } := hok' tb _ z
      refine ⟨rfl, ⟨fun b o e => ?_, fun b o e => ?_⟩, os, bare⟩
      · by_cases hb : b = tb
        · rw [hb] at e ⊢
          rw [hT] at e
          cases e
          exact .inr (.inl ⟨(C.tab hT).isCodeTable, rfl, #[], more, rfl, hm⟩)
        · exact .inl (key b o hb e)
      · by_cases hb : b = tb
        · rw [hb]
          exact ⟨_, hm⟩
        · exact ⟨o, key b o hb e⟩
/-- what the head leaves, from the reading of the law's def; c, tb: law's code object and its table -/
theorem walkT {l : PySem.W.OpenLaw} {n k : Nat} {q : Program} {loose : List Str} {XP : (Str → Option Value) → Heap → Prop} {YP : World → Heap → Prop} {d : DefRec} {K : Params → PySem.W.Frag} {x : Str}
    (hn : l.most = some n) (hn2 : n ≤ sizeLine) (hdf : d.params.defaults = []) (hr : RoomG k callerA) (hq : importsNone q = true)
    (hY : ∀ (w : World) (h : Heap), YP w h → (K w.params).In h)
    (F : ∀ (w : World) (mg : Str → Option Value) (fa : Addr) (h : Heap), YP w h → (K w.params).In h → h.Ns mainGlobals mg → mg d.name = some (.ref fa) →
      ∃ (fd : FuncData) (c tb : Addr), h.get? tb = some { cls := .none, data := .fields #[] } ∧ (K w.params).lookup tb = none ∧ PySem.W.CodeHd h c tb ∧ (∀ (s : Shared) (u : Value), BindsTo s fd ⟨[u], []⟩ [(x, u)]) ∧
        ∀ ns : List Int, ns.length ≤ n → ∀ base : Heap, (K w.params).In base → base.Ns mainGlobals mg → SysB base → LamX.TabB base mg c tb → FnG l.prog w (K w.params) mg base k fa fd [x] (spLaw (K w.params) tb ns)) :
    PySem.W.WalkO q loose XP YP l.row.toRowW d [] (fun f vs => PySem.call f vs) := by
  refine Att.attach_call hn hdf fun w s₀ s₁ mg mb fa o pm cd doc a vs ns G Y ho hd hcd hmg hobj hints hlen hg => ?_
  have KX := hY w _ Y
  obtain ⟨fd, c, tb, hT, nT, C, hb, hF⟩ := F w mg fa _ Y KX G.T.g hmg
  have hsm : ∃ mm, s₁.heap.Ns sysModules mm := let ⟨mm, h, _⟩ := (G.T.seer hq).mods; ⟨mm, h⟩
  exact enterT KX G.T.g G.T.b G.T.builtins G.T.nolimit hsm hg hT nT C G.T.bmain hobj hints (Nat.le_trans hlen hn2) hr (hF ns hlen) hb
end DL
/-! DL27: abs, gcd, bit_length, is of two truths. -/
namespace DL
open PySem PySem.Spec PyProof.Rows L2
def fAbs (_ : Store) (ds : List D) : Option D := match ds with
  | [.int i] => some (.int (if i < 0 then -i else i))
  | _ => none
theorem v_abs {T : Tab} : VN T (fun xs H Q => ∃ i, xs = [.int i] ∧ Q (.int (if i < 0 then -i else i)) H) fAbs := by
  intro ρ st H ds xs v Q m rx h q
  unfold fAbs at h
  split at h
  · cases h
    obtain ⟨x, rfl, r⟩ := rx.one
    exact ⟨_, by rw [R.int_of r], q H _ .refl m R.int⟩
  · cases h
def fIsB (_ : Store) (d e : D) : Option D := match d, e with
  | .bl a, .bl b => some (.bl (decide (a = b)))
  | _, _ => none
theorem v_isB {T : Tab} : V2 T (fun x y H Q => ∃ a b, x = .bl a ∧ y = .bl b ∧ Q (.bl (decide (a = b))) H) fIsB := by
  intro ρ st H d e x y v Q m rx ry h q
  unfold fIsB at h
  split at h
  · cases h
    exact ⟨_, _, R.bl_of rx, R.bl_of ry, q H _ .refl m R.bl⟩
  · cases h
def fGcd (_ : Store) (ds : List D) : Option D := match ds with
  | [.int i, .int j] => some (.int ((Nat.gcd i.natAbs j.natAbs : Nat) : Int))
  | _ => none
theorem v_gcd {T : Tab} : VN T rGcd fGcd := by
  intro ρ st H ds xs v Q m rx h q
  unfold fGcd at h
  split at h
  · cases h
    simp only [RAll] at rx
    obtain ⟨x, _, rfl, r1, y, _, rfl, r2, rfl⟩ := rx
    rw [R.int_of r1, R.int_of r2]
    exact ⟨_, _, rfl, q H _ .refl m R.int⟩
  · cases h
section
variable {X : Cx} {fl : Fls} {Wx : WX} {o e : Expr} {es : List Expr} {mo : EM} {mA : AM} {p pos apos : Pos} {x : Str}
/-- a function of a module, under a name of this one -/
theorem de_bf {id : String} {r : List V → Hp → VK → Prop} {f : Store → List D → Option D} (hc : CallR X (.builtin id) r) (hv : VN (XT X fl) r f) (hg : Gl X x) (hm : X.mg x = some (.builtin id)) (ha : DA X fl Wx (e :: es) mA)
    (hdb : (x == ("__debug__" : Str)) = false := by decide) (he : starEach (e :: es) X.env = (false, eval e X.env) :: starEach es X.env := by rfl) (hpl : (backTo pos (starEach es X.env)).any (·.1) = false := by rfl) :
    DE X fl Wx (.Call (.Name x p) (e :: es) [] pos) (eN f mA) :=
  pe_imp (pe_callBfun hc hg hm ha hdb he hpl) fun _ _ _ h => goN hv h
def fBits (_ : Store) (d : D) : Option D := match d with
  | .int i => some (.int (Builtin.Int.intBits i : Nat))
  | _ => none
theorem de_bits (ho : DE X fl Wx o mo) (hbase : attributeBase o "bit_length" X.env (eval o X.env) = eval o X.env := by rfl) (hline : (apos.endLine == pos.line) = true := by rfl) : DE X fl Wx (.Call (.Attribute o "bit_length" apos) [] [] pos) (e1 fBits mo) := by
  refine pe_imp (pe_bits ho hbase hline) fun σ H Q ⟨ρ, δ, st, m, en, h⟩ => ?_
  refine ⟨ρ, δ, st, m, en, (Post.bind h).monoE fun d ρ1 st1 H1 e1 m1 h1 x rx => ?_⟩
  obtain ⟨v, hv, q⟩ := Post.lift_inv h1
  unfold fBits at hv
  split at hv
  · cases hv
    exact ⟨_, R.int_of rx, q ρ1 H1 .refl m1 _ R.int⟩
  · cases hv
end
end DL
/-! DL28: all and any of a list of truths. -/
namespace DL
open PySem PySem.Spec PyProof.Rows L2
def blsOf : List D → Option (List Bool)
  | [] => some []
  | .bl b :: ds => (blsOf ds).map (b :: ·)
  | _ => none
theorem bls_ok {T : Tab} {ρ : Rho} {st : Store} {H : Hp} : ∀ {ds : List D} {vs : List V} {bs : List Bool}, RAll T ρ st H ds vs → blsOf ds = some bs → vs = bs.map V.bl
  | [], vs, bs, r, h => by
    simp only [RAll] at r
    cases h
    exact r
  | d :: ds, vs, bs, r, h => by
    simp only [RAll] at r
    obtain ⟨x, xs, rfl, r1, r2⟩ := r
    cases d with
    | bl b =>
      cases q : blsOf ds with
      | none => simp [blsOf, q] at h
      | some cs =>
        have e : b :: cs = bs := by simpa [blsOf, q] using h
        rw [← e, R.bl_of r1, bls_ok r2 q]
        rfl
    | _ => simp [blsOf] at h
def fAll (_ : Store) (ds : List D) : Option D := match ds with
  | [.lst es] => (blsOf es).map fun bs => .bl (bs.all id)
  | _ => none
def fAny (_ : Store) (ds : List D) : Option D := match ds with
  | [.lst es] => (blsOf es).map fun bs => .bl (bs.any id)
  | _ => none
theorem v_all {T : Tab} : VN T (rAll T.K) fAll := by
  intro ρ st H ds xs v Q m rx h q
  unfold fAll at h
  split at h
  · rename_i es
    obtain ⟨x, rfl, r⟩ := rx.one
    obtain ⟨a, vs, e, hq, ra⟩ := r.lst_of
    subst e
    cases hb : blsOf es with
    | none => rw [hb] at h; cases h
    | some bs =>
      rw [hb] at h
      cases h
      refine ⟨a, bs, rfl, ?_, q H _ .refl m R.bl⟩
      rw [← bls_ok ra hb]
      exact SqL.of hq
  · cases h
theorem v_any {T : Tab} : VN T (rAny T.K) fAny := by
  intro ρ st H ds xs v Q m rx h q
  unfold fAny at h
  split at h
  · rename_i es
    obtain ⟨x, rfl, r⟩ := rx.one
    obtain ⟨a, vs, e, hq, ra⟩ := r.lst_of
    subst e
    cases hb : blsOf es with
    | none => rw [hb] at h; cases h
    | some bs =>
      rw [hb] at h
      cases h
      refine ⟨a, bs, rfl, ?_, q H _ .refl m R.bl⟩
      rw [← bls_ok ra hb]
      exact SqL.of hq
  · cases h
end DL
/-! DL29: law's cells: what DL20 and DL23 ask of them. -/
namespace DL
open PySem PySem.Spec PyProof.Rows L2
theorem cells_apart : ∀ (names : List (Str × NameKind)) (n : Nat) (acc : List (Str × Addr)), (∀ p ∈ acc, p.2 < n) → (acc.map (·.2)).Nodup → ((cellsFrom n names acc).map (·.2)).Nodup
  | [], _, _, _, h => h
  | (y, k) :: r, n, acc, hl, hn => by
    unfold cellsFrom
    split
    · refine cells_apart r (n + 1) ((y, n) :: acc) (fun p hp => ?_) ?_
      · rcases List.mem_cons.mp hp with z | z
        · rw [z]
          exact Nat.lt_succ_self n
        · exact Nat.lt_succ_of_lt (hl p z)
      · show (n :: acc.map (·.2)).Nodup
        refine List.nodup_cons.mpr ⟨fun z => ?_, hn⟩
        obtain ⟨p, hp, e⟩ := List.mem_map.mp z
        have := hl p hp
        rw [e] at this
        exact Nat.lt_irrefl _ this
    · exact cells_apart r n acc hl hn
theorem snd_inj : ∀ {cs : List (Str × Addr)}, (cs.map (·.2)).Nodup → ∀ {x y : Str} {c : Addr}, (x, c) ∈ cs → (y, c) ∈ cs → x = y
  | [], _, _, _, _, h, _ => by simp at h
  | (z, d) :: cs, hn, x, y, c, h1, h2 => by
    have hn : (d :: cs.map (·.2)).Nodup := hn
    obtain ⟨n1, n2⟩ := List.nodup_cons.mp hn
    rcases List.mem_cons.mp h1 with e1 | e1 <;> rcases List.mem_cons.mp h2 with e2 | e2
    · cases e1
      cases e2
      rfl
    · cases e1
      exact absurd (List.mem_map.mpr ⟨_, e2, rfl⟩) n1
    · cases e2
      exact absurd (List.mem_map.mpr ⟨_, e1, rfl⟩) n1
    · exact snd_inj n2 e1 e2
/-- N: the captured names, as cellsFrom lays them (the last one first) -/
theorem flOk_at {flT : Str → List Str} {tb : Addr} {q : Str} {lm : List (Arguments × Expr × Scope)} {sc : Scope} {n : Nat} {N : List Str} (hN : (cellsFrom 0 sc.names []).map (·.1) = N) (hd : N.Nodup) : FlOk (flAt flT tb q lm sc n) N := by
  refine ⟨?_, hd, fun x y c h1 h2 => ?_⟩
  · rw [← hN]
    exact cellsFrom_names sc.names (n + 1) 0 [] [] rfl
  · exact snd_inj (cells_apart sc.names (n + 1) [] (fun p hp => by simp at hp) (by simp)) (PySem.mem_of_lookup h1) (PySem.mem_of_lookup h2)
theorem lookup_mem : ∀ {cs : List (Str × Addr)}, (cs.map (·.1)).Nodup → ∀ p ∈ cs, cs.lookup p.1 = some p.2
  | [], _, p, h => by simp at h
  | (z, d) :: cs, hn, p, h => by
    have hn : (z :: cs.map (·.1)).Nodup := hn
    obtain ⟨n1, n2⟩ := List.nodup_cons.mp hn
    rw [List.lookup_cons]
    rcases List.mem_cons.mp h with e | e
    · rw [e, beq_self_eq_true]
    · cases q : p.1 == z with
      | true => exact absurd (List.mem_map.mpr ⟨p, e, eq_of_beq q⟩) n1
      | false => exact lookup_mem n2 p e
section
variable {P : Program} {w : World} {K : PySem.W.Frag} {mg : Str → Option Value} {base : Heap} {Ns : List Str} {qual : Str} {sc : Scope} {f : Addr} {cdv : Value} {A : Around} {outer : List Env} {s : Shared} {H : Hp} {E : XK}
theorem lawC_at {flT : Str → List Str} {tb : Addr} {q : Str} {lm : List (Arguments × Expr × Scope)} (hd : ((cellsFrom 0 sc.names []).map (·.1)).Nodup) :
    LawC (cxOf (L2.CX P w) P w K mg base Ns qual sc f cdv A outer s H E) (flAt flT tb q lm sc s.heap.objs.size).cs := by
  refine ⟨fun p hp => ?_, fun _ _ => rfl, rfl⟩
  have e : (cellsFrom (s.heap.objs.size + 1) sc.names []).map (·.1) = (cellsFrom 0 sc.names []).map (·.1) := cellsFrom_names sc.names (s.heap.objs.size + 1) 0 [] [] rfl
  exact lookup_mem (cs := cellsFrom (s.heap.objs.size + 1) sc.names []) (by rw [e]; exact hd) p hp
/-- the captured names' slots, in the order of the cells -/
theorem caps_at {X : Cx} : ∀ {cs : List (Str × Addr)} {caps : List Nat}, (cs.map (·.1)).length = caps.length → (∀ j : Nat, ∀ x i, (cs.map (·.1))[j]? = some x → caps[j]? = some i → X.N[i]? = some x ∧ X.env.scope.names.lookup x = some .cell) → Caps X cs caps
  | [], [], _, _ => .nil
  | [], _ :: _, h, _ => by simp at h
  | _ :: _, [], h, _ => by simp at h
  | (x, c) :: cs, i :: caps, h, k => by
    obtain ⟨h1, h2⟩ := k 0 x i rfl rfl
    exact .cons h1 h2 (caps_at (by simpa using h) fun j y i2 e1 e2 => k (j + 1) y i2 (by simpa using e1) (by simpa using e2))
end
end DL
/-! DL30: for laws with errors and lambdas. -/
namespace DL
open PySem PySem.Spec PyProof.Rows L2
theorem fnO_of {P : Program} {w : World} {K : PySem.W.Frag} {mg : Str → Option Value} {base : Heap} {k : Nat} {x qual : Str} {st : Stmt} {f : Addr} {fd : FuncData} {N ps : List Str} {sp : Sp} (F : Fun K x qual st f fd) (S : FnScope N ps (defScope st)) (len : ∀ vs H Q E, sp vs H Q E → vs.length = ps.length)
    (hbody : ∀ (cdv : Value) (A : Around) (outer : List Env) (s : Shared) (H : Hp) (vs : List V) (Q : VK) (E : XK), Room k (A.deeper (envOfC qual (defScope st) s.heap.objs.size f cdv)) → sp vs H Q E →
      ∃ t, PSs (cxOf (L2.CX P w) P w K mg base N qual (defScope st) f cdv A outer s H E) (defBody st) t ∧ t { nx := fun _ H' => Q .non H', rt := Q } (L2.start N vs) H) : FnOk P w K mg base (L2.CX P w) (k + 1) f fd ps sp := by
  obtain ⟨oc, od, kV, doc, pm, an, cdv, ct, osl, rfl, lk, hcd⟩ := F.ex
  exact ⟨len, fun A outer s H args us vs Q E hr e0 hb r hsp => LamX.run_ofS lk hcd S hr e0 hb r (len _ _ _ _ hsp) fun hr' => hbody cdv A outer s H vs Q E hr' hsp⟩
/-- FTab, of the written part -/
structure FTabK (K : PySem.W.Frag) (mg : Str → Option Value) (cl : List FCl) : Prop where
  ex : ∀ k ∈ cl, ∀ k' ∈ cl, ∃ C C', mg k.c = some (.ref C) ∧ mg k'.c = some (.ref C') ∧ PySem.W.exmOne K (.ref C) (.ref C') = some (decide (k.c = k'.c))
  rd : ∀ k ∈ cl, ∃ C, mg k.c = some (.ref C) ∧ ∀ f ∈ k.fs, ExR K C f
theorem ftab_of {X : Cx} {cl : List FCl} (F : FTabK X.K X.mg cl) : FTab X cl := by
  refine ⟨fun k hk k' hk' C C' h1 h2 => ?_, fun k hk C h f hf => ?_⟩
  · obtain ⟨D, D', e1, e2, e3⟩ := F.ex k hk k' hk'
    obtain rfl := ref_eq h1 e1
    obtain rfl := ref_eq h2 e2
    exact e3
  · obtain ⟨D, e1, e2⟩ := F.rd k hk
    obtain rfl := ref_eq h e1
    exact e2 f hf
/-! ### the way to a lambda -/
def inS (s : Stmt) (i : Nat) : Stmt := match s with
  | .For _ _ b _ _ => b.getD i (.Pass ⟨0, 0, 0, 0⟩)
  | .If _ b _ _ => b.getD i (.Pass ⟨0, 0, 0, 0⟩)
  | s => s
def noE : Expr := .Constant .none 0 ⟨0, 0, 0, 0⟩
def exS (s : Stmt) : Expr := match s with
  | .Assign _ e _ => e
  | .Expr e _ => e
  | .Return (some e) _ => e
  | _ => noE
def kidE (e : Expr) (i : Nat) : Expr := match e with
  | .Tuple es _ _ => es.getD i noE
  | .List es _ => es.getD i noE
  | .Call _ es _ _ => es.getD i noE
  | _ => noE
def lamE (e : Expr) : Arguments × Expr × Scope := match e with
  | .Lambda a b s _ => (a, b, s)
  | _ => (⟨[], [], none, [], [], none, []⟩, noE, ⟨.function, [], false, false, []⟩)
theorem lam_inj {l : Arguments × Expr × Scope} {ps : Arguments} {body : Expr} {sc : Scope} (h : some l = some (ps, body, sc)) : l.1 = ps ∧ l.2.1 = body ∧ l.2.2 = sc := by
  cases h
  exact ⟨rfl, rfl, rfl⟩
theorem lam_end {α : Type} {l : List α} {k j : Nat} {x : α} (hk : l.length = k) (h : k ≤ j) : ¬ l[j]? = some x := by
  rw [List.getElem?_eq_none (by omega)]
  intro z
  cases z
def capsB (N : List Str) (sc : Scope) (caps : List Nat) : Bool := ((cellsFrom 0 sc.names []).map (·.1)).length == caps.length && (List.range caps.length).all fun j => match ((cellsFrom 0 sc.names []).map (·.1))[j]?, caps[j]? with
  | some x, some i => N[i]? == some x && sc.names.lookup x == some .cell
  | _, _ => true
theorem caps_atL {P : Program} {w : World} {K : PySem.W.Frag} {mg : Str → Option Value} {base : Heap} {Ns : List Str} {qual : Str} {sc : Scope} {f : Addr} {cdv : Value} {A : Around} {outer : List Env} {s : Shared} {H : Hp} {E : XK} {flT : Str → List Str} {tb : Addr} {q : Str} {lm : List (Arguments × Expr × Scope)} {n : Nat} {caps : List Nat}
    (h : capsB Ns sc caps = true) : Caps (cxOf (L2.CX P w) P w K mg base Ns qual sc f cdv A outer s H E) (flAt flT tb q lm sc n).cs caps := by
  have e : (cellsFrom (n + 1) sc.names []).map (·.1) = (cellsFrom 0 sc.names []).map (·.1) := cellsFrom_names sc.names (n + 1) 0 [] [] rfl
  unfold capsB at h
  rw [Bool.and_eq_true] at h
  obtain ⟨h1, h2⟩ := h
  refine caps_at (cs := cellsFrom (n + 1) sc.names []) (by rw [e]; exact eq_of_beq h1) fun j x i e1 e2 => ?_
  rw [e] at e1
  have hj : j < caps.length := (List.getElem?_eq_some_iff.mp e2).1
  have h3 := List.all_eq_true.mp h2 j (List.mem_range.mpr hj)
  rw [e1, e2] at h3
  simp only [Bool.and_eq_true, beq_iff_eq] at h3
  exact h3
theorem free_of {fl : Fls} {N : List Str} {names : List (Str × NameKind)} (FO : FlOk fl N) (h : ∀ y ∈ names, y.2 = .free → y.1 ∈ N) : ∀ y ∈ names, y.2 = .free → y.1 ∈ fl.cs.map (·.1) := fun y hy e => by
  rw [FO.hcs]
  exact h y hy e
/-- {} -/
theorem de_disp0 {X : Cx} {fl : Fls} {Wx : WX} {pos : Pos} : DE X fl Wx (.Dict [] [] pos) (eDisp []) := by
  refine pe_imp pe_dnewK fun σ H Q ⟨ρ, δ, st, m, en, h⟩ p hp => ?_
  have zz : Post (XT X fl) ρ st H σ Wx (fun v ρ' st' H' => ∀ x, R (XT X fl) ρ' st' H' v x → Q x H') (.ok (.ref st.length) (st ++ [.dk []])) := h
  refine zz (ρ.snoc p) _ (Ext.push m hp) (m.push hp ⟨[], upd_same, rfl⟩) (.ref p) ?_
  simp only [R]
  refine ⟨p, rfl, ?_⟩
  show (ρ.ix ++ [p])[st.length]? = some p
  rw [List.getElem?_append_right (by rw [m.len]; exact Nat.le_refl _), m.len]
  simp
/-! ### built-in names -/
theorem bb_abs : bootBuiltins "abs" = some (.builtin "abs") := by first | rfl | decide +kernel
theorem bb_all : bootBuiltins "all" = some (.builtin "all") := by first | rfl | decide +kernel
theorem bb_any : bootBuiltins "any" = some (.builtin "any") := by first | rfl | decide +kernel
theorem bb_bool : bootBuiltins "bool" = some (.type "bool") := by first | rfl | decide +kernel
theorem bb_str : bootBuiltins "str" = some (.type "str") := by first | rfl | decide +kernel
section
variable {K : PySem.W.Frag} {mg : Str → Option Value} {α : Prop}
abbrev isi_list := isiTy "list" []
abbrev isi_tuple := isiTy "tuple" []
abbrev isi_int := isiTy "int" ["bool"]
abbrev isi_bool := isiTy "bool" []
abbrev isi_str := isiTy "str" []
theorem isi_ok_list (_ : α) : IsiOk K mg (.type "list") isi_list := isi_list_ok
theorem isi_ok_tuple (_ : α) : IsiOk K mg (.type "tuple") isi_tuple := isi_tuple_ok
theorem isi_ok_int (_ : α) : IsiOk K mg (.type "int") isi_int := isi_int_ok
theorem isi_ok_bool (_ : α) : IsiOk K mg (.type "bool") isi_bool := isi_bool_ok
theorem isi_ok_str (_ : α) : IsiOk K mg (.type "str") isi_str := isiTy_ok (by
  intro t ht
  simp only [List.mem_cons, List.not_mem_nil, or_false] at ht
  rcases ht with rfl | rfl | rfl | rfl | rfl | rfl | rfl <;> intro h <;> first | exact absurd rfl h | rfl)
def isi_tupleList : Kd → Option Bool
  | .ty t => if t = "tuple" ∨ t = "list" then some true else if t ∈ ["NoneType", "bool", "int", "str", "dict"] then some false else none
  | _ => none
theorem isi_tl_own : ∀ c C b, isi_tupleList (.own c) = some b → mg c = some (.ref C) → OwnC K C := fun c C b h => by cases h
theorem isi_tl_ok : ∀ k t b, isi_tupleList k = some b → KdV mg k t → PySem.W.kitAny K t [.type "tuple", .type "list"] = some b := by
  intro k t b hb ht
  cases k with
  | own c => cases hb
  | ty m =>
    obtain rfl : t = .type m := ht
    simp only [isi_tupleList] at hb
    split at hb
    · rename_i e
      cases hb
      rcases e with rfl | rfl <;> first | rfl | decide +kernel
    · split at hb
      · rename_i e
        cases hb
        simp only [List.mem_cons, List.not_mem_nil, or_false] at e
        rcases e with rfl | rfl | rfl | rfl | rfl <;> first | rfl | decide +kernel
      · cases hb
end
end DL
/-! DL31: the end of a law that makes lambdas: law's table. -/
namespace DL
open PySem PySem.Spec PyProof.Rows L2
theorem tabIn_mk {K : PySem.W.Frag} {x : Str} {f c P : Addr} {oc e : Value} {od dd : Option Addr} {fd : FuncData} {sl sl2 : Array (Option Value)} {vs : Array Value} (a : PySem.W.nsIn K mainGlobals x = some (some (.ref f))) (l : K.lookup f = some ⟨oc, od, .func fd, sl⟩) (hc : fd.code = .ref c)
    (lc : K.lookup c = some ⟨e, dd, .fields vs, sl2⟩) (hv : (vs[11]? : Option Value) = some (.ref P)) : PySem.W.tabIn K x = some (c, P) := by
  unfold PySem.W.tabIn
  simp only [a, l, hc, lc, hv]
theorem walkT2 {l : PySem.W.OpenLaw} {n k : Nat} {q : Program} {loose : List Str} {XP : (Str → Option Value) → Heap → Prop} {YP : World → Heap → Prop} {d dL : DefRec} {K : Params → PySem.W.Frag} {x : Str}
    (hn : l.most = some n) (hn2 : n ≤ sizeLine) (hdf : d.params.defaults = []) (hr : RoomG k callerA) (hq : importsNone q = true) (hrec : (recsOf q).find? (fun e => e.name == d.name) = some dL)
    (hY : ∀ (w : World) (h : Heap), YP w h → (K w.params).In h)
    (F : ∀ (w : World) (mg : Str → Option Value) (fa : Addr) (h : Heap), (K w.params).In h → h.Ns mainGlobals mg → mg d.name = some (.ref fa) →
      ∃ (fd : FuncData) (c tb : Addr), PySem.W.tabIn (K w.params) d.name = some (c, tb) ∧ (K w.params).lookup tb = none ∧ (∀ (s : Shared) (u : Value), BindsTo s fd ⟨[u], []⟩ [(x, u)]) ∧
        ∀ ns : List Int, ns.length ≤ n → ∀ base : Heap, (K w.params).In base → base.Ns mainGlobals mg → SysB base → LamX.TabB base mg c tb → FnG l.prog w (K w.params) mg base k fa fd [x] (spLaw (K w.params) tb ns)) :
    PySem.W.WalkO q loose XP YP l.row.toRowW d [] (fun f vs => PySem.call f vs) := by
  refine Att.attach_call hn hdf fun w s₀ s₁ mg mb fa o pm cd doc a vs ns G Y ho hd hcd hmg hobj hints hlen hg => ?_
  have KX := hY w _ Y
  obtain ⟨fd, c, tb, ht, nT, hb, hF⟩ := F w mg fa _ KX G.T.g hmg
  obtain ⟨C, hT⟩ := PySem.W.tab_of G.T KX hrec ht
  have hsm : ∃ mm, s₁.heap.Ns sysModules mm := let ⟨mm, h, _⟩ := (G.T.seer hq).mods; ⟨mm, h⟩
  exact enterT KX G.T.g G.T.b G.T.builtins G.T.nolimit hsm hg hT nT C G.T.bmain hobj hints (Nat.le_trans hlen hn2) hr (hF ns hlen) hb
end DL
/-! DL32: mirrors evaluated. -/
namespace DL
open PySem PySem.Spec PyProof.Rows L2
theorem set_last {st : Store} {x y : SO} : (st ++ [x]).set st.length y = st ++ [y] := by
  rw [List.set_append_right _ _ (Nat.le_refl _), Nat.sub_self]
  rfl
theorem get_last {st : Store} {x : SO} : (st ++ [x])[st.length]? = some x := by
  rw [List.getElem?_append_right (Nat.le_refl _), Nat.sub_self]
  rfl
theorem app_get {st : Store} {i : Nat} {so x : SO} (h : st[i]? = some so) : (st ++ [x])[i]? = some so := by
  rw [List.getElem?_append_left (List.getElem?_eq_some_iff.mp h).1]
  exact h
theorem tup_run {a : AM} {δ : DEnv} {st st1 : Store} {ds : List D} (ha : a δ st = .ok ds st1) (hl : ds.length ≤ 1000) : eTup a δ st = .ok (.tup ds) st1 := by
  unfold eTup
  rw [M.ok_bind ha, if_pos (Nat.le_trans hl (by decide))]
  rfl
theorem lst_run {a : AM} {δ : DEnv} {st st1 : Store} {ds : List D} (ha : a δ st = .ok ds st1) (hl : ds.length ≤ 1000) : eLst a δ st = .ok (.lst ds) st1 := by
  unfold eLst
  rw [M.ok_bind ha, if_pos (Nat.le_trans hl (by decide))]
  rfl
theorem new_run {a : AM} {δ : DEnv} {st st1 : Store} {ds : List D} (ha : a δ st = .ok ds st1) (hl : ds.length ≤ 1000) : eNew a δ st = .ok (.ref st1.length) (st1 ++ [.lst ds]) := by
  unfold eNew
  rw [M.ok_bind ha]
  exact if_pos (Nat.le_trans hl (by decide))
theorem eAnd_yes {a b : EM} {δ : DEnv} {st st1 : Store} (ha : a δ st = .ok (.bl true) st1) : eAnd a b δ st = b δ st1 := by
  unfold eAnd
  rw [M.ok_bind ha]
  rfl
theorem eAnd_not {a b : EM} {δ : DEnv} {st st1 : Store} (ha : a δ st = .ok (.bl false) st1) : eAnd a b δ st = .ok (.bl false) st1 := by
  unfold eAnd
  rw [M.ok_bind ha]
  rfl
theorem eNot_run {a : EM} {δ : DEnv} {st st1 : Store} {b : Bool} (ha : a δ st = .ok (.bl b) st1) : eNot a δ st = .ok (.bl !b) st1 := by
  unfold eNot
  rw [M.ok_bind ha]
  rfl
theorem compL_nil {all : List D} {g : GM} {t : TM} {e : EM} {δ : DEnv} {st : Store} : compL none all g t e δ [] st = .ok [] st := rfl
theorem compL_cons {all : List D} {g : GM} {e : EM} {δ δ1 : DEnv} {d y : D} {ds ys : List D} {st st1 st2 : Store} (hg : g d δ = some δ1) (he : e δ1 st = .ok y st1) (hr : compL none all g tYesM e δ ds st1 = .ok ys st2) : compL none all g tYesM e δ (d :: ds) st = .ok (y :: ys) st2 := by
  unfold compL
  rw [chk_none, hg]
  dsimp only
  have ht : tYesM δ1 st = .ok true st := rfl
  rw [M.ok_bind ht, if_pos rfl, M.ok_bind he, M.ok_bind hr]
  rfl
theorem comp_run {vs : List Nat} {it : IM} {g : GM} {t : TM} {e : EM} {δ : DEnv} {ds ys : List D} {st st0 st1 : Store} (hi : it δ st = .ok (ds, none) st0) (hl : ds.length ≤ 1000) (h : compL none ds g t e (wipeD δ vs) ds st0 = .ok ys st1) : eComp vs it g t e δ st = .ok (.lst ys) st1 := by
  unfold eComp aComp
  have h2 : (it δ >>= fun p => if p.1.length ≤ sizeLine then nox (compL p.2 p.1 g t e (wipeD δ vs) p.1) else M.stuck) st = .ok ys st1 := by
    rw [M.ok_bind hi]
    dsimp only
    rw [if_pos (Nat.le_trans hl (by decide))]
    unfold nox
    rw [h]
  rw [M.ok_bind h2]
  rfl

theorem compG_run {gd : Option Nat} {vs : List Nat} {it : IM} {g : GM} {t : TM} {e : EM} {δ : DEnv} {ds ys : List D} {st st0 st1 : Store} (hi : it δ st = .ok (ds, gd) st0) (hl : ds.length ≤ 1000) (h : compL gd ds g t e (wipeD δ vs) ds st0 = .ok ys st1) : eComp vs it g t e δ st = .ok (.lst ys) st1 := by
  unfold eComp aComp
  have h2 : (it δ >>= fun p => if p.1.length ≤ sizeLine then nox (compL p.2 p.1 g t e (wipeD δ vs) p.1) else M.stuck) st = .ok ys st1 := by
    rw [M.ok_bind hi]
    dsimp only
    rw [if_pos (Nat.le_trans hl (by decide))]
    unfold nox
    rw [h]
  rw [M.ok_bind h2]
  rfl

theorem chk_some {α : Type} {n : Nat} {all : List D} {m : M α} {st : Store} (h : st[n]? = some (.lst all)) : chk (some n) all m st = m st := by
  unfold chk
  exact if_pos h
theorem app_run {i r : Nat} {b : EM} {δ : DEnv} {st st1 : Store} {xs ys : List D} {y : D} (hd : δ[i]? = some (some (.ref r))) (h : st[r]? = some (.lst xs)) (hb : b δ st = .ok y st1) (h1 : st1[r]? = some (.lst ys)) (hl : ys.length < 1000) : eApp (eVar i) b δ st = .ok .non (st1.set r (.lst (ys ++ [y]))) := by
  unfold eApp
  rw [M.ok_bind (var_run hd)]
  try dsimp only
  rw [h]
  try dsimp only
  rw [M.ok_bind hb]
  try dsimp only
  rw [h1]
  try dsimp only
  rw [if_pos (Nat.lt_of_lt_of_le hl (by decide))]
theorem ex_run {m : EM} {δ : DEnv} {st st' : Store} {d : D} (h : m δ st = .ok d st') : sEx m δ st = .ok (.next, δ) st' := by
  unfold sEx
  rw [M.ok_bind h]
  rfl
theorem eqD_str {st : Store} {s : Str} : fEqD st (.str s) (.str s) = some (.bl true) := by
  unfold fEqD fEq scalD
  simp
theorem e2M_run {F : D → D → M D} {a b : EM} {δ : DEnv} {st st1 st2 st3 : Store} {x y v : D} (ha : a δ st = .ok x st1) (hb : b δ st1 = .ok y st2) (h : F x y st2 = .ok v st3) : e2M F a b δ st = .ok v st3 := by
  unfold e2M
  rw [M.ok_bind ha, M.ok_bind hb, h]
theorem shows_by {p : PyData} {n w : Nat} (h1 : p.showable = true) (h2 : chOk p = true) (h3 : wt p ≤ w) (h4 : p.depth ≤ n) : Shows p n w := ⟨h1, h2, h3, h4⟩
theorem eqD_refl {st : Store} {d : D} (hs : scalD d d = none) (h : reflTop st d = true) : fEqD st d d = some (.bl true) := by
  unfold fEqD fEq
  rw [hs]
  dsimp only
  unfold fEqP
  cases hp : toPy st 60 d with
  | none => simp [h]
  | some p =>
    dsimp only
    by_cases hc : SeqAt.shaped p = true ∧ SeqAt.shaped p = true
    · rw [if_pos hc]
      rw [SeqAt.eqv_refl p (SeqAt.canLay_of_shaped hc.1)]
    · rw [if_neg hc]
      simp [h]

theorem x_mulS {st : Store} {i j : Int} (h : -18446744073709551616 < i) (h2 : i < 18446744073709551616) : fMul st (.int i) (.int j) = some (.int (i * j)) := x_mul1 (by omega) (by omega)
theorem x_item0 {st : Store} {d : D} {ds : List D} : fItem st (.tup (d :: ds)) (.int 0) = some d := item_run (xs := d :: ds) rfl (by decide) rfl
theorem x_item1 {st : Store} {d e : D} {ds : List D} : fItem st (.tup (d :: e :: ds)) (.int 1) = some e := item_run (xs := d :: e :: ds) rfl (by decide) rfl
theorem x_item2 {st : Store} {d e f : D} {ds : List D} : fItem st (.tup (d :: e :: f :: ds)) (.int 2) = some f := item_run (xs := d :: e :: f :: ds) rfl (by decide) rfl
theorem l_item0 {st : Store} {d : D} {ds : List D} : fItem st (.lst (d :: ds)) (.int 0) = some d := item_run (xs := d :: ds) rfl (by decide) rfl
theorem l_item1 {st : Store} {d e : D} {ds : List D} : fItem st (.lst (d :: e :: ds)) (.int 1) = some e := item_run (xs := d :: e :: ds) rfl (by decide) rfl
theorem l_item2 {st : Store} {d e f : D} {ds : List D} : fItem st (.lst (d :: e :: f :: ds)) (.int 2) = some f := item_run (xs := d :: e :: f :: ds) rfl (by decide) rfl
theorem size_ge : 16777216 ≤ sizeLine := Nat.le_of_eq sizeLine_eq.symm
theorem le_size {n : Nat} (h : n ≤ 16777216) : (n ≤ sizeLine) = True := by rw [sizeLine_eq]; simpa using h
theorem kisi_int_non {st : Store}  : (kdOf st D.non).bind isi_int = some false := rfl
theorem kisi_int_bl {st : Store} {b : Bool} : (kdOf st (.bl b)).bind isi_int = some true := rfl
theorem kisi_int_int {st : Store} {i : Int} : (kdOf st (.int i)).bind isi_int = some true := rfl
theorem kisi_int_str {st : Store} {s : Str} : (kdOf st (.str s)).bind isi_int = some false := rfl
theorem kisi_int_tup {st : Store} {ds : List D} : (kdOf st (.tup ds)).bind isi_int = some false := rfl
theorem kisi_int_lst {st : Store} {ds : List D} : (kdOf st (.lst ds)).bind isi_int = some false := rfl
theorem kisi_bool_non {st : Store}  : (kdOf st D.non).bind isi_bool = some false := rfl
theorem kisi_bool_bl {st : Store} {b : Bool} : (kdOf st (.bl b)).bind isi_bool = some true := rfl
theorem kisi_bool_int {st : Store} {i : Int} : (kdOf st (.int i)).bind isi_bool = some false := rfl
theorem kisi_bool_str {st : Store} {s : Str} : (kdOf st (.str s)).bind isi_bool = some false := rfl
theorem kisi_bool_tup {st : Store} {ds : List D} : (kdOf st (.tup ds)).bind isi_bool = some false := rfl
theorem kisi_bool_lst {st : Store} {ds : List D} : (kdOf st (.lst ds)).bind isi_bool = some false := rfl
theorem kisi_tuple_non {st : Store}  : (kdOf st D.non).bind isi_tuple = some false := rfl
theorem kisi_tuple_bl {st : Store} {b : Bool} : (kdOf st (.bl b)).bind isi_tuple = some false := rfl
theorem kisi_tuple_int {st : Store} {i : Int} : (kdOf st (.int i)).bind isi_tuple = some false := rfl
theorem kisi_tuple_str {st : Store} {s : Str} : (kdOf st (.str s)).bind isi_tuple = some false := rfl
theorem kisi_tuple_tup {st : Store} {ds : List D} : (kdOf st (.tup ds)).bind isi_tuple = some true := rfl
theorem kisi_tuple_lst {st : Store} {ds : List D} : (kdOf st (.lst ds)).bind isi_tuple = some false := rfl
theorem kisi_list_non {st : Store}  : (kdOf st D.non).bind isi_list = some false := rfl
theorem kisi_list_bl {st : Store} {b : Bool} : (kdOf st (.bl b)).bind isi_list = some false := rfl
theorem kisi_list_int {st : Store} {i : Int} : (kdOf st (.int i)).bind isi_list = some false := rfl
theorem kisi_list_str {st : Store} {s : Str} : (kdOf st (.str s)).bind isi_list = some false := rfl
theorem kisi_list_tup {st : Store} {ds : List D} : (kdOf st (.tup ds)).bind isi_list = some false := rfl
theorem kisi_list_lst {st : Store} {ds : List D} : (kdOf st (.lst ds)).bind isi_list = some true := rfl
theorem kisi_str_non {st : Store}  : (kdOf st D.non).bind isi_str = some false := rfl
theorem kisi_str_bl {st : Store} {b : Bool} : (kdOf st (.bl b)).bind isi_str = some false := rfl
theorem kisi_str_int {st : Store} {i : Int} : (kdOf st (.int i)).bind isi_str = some false := rfl
theorem kisi_str_str {st : Store} {s : Str} : (kdOf st (.str s)).bind isi_str = some true := rfl
theorem kisi_str_tup {st : Store} {ds : List D} : (kdOf st (.tup ds)).bind isi_str = some false := rfl
theorem kisi_str_lst {st : Store} {ds : List D} : (kdOf st (.lst ds)).bind isi_str = some false := rfl
theorem kisi_tupleList_non {st : Store}  : (kdOf st D.non).bind isi_tupleList = some false := rfl
theorem kisi_tupleList_bl {st : Store} {b : Bool} : (kdOf st (.bl b)).bind isi_tupleList = some false := rfl
theorem kisi_tupleList_int {st : Store} {i : Int} : (kdOf st (.int i)).bind isi_tupleList = some false := rfl
theorem kisi_tupleList_str {st : Store} {s : Str} : (kdOf st (.str s)).bind isi_tupleList = some false := rfl
theorem kisi_tupleList_tup {st : Store} {ds : List D} : (kdOf st (.tup ds)).bind isi_tupleList = some true := rfl
theorem kisi_tupleList_lst {st : Store} {ds : List D} : (kdOf st (.lst ds)).bind isi_tupleList = some true := rfl
theorem x_ne {st : Store} {i j : Int} : fNe st (.int i) (.int j) = some (.bl !(i == j)) := rfl
theorem x_neS {st : Store} {i j : Str} : fNe st (.str i) (.str j) = some (.bl !(i == j)) := rfl
theorem x_eqS {st : Store} {i j : Str} : fEqD st (.str i) (.str j) = some (.bl (i == j)) := rfl
theorem x_eqB {st : Store} {i j : Bool} : fEqD st (.bl i) (.bl j) = some (.bl (i == j)) := rfl
theorem x_neB {st : Store} {i j : Bool} : fNe st (.bl i) (.bl j) = some (.bl !(i == j)) := rfl
theorem x_lenT0 {st : Store} : fLen st [.tup []] = some (.int 0) := rfl
theorem x_lenL0 {st : Store} : fLen st [.lst []] = some (.int 0) := rfl
theorem x_lenT1 {st : Store} {a : D} : fLen st [.tup [a]] = some (.int 1) := rfl
theorem x_lenL1 {st : Store} {a : D} : fLen st [.lst [a]] = some (.int 1) := rfl
theorem x_lenT2 {st : Store} {a b : D} : fLen st [.tup [a, b]] = some (.int 2) := rfl
theorem x_lenL2 {st : Store} {a b : D} : fLen st [.lst [a, b]] = some (.int 2) := rfl
theorem x_lenT3 {st : Store} {a b c : D} : fLen st [.tup [a, b, c]] = some (.int 3) := rfl
theorem x_lenL3 {st : Store} {a b c : D} : fLen st [.lst [a, b, c]] = some (.int 3) := rfl
theorem x_lenT4 {st : Store} {a b c d : D} : fLen st [.tup [a, b, c, d]] = some (.int 4) := rfl
theorem x_lenL4 {st : Store} {a b c d : D} : fLen st [.lst [a, b, c, d]] = some (.int 4) := rfl
end DL
/-! DL33: errors made and not raised. -/
namespace PySem.HandSPX
open PySem PySem.Spec PyProof.Rows L2
section
variable {M : Model} {A : Around} {E : Value → Shared → Prop} {h : Heap} {g : Array GenState} {d : Drawn} {t : Nat} {os : OsState}
variable {nm q : Str} {C N : Addr} {bs bm bmB : List Value} {hdct : Bool} {sn : List Str} {sub : List Value} {ab : Bool} {col : Option Bool} {dd : Option Addr} {k0 k1 k2 k3 k5 : Option Value} {B newId initId : String}
theorem check_new_kw (F : ExcBaseFacts B newId initId bmB) (hT : ∀ X : String, bm.contains (.type X) = bmB.contains (.type X)) {rest : List Value} {kws : List (Str × Value)} {Q : Unit → Shared → Prop}
    (hC : h.get? C = some (excClassObj nm q C N bs bm hdct sn sub ab col dd k0 k1 k2 k3 k5 newId)) (hq : Q () ⟨h, g, d, t, os⟩) : wpAny M A (checkBuiltinCall newId ⟨.ref C :: rest, kws⟩) Q E ⟨h, g, d, t, os⟩ := by
  have hcont : (Value.ref C :: bm).contains (.type B) = true := by rw [List.contains_cons, hT, F.hasB, Bool.or_true]
  have hstar := F.noStar
  simp only [checkBuiltinCall, F.newKind, F.newSplit, F.newRow]
  repeat (first | refine wpAny_loadPart_at hC ?_ | (refine wpAny_isSubtype_exc hC ?_; rw [hcont]) | refine wpAny_staticBase_exc hC ?_ | refine wpAny_madeBy_exc hC ?_ | simp only [bne_self_eq_false, Bool.false_eq_true, if_false] | wp_step)
  exact hq
end
section
variable {prog : Program} {w : World} {A : Around} {E : Value → Shared → Prop} {R : Result → Shared → Prop} {h : Heap} {g : Array GenState} {d : Drawn} {t : Nat} {os : OsState}
variable {nm q : Str} {C N : Addr} {bs bm bmB : List Value} {hdct : Bool} {sn : List Str} {sub : List Value} {ab : Bool} {col : Option Bool} {dd : Option Addr} {k0 k1 k2 k3 k5 : Option Value} {B newId initId : String}
theorem new_kw (F : ExcBaseFacts B newId initId bmB) (hT : ∀ X : String, bm.contains (.type X) = bmB.contains (.type X)) {rest : List Value} {kws : List (Str × Value)}
    (hC : h.get? C = some (excClassObj nm q C N bs bm hdct sn sub ab col dd k0 k1 k2 k3 k5 newId))
    (hq : R (.ok (.ret (.ref (h.objs.size + 1)))) ⟨(h.push { cls := .type "tuple", data := .seq rest.toArray }).push
      { cls := .ref C, data := .fields #[.ref h.objs.size, .none, .none, .none, .bool false, .none] }, g, d, t, os⟩) (hrest : rest.length ≤ sizeLine) :
    codeAny (model prog w) A (.builtin newId ⟨.ref C :: rest, kws⟩) R ⟨h, g, d, t, os⟩ := by
  have hends := F.ends
  have hcB : (Value.ref C :: bm).contains (.type B) = true := by rw [List.contains_cons, hT, F.hasB, Bool.or_true]
  have hcA : (Value.ref C :: bm).contains (.type "AttributeError") = false := by rw [List.contains_cons, hT, F.noAttr]; rfl
  have hcN : (Value.ref C :: bm).contains (.type "NameError") = false := by rw [List.contains_cons, hT, F.noName]; rfl
  refine codeAny_builtinAt F.entry ?_
  unfold Builtin.«BaseException.__new__»
  refine wpAt_bind ?_
  show wpAt _ _ _ (stack >>= _) _ _ _
  refine wpAt_bind (wpAt_stack fun p below => wpAt_of_wpAny ?_)
  wp_walk
  refine wpAt_of_wpAny ?_
  rw [F.owner]
  repeat (first | with_reducible refine wpAny_madeHere_exc F.canon hC ?_ | with_reducible refine wpAny_loadPart_at hC ?_ | (with_reducible refine wpAny_isSubtype_exc hC ?_; first | rw [hcB] | rw [hcA] | rw [hcN]) | wp_step)
  show R _ _
  rw [Heap.size_push]
  exact hq
theorem type_call_kw (F : ExcBaseFacts B newId initId bmB) (hT : ∀ X : String, bm.contains (.type X) = bmB.contains (.type X)) {rest : List Value} {kws : List (Str × Value)} {fI : Addr} {Q : Fin → Shared → Prop}
    (hC : h.get? C = some (excClassObj nm q C N bs bm hdct sn sub ab col dd k0 k1 k2 k3 k5 newId))
    (hi : W.Looks (model prog w) h (typeLookup (.ref C) "__init__") (some (.ref fI))) (hb : ∀ self, W.Looks (model prog w) h (bindSpecial (.ref fI) self) (.ref fI, [self])) (hrest : rest.length ≤ sizeLine)
    (hq : codeAny (model prog w) A (.call (.ref fI) ⟨.ref (h.objs.size + 1) :: rest, kws⟩)
      (fun r s' => match r with | .ok (.ret v) => v = .none ∧ Q (.done (.ret (.ref (h.objs.size + 1)))) s' | .ok _ => False | .error e => E e s')
      ⟨(h.push (W.kdv_tup rest)).push (excO C h.objs.size), g, d, t, os⟩) :
    wpAny (model prog w) A (Builtin.«type.__call__» ⟨.ref C :: rest, kws⟩) Q E ⟨h, g, d, t, os⟩ := by
  repeat (first | with_reducible refine wpAny_loadPart_at hC ?_ | with_reducible refine wpAny_madeBy_exc hC ?_ | wp_step)
  refine codeAny_call_builtin_code (Code.quiet_builtin _ F.quiet) (check_new_kw F hT hC ?_)
  refine new_kw F hT hC ?_ hrest
  show wpAny _ _ _ _ _ _
  have k : ∀ b o, h.get? b = some o → ((h.push (W.kdv_tup rest)).push (excO C h.objs.size)).get? b = some o := fun b o e => Heap.get?_push_of_some _ (Heap.get?_push_of_some _ e)
  have hC₁ := k _ _ hC
  have hget : ((h.push (W.kdv_tup rest)).push (excO C h.objs.size)).get? (h.objs.size + 1) = some (excO C h.objs.size) := by heap_get
  have hcC : (Value.ref C :: bm).contains (.ref C) = true := by simp
  have i1 := hi.keeps k
  have b1 := (hb (.ref (h.objs.size + 1))).keeps k
  unfold isInstance
  repeat (first | with_reducible refine wpAny_loadPart_at hget ?_ | (with_reducible refine wpAny_isSubtype_exc hC₁ ?_; rw [hcC]) | wp_step)
  show wpAny _ _ (typeLookup (.ref C) _) _ _ _
  refine i1.at ?_
  refine wpAny_holding (wpAny_bind (b1.at ?_))
  refine wpAny_bind (wpAny_call (codeAny_mono hq fun r s' z => ?_))
  rcases r with e | (v | _ | _ | _) <;> first | exact z | exact z.elim | skip
  obtain ⟨rfl, z⟩ := z
  first
    | exact wpAny_pure (wpAny_pure z)
    | (wp_walk; exact z)
theorem call_kw (F : ExcBaseFacts B newId initId bmB) (hT : ∀ X : String, bm.contains (.type X) = bmB.contains (.type X)) {rest : List Value} {kws : List (Str × Value)} {fI : Addr}
    (hC : h.get? C = some (excClassObj nm q C N bs bm hdct sn sub ab col dd k0 k1 k2 k3 k5 newId))
    (hi : W.Looks (model prog w) h (typeLookup (.ref C) "__init__") (some (.ref fI))) (hb : ∀ self, W.Looks (model prog w) h (bindSpecial (.ref fI) self) (.ref fI, [self])) (hrest : rest.length ≤ sizeLine)
    (hq : codeAny (model prog w) (A.under (.builtin "type.__call__" ⟨.ref C :: rest, kws⟩)) (.call (.ref fI) ⟨.ref (h.objs.size + 1) :: rest, kws⟩) (W.InitBack (h.objs.size + 1) R)
      ⟨(h.push (W.kdv_tup rest)).push (excO C h.objs.size), g, d, t, os⟩) :
    codeAny (model prog w) A (.call (.ref C) ⟨rest, kws⟩) R ⟨h, g, d, t, os⟩ := by
  have f1 := tc_lookup
  have f2 := tc_bind (.ref C)
  have hTy : (⟨h, g, d, t, os⟩ : Shared).TypeIs (.ref C) "type" := ⟨_, hC, rfl⟩
  refine codeAny_of_tree ?_
  show wpAny _ _ (callAny (.ref C) _) _ _ _
  repeat (any_goals (first | assumption | with_reducible refine wpAny_loadPart_at hC ?_ | wp_step))
  refine ⟨rfl, ?_⟩
  refine codeAny_call_builtin_at (Code.quiet_builtin _ (by decide +kernel)) entry_typeCall (wpAny_check_type_call_sub hC (type_call_kw F hT hC hi hb hrest ?_))
  refine codeAny_mono hq fun r s' z => ?_
  rcases r with e | (v | _ | _ | _) <;> exact z
end
end PySem.HandSPX
namespace DL
open PySem PySem.Spec PyProof.Rows L2
/-- C's run in a call C(..): nothing is let out; the error is told at a -/
theorem run_er {X : Cx} {pins : List (Addr × Obj)} {σ : L2.St} {H : Hp} {s : Shared} {Q : VK} {C fI : Addr} {k : Nat} {fd : FuncData} {ps : List Str} {sp : Sp} {us us2 : List Value} {kw : List (Str × Value)} {vs2 : List V}
    (T : OexC X.K C) (iC : PySem.W.findIn X.K (.ref C) "__init__" = some (some (.ref fI))) (tI : PySem.W.typeIn X.K (.ref fI) = some (.type "function")) (F1 : FnOk X.prog X.w X.K X.mg X.base (L2.CX X.prog X.w) k fI fd ps sp) (hr : Room (k + 1) X.A)
    (I : Inv X pins σ H s) (r : Vals vs2 us2) (hus : us.length ≤ sizeLine) (hb : ∀ (s : Shared) (u : Value), X.K.In s.heap → (u :: us2).length = ps.length → BindsTo s fd ⟨u :: us, kw⟩ (ps.zip (u :: us2)))
    (h : ∀ a, H a = none → sp (.ref a :: vs2) (upd H a (exo a C none)) (fun v H2 => v = .non ∧ Q (.ref a) H2) fun _ _ _ => False) : wpAny (model X.prog X.w) X.A (call (.ref C) us kw) (EP X pins σ Q) X.xe s := by
  obtain ⟨nm, q, N, bs, bm, sn, sub, ab, col, dd, k0, k1, k2, k3, k5, hC, hbm⟩ := T.cls
  obtain ⟨hp, g, dr, tk, os⟩ := s
  have hsz : hp.objs.size ≤ hp.objs.size + 1 := Nat.le_succ _
  have hn : H (hp.objs.size + 1) = none := I.hok.fresh hsz
  have hq := h (hp.objs.size + 1) hn
  have kk : ∀ b o, hp.get? b = some o → ((hp.push (PySem.W.kdv_tup us)).push (PySem.HandSPX.excO C hp.objs.size)).get? b = some o := fun b o e => Heap.get?_push_of_some _ (Heap.get?_push_of_some _ e)
  have hget : ((hp.push (PySem.W.kdv_tup us)).push (PySem.HandSPX.excO C hp.objs.size)).get? (hp.objs.size + 1) = some (PySem.HandSPX.excO C hp.objs.size) := by heap_get
  have I2 : Inv X pins σ (upd H (hp.objs.size + 1) (exo (hp.objs.size + 1) C none)) ⟨(hp.push (PySem.W.kdv_tup us)).push (PySem.HandSPX.excO C hp.objs.size), g, dr, tk, os⟩ :=
    I.laid (t' := tk) (a := hp.objs.size + 1) (o := exo (hp.objs.size + 1) C none) (h' := (hp.push (PySem.W.kdv_tup us)).push (PySem.HandSPX.excO C hp.objs.size)) kk hsz (exo_ok hget)
  have r2 : Vals (V.ref (hp.objs.size + 1) :: vs2) (Value.ref (hp.objs.size + 1) :: us2) := .cons rfl r
  have hl : (Value.ref (hp.objs.size + 1) :: us2).length = ps.length := by
    have e := r2.length
    rw [F1.len _ _ _ _ hq] at e
    exact e.symm
  refine wpAny_call (PySem.HandSPX.call_kw F.excBase_ValueError (fun Y => PySem.HandSPX.refsVE_contains Y bm hbm) (I.kIn _ _ hC) (PySem.W.looks_findIn I.kIn iC) (fun self => PySem.W.bind_fn I.kIn self tI) hus
    (codeAny_mono (F1.run _ X.stack _ _ ⟨Value.ref (hp.objs.size + 1) :: us, kw⟩ (Value.ref (hp.objs.size + 1) :: us2) _ _ (fun _ _ _ => False) (hr.make C us kw) (I2.env0.make C us kw) (hb _ (Value.ref (hp.objs.size + 1)) I2.kIn hl) r2 hq) fun r s' hq' => ?_))
  cases r with
  | error er =>
    obtain ⟨_, _, _, _, _, _, _, _, _, _, _, _, z⟩ := (show L2.CX X.prog X.w X.stack _ _ (fun _ _ _ => False) er s' from hq')
    exact z.elim
  | ok fl =>
    cases fl with
    | ret u =>
      obtain ⟨v, H', I3, rv, ev, q3⟩ := I2.after hq'
      subst ev
      exact ⟨rv, ⟨V.ref (hp.objs.size + 1), H', I3, rfl, q3⟩⟩
    | next => exact False.elim hq'
    | brk => exact False.elim hq'
    | cont => exact False.elim hq'
/-- an error without fields -/
def spEx0 (C : Addr) : Sp := fun vs H Q _ => ∃ a, vs = [.ref a] ∧ H a = some (exo a C none) ∧ Q .non H
theorem exi_len0 {C : Addr} (vs : List V) (H : Hp) (Q : VK) (E : XK) (h : spEx0 C vs H Q E) : vs.length = 1 := by
  obtain ⟨a, rfl, _⟩ := h
  rfl
theorem exi_read0 {K : PySem.W.Frag} {C : Addr} {vs : List V} {H : Hp} {Q : VK} {E : XK} {t : Str} {N : List Str} (T : OexC K C) (h : spEx0 C vs H Q E) (hN : N.length = 1) :
    (tBI K t) { nx := fun _ H' => Q .non H', rt := Q } (L2.start N vs) H := by
  obtain ⟨a, rfl, he, q⟩ := h
  match N, hN with
  | [x0], _ => exact ⟨.ref a, rfl, a, C, [_], rfl, by simp, T, he, q⟩
structure ExC0 (P : Program) (w : World) (K : PySem.W.Frag) (mg : Str → Option Value) (base : Heap) (k : Nat) (c : Str) (C fI : Addr) (fd : FuncData) : Prop where
  mg_ : mg c = some (.ref C)
  ox : OexC K C
  ini : PySem.W.findIn K (.ref C) "__init__" = some (some (.ref fI))
  tI : PySem.W.typeIn K (.ref fI) = some (.type "function")
  fn : FnOk P w K mg base (L2.CX P w) k fI fd ["self"] (spEx0 C)
  bd : Binds K fd ["self"] []
def eMakeE (c : Str) (n : Nat) (a : AM) : EM := fun δ => a δ >>= fun ds => if ds.length = n then pure (.er c ds.reverse) else M.stuck
def eMakeEK (c : Str) (n : Nat) (is : List Nat) (a : AM) : EM := fun δ => a δ >>= fun ds => if ds.length = n then pure (.er c (permL is ds).reverse) else M.stuck
section
variable {X : Cx} {fl : Fls} {Wx : WX} {k n : Nat} {c : Str} {C fI : Addr} {fd : FuncData} {ps fs : List Str} {e : Expr} {es : List Expr} {mA : AM} {p pos : Pos} {ks : List Str} {is : List Nat} {kws : List Keyword}
/-- the error as it is told -/
theorem er_told {ρ : Rho} {st : Store} {H H' : Hp} {a d : Addr} {ds : List D} {vs : List V} {Q : VK} {σ : L2.St} (mt : Mt (XT X fl) ρ st H) (hm : X.mg c = some (.ref C)) (r : RAll (XT X fl) ρ st H ds vs)
    (ha : H a = none) (hd : H d = none) (hne : d ≠ a) (h1 : H' a = some (exo a C (some d))) (h2 : H' d = some (exd d ((fl c).zip vs))) (h3 : ∀ b, b ≠ a → b ≠ d → H' b = H b)
    (q : Post (XT X fl) ρ st H σ Wx (fun v ρ' st' H' => ∀ x, R (XT X fl) ρ' st' H' v x → Q x H') (.ok (.er c ds) st)) : Q (.ref a) H' := by
  have eH : H' = upd (upd H a (exo a C (some d))) d (exd d ((fl c).zip vs)) := by
    funext b
    by_cases hb : b = d
    · rw [hb, upd_same, h2]
    · rw [upd_ne hb]
      by_cases hba : b = a
      · rw [hba, upd_same, h1]
      · rw [upd_ne hba, h3 b hba hb]
  have e1 := Ext.new (ρ := ρ) (st := st) (o := exo a C (some d)) mt ha
  have m1 := mt.new (o := exo a C (some d)) ha
  have hd1 : upd H a (exo a C (some d)) d = none := by rw [upd_ne hne]; exact hd
  have e2 := Ext.new (ρ := ρ) (st := st) (o := exd d ((fl c).zip vs)) m1 hd1
  have m2 := m1.new (o := exd d ((fl c).zip vs)) hd1
  rw [eH]
  refine q ρ _ (e1.trans e2) m2 (.ref a) ?_
  simp only [R]
  refine ⟨a, C, vs, rfl, hm, .inr ⟨d, ?_, mt.notLive ha, upd_same, mt.notLive hd⟩, r.ext (e1.trans e2) _ _⟩
  rw [upd_ne (Ne.symm hne), upd_same]
theorem de_er (T : ExC X.prog X.w X.K X.mg X.base k c C fI fd ps n (fl c)) (hr : RoomG (k + 1) X.A) (hg : Gl X c) (ha : DA X fl Wx (e :: es) mA) (hn : n ≤ 1000)
    (hdb : (c == ("__debug__" : Str)) = false := by decide) (he : starEach (e :: es) X.env = (false, eval e X.env) :: starEach es X.env := by rfl) (hpl : (backTo pos (starEach es X.env)).any (·.1) = false := by rfl) :
    DE X fl Wx (.Call (.Name c p) (e :: es) [] pos) (eMakeE c n mA) := by
  refine ⟨fun pins s σ H Q I ⟨ρ, δ, st, mt, en, h⟩ => ?_⟩
  refine wpAny_Call_Name_kw (ld_glob I hg T.mg_ ?_ hdb)
  have h' : tDA (XT X fl) Wx mA σ H fun vs H1 => ∃ ρ1 st1 ds, Mt (XT X fl) ρ1 st1 H1 ∧ RAll (XT X fl) ρ1 st1 H1 ds vs ∧ ds.length = n ∧ Post (XT X fl) ρ1 st1 H1 σ Wx (fun v ρ' st' H' => ∀ x, R (XT X fl) ρ' st' H' v x → Q x H') (.ok (.er c ds.reverse) st1) := by
    refine ⟨ρ, δ, st, mt, en, (Post.bind h).monoE fun ds ρ1 st1 H1 e1 m1 h1 xs rxs => ?_⟩
    by_cases hl : ds.length = n
    · rw [if_pos hl] at h1
      exact ⟨ρ1, st1, ds, m1, rxs, hl, h1⟩
    · rw [if_neg hl] at h1
      exact False.elim h1
  refine PySem.W.callWith_K (h₀ := X.base) I.ok.mod.kin T.ox.kC (thn (ha.run pos pins s σ H _ I h') fun us s1 ⟨vs, H1, I1, r, ρ1, st1, ds, m1, rxs, hl, q⟩ => ⟨I1.kIn, ?_⟩) he hpl
  have hlv : vs.length = n := by rw [← rxs.length, hl]
  refine run_er (us := us) (kw := []) T.ox T.ini T.tI T.fn hr.rm I1 r (by rw [← r.length, hlv, sizeLine_eq]; omega) (fun s u kin hl => ?_) fun a ha0 => ?_
  · have := T.bd s (u :: us) kin (by simpa using hl)
    simpa using this
  · refine ⟨a, vs, rfl, hlv, upd_same, fun d H' hd hda h2 h3 h4 => ⟨rfl, ?_⟩⟩
    rw [upd_ne hda] at hd
    exact er_told m1 T.mg_ (RAll.reverse rxs) ha0 hd hda h2 h3 (fun b hb1 hb2 => by rw [h4 b hb1 hb2, upd_ne hb1]) q
theorem de_erK (T : ExC X.prog X.w X.K X.mg X.base k c C fI fd ps n (fl c)) (hr : RoomG (k + 1) X.A) (hg : Gl X c) (hb : BindsK X.K fd ps ks is) (hi : ∀ i ∈ is, i < ks.length) (hn : is.length = n) (hkw : PK X kws (tDA (XT X fl) Wx mA))
    (hall : (backToKw pos (keywordEach kws X.env)).all (·.1.isSome) = true := by rfl) (hks : (backToKw pos (keywordEach kws X.env)).filterMap (·.1) = ks := by rfl) (hdb : (c == ("__debug__" : Str)) = false := by decide)
    (hpl : ((backTo pos (starEach [] X.env)).any (·.1) || (backToKw pos (keywordEach kws X.env)).any (·.1.isNone)) = false := by rfl) :
    DE X fl Wx (.Call (.Name c p) [] kws pos) (eMakeEK c ks.length is mA) := by
  refine ⟨fun pins s σ H Q I ⟨ρ, δ, st, mt, en, h⟩ => ?_⟩
  refine wpAny_Call_Name_kw (ld_glob I hg T.mg_ ?_ hdb)
  have h' : tDA (XT X fl) Wx mA σ H fun vs H1 => ∃ ρ1 st1 ds, Mt (XT X fl) ρ1 st1 H1 ∧ RAll (XT X fl) ρ1 st1 H1 ds vs ∧ ds.length = ks.length ∧ Post (XT X fl) ρ1 st1 H1 σ Wx (fun v ρ' st' H' => ∀ x, R (XT X fl) ρ' st' H' v x → Q x H') (.ok (.er c (permL is ds).reverse) st1) := by
    refine ⟨ρ, δ, st, mt, en, (Post.bind h).monoE fun ds ρ1 st1 H1 e1 m1 h1 xs rxs => ?_⟩
    by_cases hl : ds.length = ks.length
    · rw [if_pos hl] at h1
      exact ⟨ρ1, st1, ds, m1, rxs, hl, h1⟩
    · rw [if_neg hl] at h1
      exact False.elim h1
  refine PySem.W.callWith_KW0 (h₀ := X.base) I.ok.mod.kin T.ox.kC hall ?_ hpl
  refine thn (hkw.run pos pins s σ H _ I h') fun ws s2 ⟨zs, H2, I2, rz, ρ1, st1, ds, m1, rxs, hl, q⟩ => ⟨I2.kIn, ?_⟩
  rw [hks]
  have hpl : ∀ {α : Type} (xs : List α), xs.length = ks.length → ∀ js : List Nat, (∀ i ∈ js, i < ks.length) → (permL js xs).length = js.length := by
    intro α xs hx js
    induction js with
    | nil => intro _; rfl
    | cons i js ih =>
      intro hj
      have q : xs[i]? = some (xs[i]'(by rw [hx]; exact hj i List.mem_cons_self)) := List.getElem?_eq_getElem _
      have ih' := ih fun j hm => hj j (List.mem_cons_of_mem _ hm)
      unfold permL at ih' ⊢
      rw [List.filterMap_cons_some q, List.length_cons, ih', List.length_cons]
  have hlz : zs.length = ks.length := by rw [← rxs.length, hl]
  refine run_er (us := []) (kw := ks.zip ws) T.ox T.ini T.tI T.fn hr.rm I2 (vals_perm rz is) (Nat.zero_le _) (fun s u kin _ => hb s u ws kin (by rw [← rz.length, hlz])) fun a ha0 => ?_
  refine ⟨a, permL is zs, rfl, by rw [hpl zs hlz is hi, hn], upd_same, fun d H' hd hda h2 h3 h4 => ⟨rfl, ?_⟩⟩
  rw [upd_ne hda] at hd
  exact er_told m1 T.mg_ (RAll.reverse (rxs.perm is)) ha0 hd hda h2 h3 (fun b hb1 hb2 => by rw [h4 b hb1 hb2, upd_ne hb1]) q
theorem de_er0 (T : ExC0 X.prog X.w X.K X.mg X.base k c C fI fd) (hf : fl c = []) (hr : RoomG (k + 1) X.A) (hg : Gl X c) (hdb : (c == ("__debug__" : Str)) = false := by decide) : DE X fl Wx (.Call (.Name c p) [] [] pos) (eC (.er c [])) := by
  refine ⟨fun pins s σ H Q I ⟨ρ, δ, st, mt, en, h⟩ => ?_⟩
  refine wpAny_Call_Name_kw (ld_glob I hg T.mg_ ?_ hdb)
  refine PySem.W.callWith_K0 I.kIn T.ox.kC ?_
  refine run_er (us := []) (kw := []) (us2 := []) (vs2 := []) T.ox T.ini T.tI T.fn hr.rm I .nil (Nat.zero_le _) (fun s u kin hl => ?_) fun a ha0 => ?_
  · have := T.bd s [u] kin (by simpa using hl)
    simpa using this
  · refine ⟨a, rfl, upd_same, rfl, ?_⟩
    have e1 := Ext.new (ρ := ρ) (st := st) (o := exo a C none) mt ha0
    have m1 := mt.new (o := exo a C none) ha0
    have h : Post (XT X fl) ρ st H σ Wx (fun v ρ' st' H' => ∀ x, R (XT X fl) ρ' st' H' v x → Q x H') (.ok (.er c []) st) := h
    refine h ρ _ e1 m1 (.ref a) ?_
    simp only [R]
    exact ⟨a, C, [], rfl, T.mg_, .inl ⟨upd_same, mt.notLive ha0, hf, rfl⟩, rfl⟩
end
/-! ### fields, classes -/
def fFldE (fl : Str → List Str) (cs : List Str) (f : Str) (_ : Store) (d : D) : Option D := match d with
  | .er c ds => if c ∈ cs then ((fl c).zip ds).lookup f else none
  | _ => none
def ErFld (K : PySem.W.Frag) (mg : Str → Option Value) (cs : List Str) (f : Str) : Prop := ∀ c ∈ cs, ∀ C, mg c = some (.ref C) → ExR K C f
theorem er_inst {X : Cx} {pins : List (Addr × Obj)} {σ : L2.St} {H : Hp} {s : Shared} {lv : Addr → Prop} {a C : Addr} {fs : List Str} {vs : List V} (I : Inv X pins σ H s) (h : ErAt lv H a C fs vs) : ∃ oe od, PySem.W.InstAt s.heap a oe C od := by
  rcases h with ⟨h, _⟩ | ⟨d, h, _, h2, _⟩
  · obtain ⟨t1, e⟩ := exo_at I.hok h
    exact ⟨_, none, e, rfl, rfl, trivial⟩
  · obtain ⟨t1, e⟩ := exo_at I.hok h
    obtain ⟨mA, hns, hrr⟩ := exd_at I.hok h2
    obtain ⟨od, ho, _⟩ := lookIn_ns hns
    exact ⟨_, some od, e, rfl, rfl, ho⟩
section
variable {X : Cx} {fl : Fls} {Wx : WX} {e a b : Expr} {ma : EM} {f : Str} {cs : List Str} {p pos : Pos}
theorem de_fldE (ok : ErFld X.K X.mg cs f) (he : DE X fl Wx e ma) (hb : attributeBase e f X.env (eval e X.env) = eval e X.env := by rfl) : DE X fl Wx (.Attribute e f pos) (e1 (fFldE fl cs f) ma) := by
  refine ⟨fun pins s σ H Q I ⟨ρ, δ, st, mt, en, h⟩ => ?_⟩
  have h' : tD (XT X fl) Wx ma σ H fun x H1 => ∃ ρ1 st1 d, Mt (XT X fl) ρ1 st1 H1 ∧ R (XT X fl) ρ1 st1 H1 d x ∧ Post (XT X fl) ρ1 st1 H1 σ Wx (fun v ρ' st' H' => ∀ x, R (XT X fl) ρ' st' H' v x → Q x H') (lift (fFldE fl cs f st1 d) st1) :=
    ⟨ρ, δ, st, mt, en, (Post.bind h).monoE fun d ρ1 st1 H1 e1 m1 h1 x rx => ⟨ρ1, st1, d, m1, rx, h1⟩⟩
  refine attr_of hb (thn (he.run pins s σ H _ I h') fun u s1 ⟨x, H1, I1, ru, ρ1, st1, d, m1, rx, h1⟩ => ?_)
  obtain ⟨v, hv, q⟩ := Post.lift_inv h1
  unfold fFldE at hv
  split at hv
  · rename_i c ds
    split at hv
    · rename_i hcs
      simp only [R] at rx
      obtain ⟨ad, C, vs, rfl, hc, hE, rds⟩ := rx
      obtain rfl : u = Value.ref ad := ru
      have T := ok c hcs C hc
      obtain ⟨y, hy, ry⟩ := zip_lookup rds hv
      rcases hE with ⟨_, _, z, _⟩ | ⟨dd, k1, _, k2, _⟩
      · have z : (XT X fl).fl c = [] := z
        rw [z] at hy
        cases hy
      · obtain ⟨t1, e1⟩ := exo_at I1.hok k1
        obtain ⟨mA, hns, hrr⟩ := exd_at I1.hok k2
        obtain ⟨od, ho, hl2⟩ := lookIn_ns hns
        obtain ⟨u2, hu, ru⟩ := RelO.some_of (v := y) (o := mA f) (by rw [← hy]; exact hrr f)
        have J : PySem.W.InstAt s1.heap ad _ C (some od) := ⟨e1, rfl, rfl, ho⟩
        exact HandSPX.exc_get I1.kIn J T.ga T.gg T.exC (PySem.W.findObj_own T.hdC T.noN rfl (by rw [hl2, hu])) (handed_of ru) ⟨y, H1, I1.tok _, ru, q ρ1 H1 .refl m1 y ry⟩
    · cases hv
  · cases hv
/-- isinstance of an error -/
def eIsE (tbl : Str → Option Bool) (m : EM) : EM := e1 (fun _ d => match d with | .er c _ => (tbl c).map .bl | _ => none) m
structure ErIsi (K : PySem.W.Frag) (mg : Str → Option Value) (u : Value) (tbl : Str → Option Bool) : Prop where
  ok : ∀ c b, tbl c = some b → ∀ C, mg c = some (.ref C) → ExcC K C ∧ PySem.W.kitOne K (.ref C) u = some b
def rIsV (X : Cx) (fl : Fls) : List V → Hp → VK → Prop := fun xs H Q => ∃ (ρ : Rho) (st : Store) (a C : Addr) (fs : List Str) (vs : List V) (c : V) (u : Value) (b : Bool), xs = [.ref a, c] ∧ ErAt (Live ρ st) H a C fs vs ∧ ClsV c u ∧ ExcC X.K C ∧ PySem.W.kitOne X.K (.ref C) u = some b ∧ Q (.bl b) H
theorem call_isV : CallR X (.builtin "isinstance") (rIsV X fl) := by
  intro pins s σ H xs us Q I r h
  obtain ⟨ρ, st, a, C, fs, vs, c, u, b, rfl, hE, k, T, e, q⟩ := h
  obtain ⟨u1, u2, rfl, r1, r2⟩ := vals2 r
  have e2 := k.eq r2
  subst e2
  obtain rfl : u1 = Value.ref a := r1
  obtain ⟨oe, od, J⟩ := er_inst I hE
  have hcl : (PySem.W.clsIn X.K C).isSome = true := by
    have := T.hd
    unfold PySem.W.hasDictIn at this
    cases q : PySem.W.clsIn X.K C with
    | none => rw [q] at this; cases this
    | some _ => rfl
  exact PySem.W.kia_one (PySem.W.kitx_exc (ox := oe) (od := od) hcl T.hg T.hk T.hs T.ha T.hn T.ht T.hm) I.kIn J e (fun z => nomatch z) fun tk => ⟨.bl b, H, I.tok tk, rfl, q⟩
theorem de_isE {c : V} {u : Value} {tbl : Str → Option Bool} (hg : Gl X "isinstance") (hm : X.mg "isinstance" = none) (hvb : bootBuiltins "isinstance" = some (.builtin "isinstance")) (k : ClsV c u) (ok : ErIsi X.K X.mg u tbl) (ha : DE X fl Wx a ma) (hb : PE X b (tC c))
    (hs : starEach [a, b] X.env = (false, eval a X.env) :: starEach [b] X.env := by rfl) (hs2 : starEach [b] X.env = (false, eval b X.env) :: starEach [] X.env := by rfl) (hpl : (backTo pos (starEach [b] X.env)).any (·.1) = false := by rfl) :
    DE X fl Wx (.Call (.Name "isinstance" p) [a, b] [] pos) (eIsE tbl ma) := by
  refine pe_imp (pe_callB (call_isV (fl := fl)) hg hm hvb (pa_cons ha (pa_cons hb pa_nil hs2) hs) (by decide) (by decide) hs hpl) fun σ H Q h => ?_
  obtain ⟨ρ, δ, st, m, en, h⟩ := h
  refine ⟨ρ, δ, st, m, en, (Post.bind h).monoE fun d ρ1 st1 H1 e1 m1 h1 x rx => ?_⟩
  obtain ⟨v, ev, h2⟩ := Post.lift_inv h1
  dsimp only at ev
  split at ev
  · rename_i cc ds
    obtain ⟨bb, hb1, rfl⟩ := map_some ev
    simp only [R] at rx
    obtain ⟨ad, C, vs, rfl, hc, hE, rds⟩ := rx
    obtain ⟨T, kq⟩ := ok.ok cc bb hb1 C hc
    exact ⟨ρ1, st1, ad, C, _, vs, c, u, bb, rfl, hE, k, T, kq, h2 ρ1 H1 .refl m1 _ R.bl⟩
  · cases ev
end
/-! ### try: raise C(..) / except B: return v -/
def sTryR (n : Nat) (a : AM) (v : D) : SM := fun δ st => match a δ st with
  | .ok ds st' => if ds.length = n then .ok (.ret v, δ) st' else .stuck
  | _ => .stuck
section
variable {X : Cx} {fl : Fls} {E : XK} {k n : Nat} {c B : Str} {C CB fI : Addr} {fd : FuncData} {ps : List Str} {e : Expr} {es : List Expr} {mA : AM} {p pos pos2 pos3 pos4 np pr_ pc : Pos} {j : Nat}
theorem ds_tryR (hs : X.stack = X.env :: X.outer) (hf : X.env.frame = some X.env.locals) (hcm : X.calm = true) (tk : Takes X (wx E)) (T : ExC X.prog X.w X.K X.mg X.base k c C fI fd ps n (fl c)) (hr : RoomG (k + 1) X.A) (hg : Gl X c) (hgB : Gl X B) (hB : X.mg B = some (.ref CB))
    (hx : PySem.W.exmOne X.K (.ref C) (.ref CB) = some true) (ha : ∀ (W : WX) (pn : List (Addr × Obj)) (xe : Value → Shared → Prop), DA (X.tr pn xe) fl W (e :: es) mA) (hn : n ≤ 1000)
    (hdb : (c == ("__debug__" : Str)) = false := by decide) (hdB : (B == ("__debug__" : Str)) = false := by decide) (he : starEach (e :: es) X.env = (false, eval e X.env) :: starEach es X.env := by rfl) (hpl : (backTo pos (starEach es X.env)).any (·.1) = false := by rfl) :
    DS X fl E (.Try [.Raise (some (.Call (.Name c p) (e :: es) [] pos)) none pos2] [.ExceptHandler (some (.Name B np)) none [.Return (some (.Constant (.bool true) j pc)) pr_] pos3] [] [] pos4) (sTryR n mA (.bl true)) := by
  refine ps_imp (ps_try_only (c := .ref CB) (tb := fun W => fun D σ H => tMkO C (spExi C n (fl c)) [] (tDA (XT X fl) W mA) σ H fun cls d H' => W cls d σ H') (ts := fun _ _ _ => tRet (tC (.bl true))) hs hf ⟨hgB, hdB, .inl hB⟩ tk (fun W pn xe tW _ => ?_) (fun a oe cls d pn _ _ => pss_one (ps_ret pe_bl))) fun D σ H ⟨ρ, δ, st, m, en, h⟩ => ?_
  · have hx2 : Passes (L2.CX (X.tr pn xe).prog (X.tr pn xe).w) (X.tr pn xe) (fun _ _ _ => False) := fun _ _ _ _ _ _ _ h => by
      obtain ⟨_, _, _, _, _, _, _, _, _, _, _, _, z⟩ := h
      exact z.elim
    exact pss_one (ps_raise (X := X.tr pn xe) hcm tW (pmk_oex (X := X.tr pn xe) (ds := []) (dvs := []) T.ox T.ini T.tI T.fn hr.rm T.bd .nil hx2 hg T.mg_ (ha W pn xe) hdb he hpl))
  · unfold sTryR at h
    dsimp only at h
    refine ⟨ρ, δ, st, m, en, ?_⟩
    show Post _ _ _ _ _ _ _ (mA δ st)
    cases q : mA δ st with
    | stuck => rw [q] at h; exact False.elim h
    | exc _ _ _ => rw [q] at h; exact False.elim h
    | ok ds st1 =>
      rw [q] at h
      dsimp only at h
      by_cases hl : ds.length = n
      case neg => rw [if_neg hl] at h; exact False.elim h
      rw [if_pos hl] at h
      intro ρ1 H1 e1 m1 xs rxs
      have hlx : xs.length = n := by rw [← rxs.length, hl]
      refine ⟨by omega, fun a ha0 => ?_⟩
      rw [List.append_nil]
      refine ⟨a, xs, rfl, hlx, upd_same, fun d H' hd hda h2 h3 h4 => ⟨rfl, d, _, h2, h3, ?_, ?_⟩⟩
      · rw [upd_ne hda] at hd
        exact hd
      · have hd1 : H1 d = none := by rw [upd_ne hda] at hd; exact hd
        have eH : upd (del H' a) d (.xd ((fl c).zip xs.reverse)) = upd H1 d (.xd ((fl c).zip xs.reverse)) := by
          funext b
          by_cases hb : b = d
          · rw [hb, upd_same, upd_same]
          · rw [upd_ne hb, upd_ne hb]
            by_cases hba : b = a
            · rw [hba, del_same, ha0]
            · rw [del_ne hba, h4 b hba hb, upd_ne hba]
        rw [eH]
        have e2 := Ext.new (ρ := ρ1) (st := st1) (o := .xd ((fl c).zip xs.reverse)) m1 hd1
        refine ⟨true, hx, fun _ a2 _ => ?_, fun z => by cases z⟩
        exact h ρ1 _ (e1.trans e2) (m1.new hd1) _ R.bl
end
end DL
namespace DL
open PySem PySem.Spec PyProof.Rows L2
theorem kit_su {K : PySem.W.Frag} {C D : Addr} {b : Bool} (ne : D ≠ C) (ic : PySem.W.hasDictIn K C = true) (ty : PySem.W.typeIn K (.ref C) = some (.type "type")) (su : PySem.W.subIn K (.ref D) (.ref C) = some b) : PySem.W.kitOne K (.ref D) (.ref C) = some b := by
  unfold PySem.W.kitOne
  rw [if_neg (by simpa using ne)]
  unfold PySem.W.kitCls
  have ic' : (PySem.W.clsIn K C).isSome = true := by
    unfold PySem.W.hasDictIn at ic
    cases q : PySem.W.clsIn K C with
    | none => rw [q] at ic; cases ic
    | some _ => rfl
  simp only [ic', ty]
  exact su
def istT (cs : List Str) (c0 : Str) (c : Str) : Option Bool := if c ∈ cs then some (decide (c = c0)) else none
def istB (cs : List Str) (c : Str) : Option Bool := if c ∈ cs then some true else none
section
variable {K : PySem.W.Frag} {mg : Str → Option Value} {cs : List Str} {c0 : Str} {C0 : Addr}
theorem erIsi_by (h : ∀ c ∈ cs, ∃ C, mg c = some (.ref C) ∧ ExcC K C ∧ PySem.W.kitOne K (.ref C) (.ref C0) = some (decide (c = c0))) : ErIsi K mg (.ref C0) (istT cs c0) := by
  refine ⟨fun c b hb C hC => ?_⟩
  unfold istT at hb
  by_cases hc : c ∈ cs
  · rw [if_pos hc] at hb
    cases hb
    obtain ⟨D, h1, h2, h3⟩ := h c hc
    obtain rfl := ref_eq hC h1
    exact ⟨h2, h3⟩
  · rw [if_neg hc] at hb
    cases hb
theorem erIsi_base (h : ∀ c ∈ cs, ∃ C, mg c = some (.ref C) ∧ ExcC K C ∧ PySem.W.kitOne K (.ref C) (.ref C0) = some true) : ErIsi K mg (.ref C0) (istB cs) := by
  refine ⟨fun c b hb C hC => ?_⟩
  unfold istB at hb
  by_cases hc : c ∈ cs
  · rw [if_pos hc] at hb
    cases hb
    obtain ⟨D, h1, h2, h3⟩ := h c hc
    obtain rfl := ref_eq hC h1
    exact ⟨h2, h3⟩
  · rw [if_neg hc] at hb
    cases hb
theorem erFld_by {f : Str} (h : ∀ c ∈ cs, ∃ C, mg c = some (.ref C) ∧ ExR K C f) : ErFld K mg cs f := fun c hc C hC => by
  obtain ⟨D, h1, h2⟩ := h c hc
  obtain rfl := ref_eq hC h1
  exact h2
end
end DL
/-! DL34: chains, constants of the module, sums, max, zip, tuples times ints, slices. -/
namespace DL
open PySem PySem.Spec PyProof.Rows L2
/-! ### a < b < c of ints -/
def eChain (f g : Int → Int → Bool) (a b c : EM) : EM := fun δ => a δ >>= fun x => b δ >>= fun y => match x, y with
  | .int i, .int j => if f i j = true then c δ >>= fun z => (match z with
    | .int k => pure (.bl (g j k))
    | _ => M.stuck) else pure (.bl false)
  | _, _ => M.stuck
section
variable {X : Cx} {fl : Fls} {Wx : WX} {a b c e : Expr} {ma mb mc : EM} {op op' : CmpOp} {f g : Int → Int → Bool} {pos p p1 p2 p3 : Pos}
theorem chain_go (h : tD (XT X fl) Wx (eChain f g ma mb mc) σ H Q) : tChain (rI0 fun i j => .bl (f i j)) (rI0 fun i j => .bl (g i j)) (tD (XT X fl) Wx ma) (tD (XT X fl) Wx mb) (tD (XT X fl) Wx mc) σ H Q := by
  obtain ⟨ρ, δ, st, m, en, h⟩ := h
  refine ⟨ρ, δ, st, m, en, (Post.bind h).monoE fun x ρ1 st1 H1 e1 m1 h1 vx rx => ?_⟩
  refine ⟨ρ1, δ, st1, m1, en.ext e1, (Post.bind h1).monoE fun y ρ2 st2 H2 e2 m2 h2 vy ry => ?_⟩
  have rx2 := rx.ext e2 _ _
  cases x with
  | int i =>
    cases y with
    | int j =>
      dsimp only at h2
      refine ⟨i, j, R.int_of rx2, R.int_of ry, f i j, rfl, ?_⟩
      cases hf : f i j with
      | false =>
        rw [hf] at h2
        exact h2 ρ2 H2 .refl m2 _ R.bl
      | true =>
        rw [hf] at h2
        refine ⟨ρ2, δ, st2, m2, (en.ext e1).ext e2, (Post.bind h2).monoE fun z ρ3 st3 H3 e3 m3 h3 vz rz => ?_⟩
        cases z with
        | int k => exact ⟨j, k, R.int_of (ry.ext e3 _ _), R.int_of rz, h3 ρ3 H3 .refl m3 _ R.bl⟩
        | _ => exact False.elim h3
    | _ => exact False.elim h2
  | _ => exact False.elim h2
theorem de_chain (ho : OpR X (compareOp op) (rI0 fun i j => .bl (f i j))) (ho' : OpR X (compareOp op') (rI0 fun i j => .bl (g i j))) (ha : DE X fl Wx a ma) (hb : DE X fl Wx b mb) (hc : DE X fl Wx c mc)
    (hm : lastMarks [op, op'] [b, c] = false := by with_unfolding_all rfl) : DE X fl Wx (.Compare a [op, op'] [b, c] pos) (eChain f g ma mb mc) :=
  pe_imp (pe_chain ho ho' ha hb hc hm) fun _ _ _ h => chain_go h
theorem dt_chain (ho : OpR X (compareOp op) (rI0 fun i j => .bl (f i j))) (ho' : OpR X (compareOp op') (rI0 fun i j => .bl (g i j))) (ha : DE X fl Wx a ma) (hb : DE X fl Wx b mb) (hc : DE X fl Wx c mc)
    (hm : lastMarks [op, op'] [b, c] = false := by with_unfolding_all rfl) : DT X fl Wx (.Compare a [op, op'] [b, c] pos) (tOf (eChain f g ma mb mc)) := by
  refine pt_imp (pt_chain ho ho' ha hb hc hm) fun σ H Q h => ?_
  exact chain_go (go_bool h)
/-! ### a number of the module -/
theorem de_gint {x : Str} {i : Int} (hg : Gl X x) (h : ∃ t, X.mg x = some (.int i t)) (hd : (x == ("__debug__" : Str)) = false := by decide) : DE X fl Wx (.Name x pos) (eC (.int i)) := by
  obtain ⟨t, h⟩ := h
  exact de_c (v := V.int i) (pe_glob hg h ⟨t, rfl⟩ hd) fun _ _ _ => R.int
/-! ### sum of a tuple of ints, or a list -/
def intsOf : List D → Option (List Int)
  | [] => some []
  | .int i :: ds => (intsOf ds).map (i :: ·)
  | _ => none
theorem ints_ok {T : Tab} {ρ : Rho} {st : Store} {H : Hp} : ∀ {ds : List D} {vs : List V} {ns : List Int}, RAll T ρ st H ds vs → intsOf ds = some ns → vs = ns.map V.int
  | [], vs, ns, r, h => by
    simp only [RAll] at r
    cases h
    exact r
  | d :: ds, vs, ns, r, h => by
    simp only [RAll] at r
    obtain ⟨x, xs, rfl, r1, r2⟩ := r
    cases d with
    | int b =>
      cases q : intsOf ds with
      | none => simp [intsOf, q] at h
      | some cs =>
        have e : b :: cs = ns := by simpa [intsOf, q] using h
        rw [← e, R.int_of r1, ints_ok r2 q]
        rfl
    | _ => simp [intsOf] at h
def fSum (_ : Store) (ds : List D) : Option D := match ds with
  | [.tup es] => (intsOf es).map fun ns => .int ns.sum
  | [.lst es] => (intsOf es).map fun ns => .int ns.sum
  | _ => none
def rSumA (K : PySem.W.Frag) : List V → Hp → VK → Prop := fun vs H Q => rSum K vs H Q ∨ ∃ (a : Addr) (ns : List Int), vs = [V.ref a] ∧ SqT K H a (ns.map V.int) ∧ Q (.int ns.sum) H
theorem cr_sumA (hc : X.calm = true) : CallR X (.builtin "sum") (rSumA X.K) := by
  intro pins s σ H vs us Q I r h
  rcases h with h | ⟨a, ns, rfl, hs, q⟩
  · exact cr_sum hc pins s σ H vs us Q I r h
  · obtain ⟨its, rv, hl, _⟩ := I.tuple hs
    rw [Vals.ref1 r]
    have hi : IntsAre its ns := Vals.ints rv
    obtain ⟨xs, hx⟩ := hi.allInts.items
    have hn : numsOf its.toArray.toList = ns := by rw [show its.toArray.toList = its from rfl, hi.numsOf]
    have hl : s.heap.IsTuple a its.toArray := hl
    rw [hx] at hl hn
    rw [nums_intItems] at hn
    refine PySem.W.ktm_sumG (I.ok.hd hc) hl fun h' tk t' hk => ?_
    refine ⟨.int ns.sum, H, I.kept hk, ⟨t', ?_⟩, q⟩
    rw [preSum_eq, List.take_of_length_le (by simp), hn]
theorem v_sum {T : Tab} : VN T (rSumA T.K) fSum := by
  intro ρ st H ds xs v Q m rx h q
  unfold fSum at h
  split at h
  · rename_i es
    obtain ⟨x, rfl, r⟩ := rx.one
    obtain ⟨a, vs, e, hq, ra⟩ := r.tup_of
    subst e
    cases hb : intsOf es with
    | none => rw [hb] at h; cases h
    | some bs =>
      rw [hb] at h
      cases h
      refine .inr ⟨a, bs, rfl, ?_, q H _ .refl m R.int⟩
      rw [← ints_ok ra hb]
      exact hq
  · rename_i es
    obtain ⟨x, rfl, r⟩ := rx.one
    obtain ⟨a, vs, e, hq, ra⟩ := r.lst_of
    subst e
    cases hb : intsOf es with
    | none => rw [hb] at h; cases h
    | some bs =>
      rw [hb] at h
      cases h
      refine .inl ⟨a, bs, rfl, ?_, q H _ .refl m R.int⟩
      rw [← ints_ok ra hb]
      exact SqL.of hq
  · cases h
def fMax2 (_ : Store) (ds : List D) : Option D := match ds with
  | [.int i, .int j] => some (.int (if j > i then j else i))
  | _ => none
theorem v_max2 {T : Tab} : VN T (fun xs H Q => ∃ i j, xs = [.int i, .int j] ∧ Q (.int (if j > i then j else i)) H) fMax2 := by
  intro ρ st H ds xs v Q m rx h q
  unfold fMax2 at h
  split at h
  · cases h
    simp only [RAll] at rx
    obtain ⟨x, _, rfl, r1, y, _, rfl, r2, rfl⟩ := rx
    rw [R.int_of r1, R.int_of r2]
    exact ⟨_, _, rfl, q H _ .refl m R.int⟩
  · cases h
/-! ### zip of two tuples or two lists -/
def itZip (a : AM) : IM := fun δ => a δ >>= fun ds => match ds with
  | [.tup xs, .tup ys] => pure ((xs.zip ys).map fun p => .tup [p.1, p.2], none)
  | [.lst xs, .lst ys] => pure ((xs.zip ys).map fun p => .tup [p.1, p.2], none)
  | _ => M.stuck
section
variable {T : Tab} {ρ : Rho} {st : Store} {H : Hp}
theorem zip_get {xs ys : List D} {i : Nat} {d : D} (h : ((xs.zip ys).map fun p => D.tup [p.1, p.2])[i]? = some d) : ∃ x y, d = .tup [x, y] ∧ xs[i]? = some x ∧ ys[i]? = some y := by
  rw [List.getElem?_map] at h
  cases q : (xs.zip ys)[i]? with
  | none => rw [q] at h; cases h
  | some p =>
    rw [q] at h
    cases h
    obtain ⟨x, y⟩ := p
    have := List.getElem?_zip_eq_some.mp q
    exact ⟨x, y, rfl, this.1, this.2⟩
theorem jok_zipT {K : PySem.W.Frag} {a b : Addr} {xs ys : List D} {vs ws : List V} (hK : T.K = K) (ha : (H a = some (.tup vs) ∧ ¬ Live ρ st a) ∨ KTup K a vs) (ra : RAll T ρ st H xs vs) (hb : (H b = some (.tup ws) ∧ ¬ Live ρ st b) ∨ KTup K b ws) (rb : RAll T ρ st H ys ws) :
    JOk T ρ st H (RZ.ItzT K a b) ((xs.zip ys).map fun p => .tup [p.1, p.2]) none := by
  have tup2 : ∀ {ρ2 st2 H2 a vs}, ((H a = some (.tup vs) ∧ ¬ Live ρ st a) ∨ KTup K a vs) → Ext ρ st H ρ2 st2 H2 → SqT K H2 a vs := fun ha e => by
    rcases ha with ⟨h, l⟩ | k
    · exact SqT.of (e.stay _ _ h plain_tup l)
    · exact .inr k
  refine ⟨fun ρ2 st2 H2 e m _ i d hd => ?_, fun ρ2 st2 H2 e m _ i hi => ?_⟩
  · obtain ⟨x, y, rfl, hx, hy⟩ := zip_get hd
    obtain ⟨u, hu, ru⟩ := ra.get hx
    obtain ⟨v, hv, rv⟩ := rb.get hy
    have h2 := tup2 ha e
    have h3 := tup2 hb e
    refine ⟨⟨vs, ws, u, v, h2, h3, hu, hv⟩, fun z H3 ⟨t, u2, v2, e1, e2, e3, e4, e5⟩ => ?_⟩
    have q1 := e4 vs h2
    have q2 := e5 ws h3
    rw [hu] at q1
    rw [hv] at q2
    cases q1
    cases q2
    subst e1
    subst e3
    have ee := Ext.new (ρ := ρ2) (st := st2) (o := .tup [u, v]) m e2
    refine ⟨ee, m.new e2, ?_⟩
    simp only [R]
    exact ⟨t, _, rfl, .inl ⟨upd_same, m.notLive e2⟩, .cons ((ru.ext e _ _).ext ee _ _) (.cons ((rv.ext e _ _).ext ee _ _) .nil)⟩
  · refine ⟨vs, ws, tup2 ha e, tup2 hb e, ?_⟩
    rw [List.length_map, List.length_zip] at hi
    rw [← ra.length, ← rb.length]
    omega
theorem jok_zipL {K : PySem.W.Frag} {a b : Addr} {xs ys : List D} {vs ws : List V} (ha : H a = some (.lst vs) ∧ ¬ Live ρ st a) (ra : RAll T ρ st H xs vs) (hb : H b = some (.lst ws) ∧ ¬ Live ρ st b) (rb : RAll T ρ st H ys ws) :
    JOk T ρ st H (Itz K a b) ((xs.zip ys).map fun p => .tup [p.1, p.2]) none := by
  refine ⟨fun ρ2 st2 H2 e m _ i d hd => ?_, fun ρ2 st2 H2 e m _ i hi => ?_⟩
  · obtain ⟨x, y, rfl, hx, hy⟩ := zip_get hd
    obtain ⟨u, hu, ru⟩ := ra.get hx
    obtain ⟨v, hv, rv⟩ := rb.get hy
    have h2 : SqL K H2 a vs := SqL.of (e.stay _ _ ha.1 plain_lst ha.2)
    have h3 : SqL K H2 b ws := SqL.of (e.stay _ _ hb.1 plain_lst hb.2)
    refine ⟨⟨vs, ws, u, v, h2, h3, hu, hv⟩, fun z H3 ⟨t, u2, v2, e1, e2, e3, e4, e5⟩ => ?_⟩
    have q1 := e4 vs h2
    have q2 := e5 ws h3
    rw [hu] at q1
    rw [hv] at q2
    cases q1
    cases q2
    subst e1
    subst e3
    have ee := Ext.new (ρ := ρ2) (st := st2) (o := .tup [u, v]) m e2
    refine ⟨ee, m.new e2, ?_⟩
    simp only [R]
    exact ⟨t, _, rfl, .inl ⟨upd_same, m.notLive e2⟩, .cons ((ru.ext e _ _).ext ee _ _) (.cons ((rv.ext e _ _).ext ee _ _) .nil)⟩
  · refine ⟨vs, ws, SqL.of (e.stay _ _ ha.1 plain_lst ha.2), SqL.of (e.stay _ _ hb.1 plain_lst hb.2), ?_⟩
    rw [List.length_map, List.length_zip] at hi
    rw [← ra.length, ← rb.length]
    omega
end
theorem di_zip {e2 : Expr} {mA : AM} {elts : List Expr} {kk : Nat} {tpos : Pos} (hg : Gl X "zip") (hm : X.mg "zip" = none) (ha : DA X fl Wx [e, e2] mA)
    (hs : starEach [e, e2] X.env = (false, eval e X.env) :: starEach [e2] X.env := by rfl) (hpl : (backTo pos (starEach [e2] X.env)).any (·.1) = false := by rfl) : DI X fl Wx (.Tuple elts kk tpos) (.Call (.Name "zip" p) [e, e2] [] pos) (itZip mA) := by
  refine pi_imp (RZ.pi_zipA hg hm ha hs hpl) fun σ H Rr ⟨ρ, δ, st, mt, en, h⟩ => ?_
  refine ⟨ρ, δ, st, mt, en, (Post.bind h).monoE fun ds ρ1 st1 H1 e1 m1 h1 vs rs => ?_⟩
  split at h1
  · rename_i xs ys
    simp only [RAll] at rs
    obtain ⟨x, _, rfl, r1, y, _, rfl, r2, rfl⟩ := rs
    simp only [R] at r1 r2
    obtain ⟨a, vs, rfl, qa, ra⟩ := r1
    obtain ⟨b, ws, rfl, qb, rb⟩ := r2
    exact ⟨a, b, vs, ws, rfl, .inr ⟨qa.elim (fun z => SqT.of z.1) .inr, qb.elim (fun z => SqT.of z.1) .inr, h1 ρ1 H1 .refl m1 _ (jok_zipT rfl qa ra qb rb)⟩⟩
  · rename_i xs ys
    simp only [RAll] at rs
    obtain ⟨x, _, rfl, r1, y, _, rfl, r2, rfl⟩ := rs
    simp only [R] at r1 r2
    obtain ⟨a, vs, rfl, qa, la, ra⟩ := r1
    obtain ⟨b, ws, rfl, qb, lb, rb⟩ := r2
    exact ⟨a, b, vs, ws, rfl, .inl ⟨SqL.of qa, SqL.of qb, h1 ρ1 H1 .refl m1 _ (jok_zipL ⟨qa, la⟩ ra ⟨qb, lb⟩ rb)⟩⟩
  · exact False.elim h1
end
end DL
/-! DL35: ints in tuples: their order; a > b; sorted. -/
namespace DL
open PySem PySem.Spec PyProof.Rows L2
mutual
/-- of one build, ints apart -/
def shp : PyData → PyData → Bool
  | .int _, .int _ => true
  | .tuple xs, .tuple ys => shpAll xs ys
  | _, _ => false
def shpAll : List PyData → List PyData → Bool
  | [], [] => true
  | x :: xs, y :: ys => shp x y && shpAll xs ys
  | _, _ => false
end
mutual
def flatP : PyData → List Int
  | .int i => [i]
  | .tuple xs => flatAll xs
  | _ => []
def flatAll : List PyData → List Int
  | [] => []
  | x :: xs => flatP x ++ flatAll xs
end
mutual
theorem shp_len : ∀ p q, shp p q = true → (flatP p).length = (flatP q).length
  | .int _, .int _, _ => rfl
  | .tuple xs, .tuple ys, h => by
    simp only [flatP]
    exact shpAll_len xs ys (by simpa [shp] using h)
  | .none, q, h => by simp [shp] at h
  | .bool _, q, h => by simp [shp] at h
  | .str _, q, h => by simp [shp] at h
  | .list _, q, h => by simp [shp] at h
  | .dict _, q, h => by simp [shp] at h
  | .int _, .none, h => by simp [shp] at h
  | .int _, .bool _, h => by simp [shp] at h
  | .int _, .str _, h => by simp [shp] at h
  | .int _, .list _, h => by simp [shp] at h
  | .int _, .dict _, h => by simp [shp] at h
  | .int _, .tuple _, h => by simp [shp] at h
  | .tuple _, .none, h => by simp [shp] at h
  | .tuple _, .bool _, h => by simp [shp] at h
  | .tuple _, .str _, h => by simp [shp] at h
  | .tuple _, .list _, h => by simp [shp] at h
  | .tuple _, .dict _, h => by simp [shp] at h
  | .tuple _, .int _, h => by simp [shp] at h
theorem shpAll_len : ∀ xs ys, shpAll xs ys = true → (flatAll xs).length = (flatAll ys).length
  | [], [], _ => rfl
  | x :: xs, y :: ys, h => by
    simp only [shpAll, Bool.and_eq_true] at h
    simp only [flatAll, List.length_append, shp_len x y h.1, shpAll_len xs ys h.2]
  | [], _ :: _, h => by simp [shpAll] at h
  | _ :: _, [], h => by simp [shpAll] at h
end
theorem shp_int {q : PyData} {i : Int} (h : shp (.int i) q = true) : ∃ j, q = .int j := by
  cases q with
  | int j => exact ⟨j, rfl⟩
  | _ => simp [shp] at h
theorem shp_tup {q : PyData} {xs : List PyData} (h : shp (.tuple xs) q = true) : ∃ ys, q = .tuple ys ∧ shpAll xs ys = true := by
  cases q with
  | tuple ys => exact ⟨ys, rfl, by simpa [shp] using h⟩
  | _ => simp [shp] at h
mutual
theorem shp_eqv : ∀ p q, shp p q = true → PyData.eqv p q = decide (flatP p = flatP q)
  | .int i, q, h => by
    obtain ⟨j, rfl⟩ := shp_int h
    simp only [PyData.eqv, flatP, List.cons.injEq, and_true]
    by_cases e : i = j
    · rw [e]; simp
    · rw [decide_eq_false e]; simpa using e
  | .tuple xs, q, h => by
    obtain ⟨ys, rfl, h2⟩ := shp_tup h
    simp only [PyData.eqv, flatP]
    exact shpAll_eqv xs ys h2
  | .none, q, h => by simp [shp] at h
  | .bool _, q, h => by simp [shp] at h
  | .str _, q, h => by simp [shp] at h
  | .list _, q, h => by simp [shp] at h
  | .dict _, q, h => by simp [shp] at h
theorem shpAll_eqv : ∀ xs ys, shpAll xs ys = true → PyData.eqvAll xs ys = decide (flatAll xs = flatAll ys)
  | [], [], _ => rfl
  | x :: xs, y :: ys, h => by
    simp only [shpAll, Bool.and_eq_true] at h
    simp only [PyData.eqvAll, shp_eqv x y h.1, shpAll_eqv xs ys h.2]
    have hl := shp_len x y h.1
    rw [Bool.eq_iff_iff, Bool.and_eq_true, decide_eq_true_iff, decide_eq_true_iff, decide_eq_true_iff]
    show _ ↔ flatP x ++ flatAll xs = flatP y ++ flatAll ys
    exact ⟨fun ⟨e1, e2⟩ => by rw [e1, e2], fun z => List.append_inj z hl⟩
  | [], _ :: _, h => by simp [shpAll] at h
  | _ :: _, [], h => by simp [shpAll] at h
end
mutual
theorem shp_lay : ∀ p q, shp p q = true → p.canLay0 = true
  | .int i, q, h => rfl
  | .tuple xs, q, h => by
    obtain ⟨ys, rfl, h2⟩ := shp_tup h
    simp only [PyData.canLay0]
    exact shpAll_lay xs ys h2
  | .none, q, h => by simp [shp] at h
  | .bool _, q, h => by simp [shp] at h
  | .str _, q, h => by simp [shp] at h
  | .list _, q, h => by simp [shp] at h
  | .dict _, q, h => by simp [shp] at h
theorem shpAll_lay : ∀ xs ys, shpAll xs ys = true → PyData.canLayAll0 xs = true
  | [], [], _ => rfl
  | x :: xs, y :: ys, h => by
    simp only [shpAll, Bool.and_eq_true] at h
    simp only [PyData.canLayAll0, shp_lay x y h.1, shpAll_lay xs ys h.2, Bool.and_self]
  | [], _ :: _, h => by simp [shpAll] at h
  | _ :: _, [], h => by simp [shpAll] at h
end
mutual
theorem shp_sym : ∀ p q, shp p q = true → shp q p = true
  | .int i, q, h => by
    obtain ⟨j, rfl⟩ := shp_int h
    rfl
  | .tuple xs, q, h => by
    obtain ⟨ys, rfl, h2⟩ := shp_tup h
    simp only [shp]
    exact shpAll_sym xs ys h2
  | .none, q, h => by simp [shp] at h
  | .bool _, q, h => by simp [shp] at h
  | .str _, q, h => by simp [shp] at h
  | .list _, q, h => by simp [shp] at h
  | .dict _, q, h => by simp [shp] at h
theorem shpAll_sym : ∀ xs ys, shpAll xs ys = true → shpAll ys xs = true
  | [], [], _ => rfl
  | x :: xs, y :: ys, h => by
    simp only [shpAll, Bool.and_eq_true] at h ⊢
    exact ⟨shp_sym x y h.1, shpAll_sym xs ys h.2⟩
  | [], _ :: _, h => by simp [shpAll] at h
  | _ :: _, [], h => by simp [shpAll] at h
end
mutual
theorem shp_tr : ∀ p q r, shp p q = true → shp q r = true → shp p r = true
  | .int i, q, r, h, h' => by
    obtain ⟨j, rfl⟩ := shp_int h
    obtain ⟨k, rfl⟩ := shp_int h'
    rfl
  | .tuple xs, q, r, h, h' => by
    obtain ⟨ys, rfl, h2⟩ := shp_tup h
    obtain ⟨zs, rfl, h3⟩ := shp_tup h'
    simp only [shp]
    exact shpAll_tr xs ys zs h2 h3
  | .none, q, r, h, _ => by simp [shp] at h
  | .bool _, q, r, h, _ => by simp [shp] at h
  | .str _, q, r, h, _ => by simp [shp] at h
  | .list _, q, r, h, _ => by simp [shp] at h
  | .dict _, q, r, h, _ => by simp [shp] at h
theorem shpAll_tr : ∀ xs ys zs, shpAll xs ys = true → shpAll ys zs = true → shpAll xs zs = true
  | [], [], zs, _, h => h
  | x :: xs, y :: ys, zs, h, h' => by
    cases zs with
    | nil => simp [shpAll] at h'
    | cons z zs =>
      simp only [shpAll, Bool.and_eq_true] at h h' ⊢
      exact ⟨shp_tr x y z h.1 h'.1, shpAll_tr xs ys zs h.2 h'.2⟩
  | [], _ :: _, _, h, _ => by simp [shpAll] at h
  | _ :: _, [], _, h, _ => by simp [shpAll] at h
end
theorem lex_app : ∀ {a a' b b' : List Int}, a.length = a'.length → HT.lexLt (a ++ b) (a' ++ b') = if a = a' then HT.lexLt b b' else HT.lexLt a a'
  | [], [], b, b', _ => by simp
  | x :: a, y :: a', b, b', h => by
    have ih := lex_app (a := a) (a' := a') (b := b) (b' := b') (by simpa using h)
    rw [List.cons_append, List.cons_append, HT.lexLt_cons, HT.lexLt_cons, ih]
    by_cases e : x = y
    · subst e
      by_cases e2 : a = a'
      · subst e2; simp
      · simp [e2]
    · simp [e]
  | [], _ :: _, _, _, h => by simp at h
  | _ :: _, [], _, _, h => by simp at h
/-- lexAt of the parts is the order of the whole -/
theorem lexAt_flat {e r : Nat → Bool} : ∀ (xs ys : List PyData) (i : Nat), shpAll xs ys = true → (∀ j, j < xs.length → e (i + j) = decide (flatP (xs.getD j .none) = flatP (ys.getD j .none)) ∧ (e (i + j) = false → r (i + j) = HT.lexLt (flatP (xs.getD j .none)) (flatP (ys.getD j .none)))) →
    Ob.lexAt e r false i xs.length = HT.lexLt (flatAll xs) (flatAll ys)
  | [], [], i, _, _ => rfl
  | x :: xs, y :: ys, i, h, hj => by
    simp only [shpAll, Bool.and_eq_true] at h
    have ih := lexAt_flat xs ys (i + 1) h.2 fun j hl => by
      have := hj (j + 1) (by simpa using hl)
      simpa [Nat.add_assoc, Nat.add_comm 1 j] using this
    obtain ⟨h0, h1⟩ := hj 0 (by simp)
    simp only [Nat.add_zero, List.getD_cons_zero] at h0 h1
    rw [List.length_cons, Ob.lexAt_succ]
    simp only [flatAll]
    rw [lex_app (shp_len x y h.1)]
    by_cases q : flatP x = flatP y
    · rw [decide_eq_true q] at h0
      rw [h0, if_pos rfl, if_pos q, ih]
    · rw [decide_eq_false q] at h0
      rw [h0, if_neg (by simp), if_neg q, h1 h0]
  | [], _ :: _, _, h, _ => by simp [shpAll] at h
  | _ :: _, [], _, h, _ => by simp [shpAll] at h
/-- the same, the other way round -/
theorem lexAt_flatG {e r : Nat → Bool} : ∀ (xs ys : List PyData) (i : Nat), shpAll xs ys = true → (∀ j, j < xs.length → e (i + j) = decide (flatP (xs.getD j .none) = flatP (ys.getD j .none)) ∧ (e (i + j) = false → r (i + j) = HT.lexLt (flatP (ys.getD j .none)) (flatP (xs.getD j .none)))) →
    Ob.lexAt e r false i xs.length = HT.lexLt (flatAll ys) (flatAll xs)
  | [], [], i, _, _ => rfl
  | x :: xs, y :: ys, i, h, hj => by
    simp only [shpAll, Bool.and_eq_true] at h
    have ih := lexAt_flatG xs ys (i + 1) h.2 fun j hl => by
      have := hj (j + 1) (by simpa using hl)
      simpa [Nat.add_assoc, Nat.add_comm 1 j] using this
    obtain ⟨h0, h1⟩ := hj 0 (by simp)
    simp only [Nat.add_zero, List.getD_cons_zero] at h0 h1
    rw [List.length_cons, Ob.lexAt_succ]
    simp only [flatAll]
    rw [lex_app (shp_len x y h.1).symm]
    by_cases q : flatP x = flatP y
    · rw [decide_eq_true q] at h0
      rw [h0, if_pos rfl, if_pos q.symm, ih]
    · rw [decide_eq_false q] at h0
      rw [h0, if_neg (by simp), if_neg (Ne.symm q), h1 h0]
  | [], _ :: _, _, h, _ => by simp [shpAll] at h
  | _ :: _, [], _, h, _ => by simp [shpAll] at h
theorem readsAll_len {h : Heap} : ∀ {vs : List Value} {ds : List PyData} {as : List Addr}, ReadsAll h vs ds as → vs.length = ds.length
  | _, _, _, .nil => rfl
  | _, _, _, .cons _ r => by simp [readsAll_len r]
theorem readsAll_at {h : Heap} : ∀ {vs : List Value} {ds : List PyData} {as : List Addr} {j : Nat}, ReadsAll h vs ds as → (hj : j < vs.length) → ∃ bs, Reads h vs[j] (ds.getD j .none) bs
  | _, _, _, j, .cons r rs, hj => by
    cases j with
    | zero => exact ⟨_, r⟩
    | succ j =>
      have := readsAll_at (j := j) rs (by simpa using hj)
      simpa using this
theorem shpAll_at : ∀ {xs ys : List PyData} {j : Nat}, shpAll xs ys = true → j < xs.length → shp (xs.getD j .none) (ys.getD j .none) = true
  | x :: xs, y :: ys, j, h, hj => by
    simp only [shpAll, Bool.and_eq_true] at h
    cases j with
    | zero => simpa using h.1
    | succ j => simpa using shpAll_at (j := j) h.2 (by simpa using hj)
  | [], _, j, _, hj => by simp at hj
  | _ :: _, [], _, h, _ => by simp [shpAll] at h
theorem shpAll_length : ∀ {xs ys : List PyData}, shpAll xs ys = true → xs.length = ys.length
  | [], [], _ => rfl
  | x :: xs, y :: ys, h => by
    simp only [shpAll, Bool.and_eq_true] at h
    simp [shpAll_length h.2]
  | [], _ :: _, h => by simp [shpAll] at h
  | _ :: _, [], h => by simp [shpAll] at h
theorem depthAll_at : ∀ {xs : List PyData} {j : Nat}, j < xs.length → (xs.getD j .none).depth ≤ PyData.depthAll xs
  | x :: xs, 0, _ => by simp only [List.getD_cons_zero, PyData.depthAll]; omega
  | x :: xs, j + 1, h => by
    have := depthAll_at (xs := xs) (j := j) (by simpa using h)
    simp only [List.getD_cons_succ, PyData.depthAll]
    omega
  | [], j, h => by simp at h
theorem eqAt_shp {A : Around} {s : Shared} {p q : PyData} {a b : Value} {as bs : List Addr} (h : shp p q = true) (ra : Reads s.heap a p as) (rb : Reads s.heap b q bs) (hu : A.units + p.depth < cLine) : SeqAt.EqAt A s a b (decide (flatP p = flatP q)) := by
  rw [← shp_eqv p q h]
  exact SeqAt.eqAt_reads p q A s a b as bs ra rb (shp_lay p q h) (shp_lay q p (shp_sym p q h)) (by omega)
/-- p < q, p > q -/
theorem rc_shp : ∀ (n : Nat) (p q : PyData) (A : Around) (s : Shared) (a b : Value) (as bs : List Addr), p.depth ≤ n → shp p q = true → Reads s.heap a p as → Reads s.heap b q bs → A.units + p.depth < cLine →
    Ob.RcOp .Lt A s a b (HT.lexLt (flatP p) (flatP q)) ∧ Ob.RcOp .Gt A s a b (HT.lexLt (flatP q) (flatP p))
  | n, .int i, q, A, s, a, b, as, bs, hn, h, ra, rb, hu => by
    obtain ⟨j, rfl⟩ := shp_int h
    cases ra
    cases rb
    have e1 : HT.lexLt (flatP (.int i)) (flatP (.int j)) = decide (i < j) := by
      simp only [flatP, HT.lexLt_cons, HT.lexLt_nil_nil]
      by_cases e : i = j
      · rw [if_pos e, decide_eq_false (by omega)]
      · rw [if_neg e]
    have e2 : HT.lexLt (flatP (.int j)) (flatP (.int i)) = decide (j < i) := by
      simp only [flatP, HT.lexLt_cons, HT.lexLt_nil_nil]
      by_cases e : j = i
      · rw [if_pos e, decide_eq_false (by omega)]
      · rw [if_neg e]
    rw [e1, e2]
    exact ⟨Ob.RcOp.lt_int _ _ _ _, Ob.RcOp.gt_int _ _ _ _⟩
  | 0, .tuple xs, q, A, s, a, b, as, bs, hn, h, ra, rb, hu => by simp [PyData.depth] at hn
  | n + 1, .tuple xs, q, A, s, a, b, as, bs, hn, h, ra, rb, hu => by
    obtain ⟨ys, rfl, h2⟩ := shp_tup h
    obtain ⟨⟩ := ra
    rename_i l o vs nn ho hc hd rs
    obtain ⟨⟩ := rb
    rename_i l2 o2 ws nn2 ho2 hc2 hd2 rs2
    have hl : s.heap.IsTuple l vs := ⟨o, ho, hc, nn, hd⟩
    have hl2 : s.heap.IsTuple l2 ws := ⟨o2, ho2, hc2, nn2, hd2⟩
    have z1 : vs.size = xs.length := by rw [← readsAll_len rs, Array.length_toList]
    have z2 : ws.size = ys.length := by rw [← readsAll_len rs2, Array.length_toList]
    have z3 := shpAll_length h2
    simp only [PyData.depth] at hn hu
    have at1 : ∀ j (h1 : j < vs.size), ∃ cs, Reads s.heap vs[j] (xs.getD j .none) cs := fun j h1 => by
      have := readsAll_at rs (j := j) (by simpa using h1)
      simpa using this
    have at2 : ∀ j (h1 : j < ws.size), ∃ cs, Reads s.heap ws[j] (ys.getD j .none) cs := fun j h1 => by
      have := readsAll_at rs2 (j := j) (by simpa using h1)
      simpa using this
    have un : (A.in1).units = A.units + 1 := rfl
    have he : ∀ j (h1 : j < vs.size) (h3 : j < ws.size), SeqAt.EqAt A.in1 s vs[j] ws[j] (decide (flatP (xs.getD j .none) = flatP (ys.getD j .none))) := fun j h1 h3 => by
      obtain ⟨cs, r1⟩ := at1 j h1
      obtain ⟨ds, r2⟩ := at2 j h3
      have := depthAll_at (xs := xs) (j := j) (by omega)
      exact eqAt_shp (shpAll_at h2 (by omega)) r1 r2 (by rw [un]; omega)
    have hr : ∀ j (h1 : j < vs.size) (h3 : j < ws.size), Ob.RcOp .Lt A.in1 s vs[j] ws[j] (HT.lexLt (flatP (xs.getD j .none)) (flatP (ys.getD j .none))) ∧ Ob.RcOp .Gt A.in1 s vs[j] ws[j] (HT.lexLt (flatP (ys.getD j .none)) (flatP (xs.getD j .none))) := fun j h1 h3 => by
      obtain ⟨cs, r1⟩ := at1 j h1
      obtain ⟨ds, r2⟩ := at2 j h3
      have := depthAll_at (xs := xs) (j := j) (by omega)
      exact rc_shp n _ _ _ _ _ _ _ _ (by omega) (shpAll_at h2 (by omega)) r1 r2 (by rw [un]; omega)
    have L := Ob.RcOp.tuples_lt hl hl2 (by omega) he fun j h1 h3 _ => (hr j h1 h3).1
    have G := Ob.RcOp.tuples_gt hl hl2 (by omega) he fun j h1 h3 _ => (hr j h1 h3).2
    have m1 : min vs.size ws.size = xs.length := by omega
    rw [m1, decide_eq_false (by omega), lexAt_flat xs ys 0 h2 fun j hj => by simp] at L
    rw [m1, decide_eq_false (by omega), lexAt_flatG xs ys 0 h2 fun j hj => by simp] at G
    exact ⟨L, G⟩
  | _, .none, q, _, _, _, _, _, _, _, h, _, _, _ => by simp [shp] at h
  | _, .bool _, q, _, _, _, _, _, _, _, h, _, _, _ => by simp [shp] at h
  | _, .str _, q, _, _, _, _, _, _, _, h, _, _, _ => by simp [shp] at h
  | _, .list _, q, _, _, _, _, _, _, _, h, _, _, _ => by simp [shp] at h
  | _, .dict _, q, _, _, _, _, _, _, _, h, _, _, _ => by simp [shp] at h
/-! ### a > b -/
def fGtD (st : Store) (d e : D) : Option D := match d, e with
  | .tup _, .tup _ => match toPy st 60 d, toPy st 60 e with
    | some p, some q => if shp p q = true ∧ p.depth ≤ 60 then some (.bl (HT.lexLt (flatP q) (flatP p))) else none
    | _, _ => none
  | _, _ => none
def rGtD (T : Tab) : R2 := fun x y H Q => ∃ ρ st d e p q, Mt T ρ st H ∧ R T ρ st H d x ∧ R T ρ st H e y ∧ toPy st 60 d = some p ∧ toPy st 60 e = some q ∧ shp p q = true ∧ p.depth ≤ 60 ∧ Q (.bl (HT.lexLt (flatP q) (flatP p))) H
theorem op_gtD {X : Cx} {fl : Fls} {k : Nat} (hr : RoomG k X.A) (hS : SysB X.base) : OpR X (compareOp .Gt) (rGtD (XT X fl)) := by
  intro pins s σ H x y v u Q I rx ry h
  obtain ⟨ρ, st, d, e, p, q, m, rd, re, hp, hq, hs, hd, hQ⟩ := h
  obtain ⟨as, g1, _⟩ := toPy_reads hS I m 60 d x v p rd rx hp
  obtain ⟨bs, g2, _⟩ := toPy_reads hS I m 60 e y u q re ry hq
  have un := hr.rm.un
  exact (rc_shp 60 p q X.A s v u as bs hd hs g1 g2 (by omega)).2 X.prog X.w X.xe _ ⟨.bl _, H, I, rfl, hQ⟩
theorem v_gtD {T : Tab} : V2 T (rGtD T) fGtD := by
  intro ρ st H d e x y v Q m rx ry h hq
  unfold fGtD at h
  split at h
  · split at h
    · rename_i p q hp hq2
      split at h
      · rename_i hc
        cases h
        exact ⟨ρ, st, _, _, p, q, m, rx, ry, hp, hq2, hc.1, hc.2, hq H _ .refl m R.bl⟩
      · cases h
    · cases h
  · cases h

/-! ### sorted -/
def insK {α : Type} (x : List Int × α) : List (List Int × α) → List (List Int × α)
  | [] => [x]
  | y :: l => if HT.lexLt y.1 x.1 = true then y :: insK x l else x :: y :: l
def sortK {α : Type} : List (List Int × α) → List (List Int × α)
  | [] => []
  | x :: l => insK x (sortK l)
section
variable {α β : Type}
abbrev ltK (x y : List Int × α) : Bool := HT.lexLt x.1 y.1
theorem swoK : SrtO.Swo (ltK (α := α)) := NtL.swo_lexL (fun x : List Int × α => x.1)
theorem insK_mem {x z : List Int × α} : ∀ {l : List (List Int × α)}, z ∈ insK x l → z = x ∨ z ∈ l
  | [], h => by
    simp only [insK, List.mem_cons, List.not_mem_nil, or_false] at h
    exact .inl h
  | y :: l, h => by
    unfold insK at h
    split at h
    · rcases List.mem_cons.mp h with e | h
      · exact .inr (by rw [e]; exact List.mem_cons_self)
      · rcases insK_mem h with e | h
        · exact .inl e
        · exact .inr (List.mem_cons_of_mem _ h)
    · rcases List.mem_cons.mp h with e | h
      · exact .inl e
      · exact .inr h
theorem insK_srtd {x : List Int × α} : ∀ {l : List (List Int × α)}, SrtO.Srtd ltK l → SrtO.Srtd ltK (insK x l)
  | [], _ => SrtO.srtd_one x
  | y :: l, h => by
    obtain ⟨h1, h2⟩ := List.pairwise_cons.mp h
    unfold insK
    split
    · rename_i hc
      refine List.pairwise_cons.mpr ⟨fun z hz => ?_, insK_srtd h2⟩
      rcases insK_mem hz with e | hz
      · rw [e]
        exact swoK.asym y x hc
      · exact h1 z hz
    · rename_i hc
      have hc : ltK y x = false := by simpa using hc
      exact List.pairwise_cons.mpr ⟨swoK.le_all h hc, h⟩
theorem insK_stb {x : List Int × α} : ∀ {l : List (List Int × α)}, SrtO.Stb ltK (insK x l) (x :: l)
  | [] => .refl _
  | y :: l => by
    unfold insK
    split
    · rename_i hc
      have h1 : SrtO.Stb ltK (y :: insK x l) (y :: x :: l) := SrtO.Stb.app (SrtO.Stb.refl [y]) insK_stb
      have h2 : SrtO.Stb ltK ([y] ++ [x]) ([x] ++ [y]) := SrtO.Stb.swap swoK fun a ha b hb => by
        rw [List.mem_singleton.mp ha, List.mem_singleton.mp hb]
        exact hc
      exact h1.trans (SrtO.Stb.app h2 (SrtO.Stb.refl l))
    · exact .refl _
theorem sortK_srtd : ∀ l : List (List Int × α), SrtO.Srtd ltK (sortK l)
  | [] => List.Pairwise.nil
  | x :: l => insK_srtd (sortK_srtd l)
theorem sortK_stb : ∀ l : List (List Int × α), SrtO.Stb ltK (sortK l) l
  | [] => .refl _
  | x :: l => insK_stb.trans (SrtO.Stb.app (SrtO.Stb.refl [x]) (sortK_stb l))
/-- the same keys, things that go together -/
def Par (r : α → β → Prop) : List (List Int × α) → List (List Int × β) → Prop
  | [], [] => True
  | x :: l, y :: m => x.1 = y.1 ∧ r x.2 y.2 ∧ Par r l m
  | _, _ => False
theorem Par.ins {r : α → β → Prop} {x : List Int × α} {y : List Int × β} (h1 : x.1 = y.1) (h2 : r x.2 y.2) : ∀ {l : List (List Int × α)} {m : List (List Int × β)}, Par r l m → Par r (insK x l) (insK y m)
  | [], [], _ => ⟨h1, h2, trivial⟩
  | z :: l, w :: m, h => by
    obtain ⟨k1, k2, k3⟩ := h
    unfold insK
    rw [k1, h1]
    by_cases c : HT.lexLt w.1 y.1 = true
    · rw [if_pos c, if_pos c]
      exact ⟨k1, k2, Par.ins h1 h2 k3⟩
    · rw [if_neg c, if_neg c]
      exact ⟨h1, h2, k1, k2, k3⟩
  | [], _ :: _, h => h.elim
  | _ :: _, [], h => h.elim
theorem Par.sort {r : α → β → Prop} : ∀ {l : List (List Int × α)} {m : List (List Int × β)}, Par r l m → Par r (sortK l) (sortK m)
  | [], [], _ => trivial
  | x :: l, y :: m, h => Par.ins h.1 h.2.1 (Par.sort h.2.2)
  | [], _ :: _, h => h.elim
  | _ :: _, [], h => h.elim
end
/-- sorted by what is read of them -/
def fSorted (st : Store) (ds : List D) : Option D := match ds with
  | [.lst es] => match mapO (toPy st 60) es with
    | some [] => some (.lst [])
    | some (p :: ps) => if (p :: ps).all (fun q => shp p q && shp q q && decide (q.depth ≤ 60) && (match q with | .tuple (.tuple _ :: _) => true | _ => false)) = true ∧ es.length ≤ 100000 then some (.lst ((sortK (((p :: ps).map flatP).zip es)).map (·.2))) else none
    | none => none
  | _ => none
def rSortedD (T : Tab) : List V → Hp → VK → Prop := fun xs H Q => ∃ (ρ : Rho) (st : Store) (a : Addr) (ds : List D) (vs : List V) (ps : List PyData), xs = [.ref a] ∧ Mt T ρ st H ∧ SqL T.K H a vs ∧ RAll T ρ st H ds vs ∧ mapO (toPy st 60) ds = some ps ∧ ds.length ≤ 100000 ∧
  (∀ q ∈ ps, ∀ q' ∈ ps, shp q q' = true) ∧ (∀ q ∈ ps, q.depth ≤ 60 ∧ ∃ ys zs, q = .tuple (.tuple ys :: zs)) ∧ ∀ p, H p = none → Q (.ref p) (upd H p (.lst ((sortK ((ps.map flatP).zip vs)).map (·.2))))
theorem readsAll_of {X : Cx} {fl : Fls} {pins : List (Addr × Obj)} {σ : L2.St} {ρ : Rho} {st : Store} {H : Hp} {s : Shared} (hS : SysB X.base) (I : Inv X pins σ H s) (m : Mt (XT X fl) ρ st H) : ∀ {ds : List D} {vs : List V} {its : List Value} {ps : List PyData}, RAll (XT X fl) ρ st H ds vs → Vals vs its → mapO (toPy st 60) ds = some ps →
    Par (fun (x : V) (v : Value) => RelV x v) ((ps.map flatP).zip vs) ((ps.map flatP).zip its) ∧ its.length = ps.length ∧ ∀ (i : Nat) (v : Value), its[i]? = some v → ∃ p as, ps[i]? = some p ∧ Reads s.heap v p as
  | [], vs, its, ps, r, rv, h => by
    simp only [RAll] at r
    subst r
    cases rv
    cases h
    exact ⟨trivial, rfl, fun i v e => by simp at e⟩
  | d :: ds, vs, its, ps, r, rv, h => by
    simp only [RAll] at r
    obtain ⟨x, xs, rfl, r1, r2⟩ := r
    cases rv with
    | @cons _ u _ us ru rus =>
      rw [mapO_cons] at h
      cases hp : toPy st 60 d with
      | none => rw [hp] at h; cases h
      | some p =>
        rw [hp] at h
        cases hq : mapO (toPy st 60) ds with
        | none => rw [hq] at h; cases h
        | some qs =>
          rw [hq] at h
          cases h
          obtain ⟨as, g, _⟩ := toPy_reads hS I m 60 d x u p r1 ru hp
          obtain ⟨k1, k2, k3⟩ := readsAll_of hS I m r2 rus hq
          refine ⟨⟨rfl, ru, k1⟩, by simp [k2], fun i v e => ?_⟩
          cases i with
          | zero =>
            have e : u = v := by simpa using e
            subst e
            exact ⟨p, as, rfl, g⟩
          | succ i => exact k3 i v (by simpa using e)
theorem kat_shp {prog : Program} {w : World} {A : Around} {s : Shared} {Q : Bool → Shared → Prop} : ∀ {xs ys : List PyData} {vs ws : List Value} {as bs : List Addr} {i : Nat}, shpAll xs ys = true → ReadsAll s.heap vs xs as → ReadsAll s.heap ws ys bs → A.units + PyData.depthAll xs + 2 < cLine → PyData.depthAll xs ≤ 60 → Q (HT.lexLt (flatAll xs) (flatAll ys)) s → PySem.W.KatLex prog w A false false Q (vs.zip ws) i s
  | [], [], _, _, _, _, i, _, ra, rb, _, _, q => by
    cases ra
    cases rb
    exact PySem.W.kat_nil q
  | x :: xs, y :: ys, _, _, _, _, i, h, ra, rb, hu, hd, q => by
    simp only [shpAll, Bool.and_eq_true] at h
    cases ra with
    | cons r1 r2 =>
      cases rb with
      | cons r3 r4 =>
        simp only [PyData.depthAll] at hu hd
        simp only [flatAll] at q
        rw [lex_app (shp_len x y h.1)] at q
        rw [List.zip_cons_cons]
        refine PySem.W.kat_cons (eqAt_shp h.1 r1 r3 (by omega) prog w _ _ ?_)
        refine PySem.W.kat_go (fun e1 => ?_) (fun e1 => ?_)
        · have e := of_decide_eq_true e1
          rw [if_pos e] at q
          exact PySem.W.kat_yes (kat_shp h.2 r2 r4 (by omega) (by omega) q)
        · have e := of_decide_eq_false e1
          rw [if_neg e] at q
          refine PySem.W.kat_no (PySem.W.kat_one _ _ ?_)
          exact (rc_shp 60 x y A s _ _ _ _ (by omega) h.1 r1 r3 (by omega)).1 prog w _ _ q
  | [], _ :: _, _, _, _, _, _, h, _, _, _, _, _ => by simp [shpAll] at h
  | _ :: _, [], _, _, _, _, _, h, _, _, _, _, _ => by simp [shpAll] at h
theorem firsts_shp {h : Heap} : ∀ {l : List Value}, (∀ v ∈ l, ∃ p as ys zs, Reads h v p as ∧ p = .tuple (.tuple ys :: zs)) → ∃ fs, PySem.W.KatTups h l fs ∧ fs.length = l.length ∧ ∀ f ∈ fs, ∃ a o, f = .ref a ∧ h.get? a = some o ∧ o.cls = .type "tuple"
  | [], _ => ⟨[], trivial, rfl, fun f hf => by simp at hf⟩
  | v :: l, hv => by
    obtain ⟨fs, k1, k2, k3⟩ := firsts_shp fun v hm => hv v (List.mem_cons_of_mem _ hm)
    obtain ⟨p, as, ys, zs, r, rfl⟩ := hv v List.mem_cons_self
    obtain ⟨⟩ := r
    rename_i a o vs n ho hc hd rs
    generalize hvs : vs.toList = its at rs
    cases rs with
    | @cons f us _ _ bs cs r1 r2 =>
      have h0 : vs[0]? = some f := by
        rw [← Array.getElem?_toList, hvs]
        rfl
      refine ⟨f :: fs, ⟨⟨a, o, vs, n, rfl, ho, hc, hd, h0⟩, k1⟩, by simp [k2], fun g hg => ?_⟩
      rcases List.mem_cons.mp hg with e | hg
      · subst e
        obtain ⟨⟩ := r1
        rename_i b o2 ws n2 ho2 hc2 hd2 rs2
        exact ⟨b, o2, rfl, ho2, hc2⟩
      · exact k3 g hg
theorem par_vals : ∀ {l : List (List Int × V)} {m : List (List Int × Value)}, Par (fun (x : V) (v : Value) => RelV x v) l m → Vals (l.map (·.2)) (m.map (·.2))
  | [], [], _ => .nil
  | x :: l, y :: m, h => .cons h.2.1 (par_vals h.2.2)
  | [], _ :: _, h => h.elim
  | _ :: _, [], h => h.elim
theorem cr_sortedD {X : Cx} {fl : Fls} {kk : Nat} (hr : RoomG kk X.A) (hS : SysB X.base) : CallR X (.builtin "sorted") (rSortedD (XT X fl)) := by
  classical
  intro pins s σ H xs us Q I r h
  obtain ⟨ρ, st, a, ds, vs, ps, rfl, m, hs, ra, hp, hlen, hsh, hdp, q⟩ := h
  obtain ⟨its, rv, hl, hz⟩ := I.list hs
  obtain ⟨u, rfl, ru⟩ := vals1 r
  obtain rfl : u = Value.ref a := ru
  obtain ⟨_, hlp, hat⟩ := readsAll_of hS I m ra rv hp
  obtain ⟨key, hkey⟩ : ∃ key : Value → List Int, ∀ v p as, Reads s.heap v p as → key v = flatP p := by
    refine ⟨fun v => if h : ∃ p as, Reads s.heap v p as then flatP h.choose else [], fun v p as r => ?_⟩
    have h : ∃ p as, Reads s.heap v p as := ⟨p, as, r⟩
    dsimp only
    rw [dif_pos h]
    obtain ⟨as', r'⟩ := h.choose_spec
    rw [(PySem.Reads.unique r _ _ r').1]
  have inm : ∀ v ∈ its, ∃ p as, p ∈ ps ∧ Reads s.heap v p as := fun v hv => by
    obtain ⟨i, hi, e⟩ := List.getElem_of_mem hv
    obtain ⟨p, as, e1, r1⟩ := hat i v (by rw [List.getElem?_eq_getElem hi, e])
    exact ⟨p, as, List.mem_of_getElem? e1, r1⟩
  have un := hr.rm.un
  have uu : X.A.in1.in1.units = X.A.units + 2 := rfl
  refine SrtO.sorted_ord (ltv := fun v u => HT.lexLt (key v) (key u)) (NtL.swo_lexL key) hl.isList (by rw [← rv.length]; exact hz) (fun h2 h₁ b hb k1 => ?_) fun out h1 h2 => ?_
  · intro h' keep
    have kp : ∀ b o, s.heap.get? b = some o → h'.get? b = some o := fun c o e => keep c o (k1 c o e).1 (k1 c o e).2
    refine ⟨PyProof.Rows.tuples' false, fun Q E hq => ?_, fun p1 p2 hm hm' => ?_⟩
    · obtain ⟨fs, f1, f2, f3⟩ := firsts_shp (h := h') (l := its) fun v hv => by
        obtain ⟨p, as, hpm, r1⟩ := inm v hv
        obtain ⟨_, ys, zs, e⟩ := hdp p hpm
        exact ⟨p, as, ys, zs, PyProof.Rows.Reads.keeps kp r1, e⟩
      refine PySem.W.kat_kind (T := .type "tuple") f1 (by omega) (fun f hm => ?_) (by rfl) ?_
      · obtain ⟨c, o, rfl, e1, e2⟩ := f3 f hm
        exact fun A Q E s k q => wpAny_typeOf_ref (k _ _ e1) (by rw [e2]; exact q)
      · have e : (Value.type "tuple" != Value.type "tuple") = false := by first | decide +kernel | rfl | decide
        rw [e]
        exact hq
    · obtain ⟨p, as, hpm, r1⟩ := inm _ hm
      obtain ⟨p', as', hpm', r1'⟩ := inm _ hm'
      show wpAny _ _ (PyProof.Rows.keyLt' _ p1.1 p2.1) (fun r s' => s' = _ ∧ r = HT.lexLt (key p1.1) (key p2.1)) _ _
      rw [hkey _ _ _ r1, hkey _ _ _ r1']
      obtain ⟨d1, ys, zs, rfl⟩ := hdp p hpm
      obtain ⟨d2, ys', zs', rfl⟩ := hdp p' hpm'
      have hs2 := hsh _ hpm _ hpm'
      have g1 := PyProof.Rows.Reads.keeps kp r1
      have g2 := PyProof.Rows.Reads.keeps kp r1'
      generalize p1.1 = v1 at g1 ⊢
      generalize p2.1 = v2 at g2 ⊢
      obtain ⟨⟩ := g1
      rename_i l o vs0 nn ho hc hd rs
      obtain ⟨⟩ := g2
      rename_i l2 o2 ws0 nn2 ho2 hc2 hd2 rs2
      have hsa : shpAll (.tuple ys :: zs) (.tuple ys' :: zs') = true := by simpa only [shp] using hs2
      have z1 : vs0.size = (PyData.tuple ys :: zs).length := by rw [← readsAll_len rs, Array.length_toList]
      have z2 : ws0.size = (PyData.tuple ys' :: zs').length := by rw [← readsAll_len rs2, Array.length_toList]
      have z3 := shpAll_length hsa
      refine PySem.W.kat_lt (b := false) ho hd ho2 hd2 ?_
      rw [decide_eq_false (by omega)]
      simp only [PyData.depth] at d1
      refine kat_shp hsa rs rs2 (by rw [uu]; omega) (by omega) ?_
      simp [flatP]
  · have eL : (ps.map flatP).zip its = its.map fun v => (key v, v) := by
      refine List.ext_getElem? fun i => ?_
      rw [List.getElem?_map]
      cases e : its[i]? with
      | none =>
        have := List.getElem?_eq_none_iff.mp e
        rw [Option.map_none, List.getElem?_eq_none_iff, List.length_zip, List.length_map]
        omega
      | some v =>
        obtain ⟨p, as, e1, r1⟩ := hat i v e
        rw [Option.map_some, List.getElem?_zip_eq_some, List.getElem?_map, e1, Option.map_some, hkey v p as r1]
        exact ⟨rfl, e⟩
    have b1 : SrtO.Stb ltK (out.map fun v => (key v, v)) (its.map fun v => (key v, v)) := SrtO.Stb.map (lt := ltK) swoK (fun v => (key v, v)) h2
    have b2 : SrtO.Srtd ltK (out.map fun v => (key v, v)) := SrtO.srtd_map (lt := ltK) (f := fun v => (key v, v)) h1
    have b3 := sortK_stb (its.map fun v => (key v, v))
    have b4 := SrtO.stb_uniq swoK b2 (sortK_srtd (its.map fun v => (key v, v))) (b1.trans ⟨b3.perm.symm, fun x => (b3.cls x).symm⟩)
    have b5 : out = (sortK ((ps.map flatP).zip its)).map (·.2) := by
      rw [eL, ← b4, List.map_map]
      simp [Function.comp_def]
    obtain ⟨n, hn⟩ := PyProof.Rows.sortedAll_at s.heap its out.toArray
    have vals : Vals ((sortK ((ps.map flatP).zip vs)).map (·.2)) out := by
      rw [b5]
      exact par_vals (readsAll_of hS I m ra rv hp).1.sort
    refine ⟨.ref (s.heap.objs.size + 1), _, I.laid (t' := s.toks) (a := s.heap.objs.size + 1) (o := .lst ((sortK ((ps.map flatP).zip vs)).map (·.2))) (fun b o e => PyProof.Rows.sortedAll_old e) (Nat.le_succ _) ⟨?_, out, n, vals, hn⟩, rfl, q _ (I.hok.fresh (Nat.le_succ _))⟩
    rw [vals.length, h2.perm.length_eq, ← rv.length, ← ra.length, sizeLine_eq]
    omega
theorem v_sortedD {T : Tab} : VN T (rSortedD T) fSorted := by
  intro ρ st H ds xs v Q m rx h q
  unfold fSorted at h
  split at h
  · rename_i es
    obtain ⟨x, rfl, r⟩ := rx.one
    obtain ⟨a, vs, e, hq, ra⟩ := r.lst_of
    subst e
    split at h
    · rename_i hp
      cases h
      have el : es = [] := by
        cases es with
        | nil => rfl
        | cons d es =>
          rw [mapO_cons] at hp
          cases h1 : toPy st 60 d with
          | none => rw [h1] at hp; cases hp
          | some p =>
            rw [h1] at hp
            cases h2 : mapO (toPy st 60) es with
            | none => rw [h2] at hp; cases hp
            | some ps => rw [h2] at hp; cases hp
      subst el
      refine ⟨ρ, st, a, [], vs, [], rfl, m, SqL.of hq, ra, rfl, Nat.zero_le _, fun q hq => by simp at hq, fun q hq => by simp at hq, fun p hp0 => ?_⟩
      have e1 := Ext.new (ρ := ρ) (st := st) (o := .lst []) m hp0
      have ev : (sortK (((([] : List PyData).map flatP)).zip vs)).map (·.2) = [] := by simp [sortK]
      rw [ev]
      refine q _ _ e1 (m.new hp0) ?_
      simp only [R]
      exact ⟨p, [], rfl, upd_same, m.notLive hp0, RAll.nil⟩
    · rename_i p ps hp
      split at h
      · rename_i hc
        cases h
        obtain ⟨hc, hlen⟩ := hc
        rw [List.all_eq_true] at hc
        have hc' : ∀ q ∈ p :: ps, shp p q = true ∧ q.depth ≤ 60 ∧ ∃ ys zs, q = .tuple (.tuple ys :: zs) := fun q hq => by
          have := hc q hq
          simp only [Bool.and_eq_true, decide_eq_true_eq] at this
          obtain ⟨⟨⟨h1, _⟩, h3⟩, h4⟩ := this
          refine ⟨h1, h3, ?_⟩
          match q, h4 with
          | .tuple (.tuple ys :: zs), _ => exact ⟨ys, zs, rfl⟩
        refine ⟨ρ, st, a, es, vs, p :: ps, rfl, m, SqL.of hq, ra, hp, hlen, fun q hq q' hq' => shp_tr _ _ _ (shp_sym _ _ (hc' q hq).1) (hc' q' hq').1, fun q hq => (hc' q hq).2, fun p0 hp0 => ?_⟩
        have e1 := Ext.new (ρ := ρ) (st := st) (o := .lst ((sortK (((p :: ps).map flatP).zip vs)).map (·.2))) m hp0
        refine q _ _ e1 (m.new hp0) ?_
        simp only [R]
        refine ⟨p0, _, rfl, upd_same, m.notLive hp0, RAll.ext e1 _ _ ?_⟩
        have hpl : ∀ {es : List D} {ps : List PyData}, mapO (toPy st 60) es = some ps → ps.length = es.length := by
          intro es
          induction es with
          | nil => intro ps h; cases h; rfl
          | cons d es ih =>
            intro ps h
            rw [mapO_cons] at h
            cases h1 : toPy st 60 d with
            | none => rw [h1] at h; cases h
            | some p =>
              rw [h1] at h
              cases h2 : mapO (toPy st 60) es with
              | none => rw [h2] at h; cases h
              | some ps2 =>
                rw [h2] at h
                cases h
                simp [ih h2]
        have par : ∀ {ks : List (List Int)} {es : List D} {vs : List V}, RAll T ρ st H es vs → Par (fun (d : D) (x : V) => R T ρ st H d x) (ks.zip es) (ks.zip vs) := by
          intro ks
          induction ks with
          | nil => intro es vs _; simp [Par]
          | cons k ks ih =>
            intro es vs r
            cases es with
            | nil =>
              simp only [RAll] at r
              subst r
              simp [Par]
            | cons d es =>
              simp only [RAll] at r
              obtain ⟨x, xs, rfl, r1, r2⟩ := r
              exact ⟨rfl, r1, ih r2⟩
        have back : ∀ {l : List (List Int × D)} {m : List (List Int × V)}, Par (fun (d : D) (x : V) => R T ρ st H d x) l m → RAll T ρ st H (l.map (·.2)) (m.map (·.2)) := by
          intro l
          induction l with
          | nil =>
            intro m h
            cases m with
            | nil => exact RAll.nil
            | cons _ _ => exact h.elim
          | cons x l ih =>
            intro m h
            cases m with
            | nil => exact h.elim
            | cons y m => exact RAll.cons h.2.1 (ih h.2.2)
        exact back (par ra).sort
      · cases h
    · cases h
  · cases h
theorem bb_sorted : bootBuiltins "sorted" = some (.builtin "sorted") := by first | rfl | decide +kernel
theorem bb_sum : bootBuiltins "sum" = some (.builtin "sum") := by first | rfl | decide +kernel
theorem bb_max : bootBuiltins "max" = some (.builtin "max") := by first | rfl | decide +kernel
end DL
/-! DL36: tuples times ints, cuts, turned round, defs as values, defs that call themselves. -/
namespace DL
open PySem PySem.Spec PyProof.Rows L2
theorem tuple_mul1 (l : Addr) (items : Array Value) (n : Nat) (dd : Option Addr) (sl : Array (Option Value)) (u : Tok) :
    Meets (Builtin.«tuple.__mul__» ⟨[.ref l, .int 1 u], []⟩) (fun _ R s => s.heap.get? l = some { cls := .type "tuple", dict := dd, data := .seq items n, slots := sl } ∧ ∀ t, R (.ok (.ret (Value.ref l))) { s with toks := t }) :=
  .of_wp fun prog w A R s h => by
    obtain ⟨hp, g, d, tk, os⟩ := s
    obtain ⟨hl, h⟩ := h
    have f1 := AutoSeq1.idx_int
    have c0 : (decide ((1 : Int) < -(2 ^ 63)) || decide ((1 : Int) ≥ 2 ^ 63)) = false := by decide
    have c1 : (items.isEmpty || (1 : Int) == 1) = true := by simp
    wp_walk using AutoSeq1.wpAny_loadPart' hl
    repeat (first
      | (refine wpAny_ite_false (decide_eq_false (by rw [c0]; exact Bool.false_ne_true)) ?_; wp_walk using AutoSeq1.wpAny_loadPart' hl)
      | (refine wpAny_ite_true (decide_eq_true c1) ?_; wp_walk using AutoSeq1.wpAny_loadPart' hl))
    exact ⟨_, rfl, h _⟩
def rRep1 (K : PySem.W.Frag) : R2 := fun x y H Q => ∃ l xs, x = .ref l ∧ y = .int 1 ∧ SqT K H l xs ∧ Q (.ref l) H
theorem op_rep1 {X : Cx} : OpR X (binaryOp .Mult) (rRep1 X.K) := by
  intro pins s σ H x y v u Q I rx ry h
  obtain ⟨l, xs, rfl, rfl, hT, q⟩ := h
  cases rx
  obtain ⟨t, rfl⟩ := ry
  obtain ⟨its, r, ⟨⟨cls, dd, data, sl⟩, ho, hc, n, hd⟩, hs⟩ := I.tuple hT
  simp only at hc hd
  subst hc hd
  refine wpAny_binaryOp_repeat_ref (T := "tuple") (U := "int") (by decide) ⟨_, ho, rfl⟩ (fun s' => typeIs_int s' 1 t) noFill_tuple_mul F.fills_int_mul F.slot_int_rmul repeat_tuple F.slot_int_index.lookup
    (call_meets F.slot_int_rmul (typeIs_int s 1 t) F.entry_int_rmul (F.args_int_rmul_2 _ _) (int_rmul_tuple 1 t l its.toArray n dd sl)
      ⟨ho, rfl, ⟨_, ho, rfl⟩, call_meets F.slot_tuple_mul ⟨_, ho, rfl⟩ F.entry_tuple_mul (F.args_tuple_mul_2 _ _) (tuple_mul1 l its.toArray n dd sl t) ⟨ho, fun t2 => ?_⟩⟩)
  exact ⟨.ref l, H, I.tok _, rfl, q⟩
def fTimes (_ : Store) (d e : D) : Option D := match d, e with
  | .int i, .int j => if (-(2 ^ 64) < i ∧ i < 2 ^ 64) ∨ (-(2 ^ 64) < j ∧ j < 2 ^ 64) then some (.int (i * j)) else none
  | .tup xs, .int k => if k = 1 then some (.tup xs) else if 2 ≤ k ∧ k ≤ 1000 ∧ xs ≠ [] ∧ xs.length ≤ 1000 then some (.tup (List.replicate k.toNat xs).flatten) else none
  | _, _ => none
def rTimes (K : PySem.W.Frag) : R2 := fun x y H Q => (rI CMul fun i j => .int (i * j)) x y H Q ∨ rRep1 K x y H Q ∨ rRepT K x y H Q
theorem op_times {X : Cx} : OpR X (binaryOp .Mult) (rTimes X.K) := op_mul.or (op_rep1.or op_repT)
theorem RAll.rep {T : Tab} {ρ : Rho} {st : Store} {H : Hp} {ds : List D} {vs : List V} (r : RAll T ρ st H ds vs) : ∀ k : Nat, RAll T ρ st H (List.replicate k ds).flatten (List.replicate k vs).flatten
  | 0 => RAll.nil
  | k + 1 => by
    rw [List.replicate_succ, List.replicate_succ, List.flatten_cons, List.flatten_cons]
    exact RAll.append r (RAll.rep r k)
theorem v_times {T : Tab} : V2 T (rTimes T.K) fTimes := by
  intro ρ st H d e x y v Q m rx ry h q
  unfold fTimes at h
  split at h
  · split at h
    · rename_i hc
      cases h
      exact .inl ⟨_, _, R.int_of rx, R.int_of ry, hc, q H _ .refl m R.int⟩
    · cases h
  · rename_i xs k
    obtain ⟨a, vs, e, hq, ra⟩ := rx.tup_of
    subst e
    have hy := R.int_of ry
    subst hy
    split at h
    · rename_i hk
      cases h
      subst hk
      exact .inr (.inl ⟨a, vs, rfl, rfl, hq, q H _ .refl m rx⟩)
    · split at h
      · rename_i hc
        cases h
        obtain ⟨h1, h2, h3, h4⟩ := hc
        refine .inr (.inr ⟨a, k, vs, rfl, rfl, hq, fun z => h3 ?_, h1, h2, by rw [← ra.length]; exact h4, fun p hp => ?_⟩)
        · have := ra.length
          rw [z] at this
          exact List.eq_nil_of_length_eq_zero this
        · have e1 := Ext.new (ρ := ρ) (st := st) (o := .tup (List.replicate k.toNat vs).flatten) m hp
          refine q _ _ e1 (m.new hp) ?_
          simp only [R]
          exact ⟨p, _, rfl, .inl ⟨upd_same, m.notLive hp⟩, RAll.ext e1 _ _ (ra.rep _)⟩
      · cases h
  · cases h
/-! ### t[k:], xs[::-1] -/
def cutG {α : Type} (xs : List α) (lo hi : Option Int) : List α := (xs.drop (HT.sIx xs.length 0 lo)).take (HT.sIx xs.length xs.length hi - HT.sIx xs.length 0 lo)
/-- o[lo:] -/
def fFrom (_ : Store) (d e : D) : Option D := match d, e with
  | .tup xs, .int i => if HT.sIx xs.length 0 (some i) = 0 then some (.tup xs) else some (.tup (cutG xs (some i) none))
  | _, _ => none
section
variable {X : Cx} {fl : Fls} {Wx : WX} {o lo e : Expr} {es : List Expr} {mo ml : EM} {mA : AM} {p pos p1 p2 p3 : Pos} {j i n k : Nat} {x : Str}
theorem sIx_end (n : Nat) : HT.sIx n n none = n := rfl
theorem de_from (ho : DE X fl Wx o mo) (hl : DE X fl Wx lo ml) : DE X fl Wx (.Subscript o (.Slice (some lo) none none p2) pos) (e2 fFrom mo ml) := by
  refine pe_imp (pe_slice sl_tupA ho (po_some hl) po_none) fun σ H Q h => ?_
  obtain ⟨ρ, δ, st, m, en, h⟩ := h
  refine ⟨ρ, δ, st, m, en, (Post.bind h).monoE fun d ρ1 st1 H1 e1 m1 h1 x rx => ?_⟩
  refine ⟨ρ1, δ, st1, m1, en.ext e1, (Post.bind h1).monoE fun d2 ρ2 st2 H2 e2 m2 h2 y ry => ?_⟩
  have rx2 := rx.ext e2 _ _
  obtain ⟨v, hv, q⟩ := Post.lift_inv h2
  unfold fFrom at hv
  split at hv
  · rename_i xs i
    have hy := R.int_of ry
    subst hy
    obtain ⟨a, vs, ex, hq, ra⟩ := rx2.tup_of
    subst ex
    refine ⟨i, rfl, a, vs, rfl, hq, fun hw => ?_, fun hw p hp => ?_⟩
    · rw [← ra.length] at hw
      rw [if_pos hw.1] at hv
      cases hv
      exact q ρ2 H2 .refl m2 _ rx2
    · rw [← ra.length] at hw
      have hw2 : ¬ HT.sIx xs.length 0 (some i) = 0 := fun z => hw ⟨z, rfl⟩
      rw [if_neg hw2] at hv
      cases hv
      have e3 := Ext.new (ρ := ρ2) (st := st2) (o := .tup (cutV vs (some i) none)) m2 hp
      refine q ρ2 _ e3 (m2.new hp) (.ref p) ?_
      simp only [R]
      refine ⟨p, _, rfl, .inl ⟨upd_same, m2.notLive hp⟩, RAll.ext e3 _ _ ?_⟩
      unfold cutG cutV
      rw [ra.length]
      exact RAll.take _ (RAll.drop _ ra)
  · cases hv
def fRev (_ : Store) (d : D) : Option D := match d with
  | .lst xs => some (.lst xs.reverse)
  | _ => none
theorem de_rev (ho : DE X fl Wx o mo) : DE X fl Wx (.Subscript o (.Slice none none (some (.UnaryOp .USub (.Constant (.int 1) j p1) p2)) p3) pos) (e1 fRev mo) := by
  refine pe_imp (pe_revL ho) fun σ H Q h => ?_
  obtain ⟨ρ, δ, st, m, en, h⟩ := h
  refine ⟨ρ, δ, st, m, en, (Post.bind h).monoE fun d ρ1 st1 H1 e1 m1 h1 x rx => ?_⟩
  obtain ⟨v, hv, q⟩ := Post.lift_inv h1
  unfold fRev at hv
  split at hv
  · rename_i xs
    cases hv
    obtain ⟨a, vs, ex, hq, ra⟩ := rx.lst_of
    refine ⟨a, vs, ex, SqL.of hq, fun p hp => ?_⟩
    have e3 := Ext.new (ρ := ρ1) (st := st1) (o := .lst vs.reverse) m1 hp
    refine q ρ1 _ e3 (m1.new hp) (.ref p) ?_
    simp only [R]
    exact ⟨p, _, rfl, upd_same, m1.notLive hp, RAll.ext e3 _ _ (RAll.reverse ra)⟩
  · cases hv
/-! ### defs as values -/
theorem de_glf {f : Str} (hg : Gl X f) (h : ∃ a, X.mg f = some (.ref a)) (hd : (f == ("__debug__" : Str)) = false := by decide) : DE X fl Wx (.Name f pos) (eC (.gl f)) := by
  obtain ⟨a, h⟩ := h
  exact de_c (v := V.ref a) (pe_glob hg h rfl hd) fun _ _ _ => by
    simp only [R]
    exact ⟨a, h, rfl⟩
def eCallF (i n : Nat) (tbl : List (Str × (List D → M D))) (a : AM) : EM := fun δ => match (δ[i]?).join with
  | some (.gl f) => match tbl.lookup f with
    | some m => a δ >>= fun ds => if ds.length = n then m ds else M.stuck
    | none => M.stuck
  | _ => M.stuck
theorem de_callF {tbl : List (Str × (List D → M D))} (FT : ∀ f m, tbl.lookup f = some m → Fd X.prog X.w X.K X.mg X.base fl k f n m) (hr : RoomG k X.A) (tk : Takes X Wx) (hN : X.N[i]? = some x) (hv : Vis X.env.scope x) (ha : DA X fl Wx (e :: es) mA)
    (hd : (x == ("__debug__" : Str)) = false := by decide) (hcd : (x == ("__classdict__" : Str)) = false := by decide) (he : starEach (e :: es) X.env = (false, eval e X.env) :: starEach es X.env := by rfl) (hpl : (backTo pos (starEach es X.env)).any (·.1) = false := by rfl) :
    DE X fl Wx (.Call (.Name x p) (e :: es) [] pos) (eCallF i n tbl mA) := by
  refine ⟨fun pins s σ H Q I ⟨ρ, δ, st, mt, en, h⟩ => ?_⟩
  unfold eCallF at h
  dsimp only at h
  cases qd : (δ[i]?).join with
  | none => rw [qd] at h; exact False.elim h
  | some d =>
    rw [qd] at h
    have hδ : δ[i]? = some (some d) := by
      cases q : δ[i]? with
      | none => rw [q] at qd; cases qd
      | some o =>
        rw [q] at qd
        have qd : o = some d := qd
        rw [qd]
    obtain ⟨y, hσ, ry⟩ := en.get i d hδ
    cases d with
    | gl f =>
      dsimp only at h
      cases qt : tbl.lookup f with
      | none => rw [qt] at h; exact False.elim h
      | some m =>
        rw [qt] at h
        dsimp only at h
        obtain ⟨fa, fd, ps, F, hm, hk, hb⟩ := (FT f m qt).ex
        simp only [R] at ry
        obtain ⟨a, hma, rfl⟩ := ry
        have ea : fa = a := ref_eq hm hma
        subst ea
        refine wpAny_Call_Name_kw (thn ((pe_var (pos := p) (i := i) hN hv hd hcd).run pins s σ H (fun v H1 => v = .ref fa ∧ H1 = H) I ⟨.ref fa, hσ, rfl, rfl⟩) fun u s1 ⟨v, H1, I1, r1, q1⟩ => ?_)
        obtain ⟨ev, eH⟩ := q1
        subst ev
        subst eH
        obtain rfl : u = Value.ref fa := r1
        have h' : tDA (XT X fl) Wx mA σ H1 fun vs H1 => spD (XT X fl) n m vs H1 Q (WE Wx σ) := by
          refine ⟨ρ, δ, st, mt, en, (Post.bind h).monoE fun ds ρ1 st1 H2 e1 m1 h1 xs rxs => ?_⟩
          by_cases hl : ds.length = n
          · rw [if_pos hl] at h1
            exact ⟨ρ1, st1, ds, m1, rxs, hl, h1⟩
          · rw [if_neg hl] at h1
            exact False.elim h1
        refine PySem.W.callWith_K (h₀ := X.base) I1.ok.mod.kin hk (thn (ha.run pos pins s1 σ H1 _ I1 h') fun us s2 ⟨vs, H2, I2, r, q⟩ => ⟨I2.kIn, ?_⟩) he hpl
        exact run_fnG F hr hb (passAt tk σ) I2 r q
    | _ => exact False.elim h
end
/-- nothing is promised of it -/
theorem fnG_stuck {P : Program} {w : World} {K : PySem.W.Frag} {mg : Str → Option Value} {base : Heap} {k : Nat} {f : Addr} {fd : FuncData} {ps : List Str} {T : Tab} : FnG P w K mg base k f fd ps (spD T ps.length fun _ => M.stuck) := by
  refine ⟨fun vs H Q E h => ?_, fun A outer s H args us vs Q E hr e0 hb r h => ?_⟩
  · obtain ⟨ρ, st, ds, m, r, hl, _⟩ := h
    rw [← r.length]
    exact hl
  · obtain ⟨ρ, st, ds, m, r, hl, z⟩ := h
    exact False.elim z
end DL
/-! DL37: the way to a lambda, by all kinds of expressions. -/
namespace DL
open PySem PySem.Spec PyProof.Rows L2
def kid2 (e : Expr) (i : Nat) : Expr := match e with
  | .Compare l _ cs _ => (l :: cs).getD i noE
  | .BoolOp _ vs _ => vs.getD i noE
  | .UnaryOp _ o _ => o
  | .Tuple es _ _ => es.getD i noE
  | .List es _ => es.getD i noE
  | .Call _ es _ _ => es.getD i noE
  | _ => noE
def tsS (s : Stmt) : Expr := match s with
  | .If t _ _ _ => t
  | _ => noE
def elS (s : Stmt) (i : Nat) : Stmt := match s with
  | .If _ _ e _ => e.getD i (.Pass ⟨0, 0, 0, 0⟩)
  | s => s
end DL
/-! DL38: mirrors evaluated: comprehensions, loops that gather, sorted. -/
namespace DL
open PySem PySem.Spec PyProof.Rows L2
theorem compL_map {all : List D} {g : GM} {e : EM} {δ : DEnv} {f : D → D} {st : Store} : ∀ {ds : List D}, (∀ d ∈ ds, ∃ δ1, g d δ = some δ1 ∧ e δ1 st = .ok (f d) st) → compL none all g tYesM e δ ds st = .ok (ds.map f) st
  | [], _ => compL_nil
  | d :: ds, h => by
    obtain ⟨δ1, h1, h2⟩ := h d List.mem_cons_self
    exact compL_cons h1 h2 (compL_map fun x hx => h x (List.mem_cons_of_mem _ hx))
theorem comp_map {vs : List Nat} {it : IM} {g : GM} {e : EM} {δ : DEnv} {ds : List D} {f : D → D} {st st0 : Store} (hi : it δ st = .ok (ds, none) st0) (hl : ds.length ≤ 1000) (h : ∀ d ∈ ds, ∃ δ1, g d (wipeD δ vs) = some δ1 ∧ e δ1 st0 = .ok (f d) st0) : eComp vs it g tYesM e δ st = .ok (.lst (ds.map f)) st0 :=
  comp_run hi hl (compL_map h)
theorem blsOf_map {α : Type} {p : α → Bool} : ∀ {xs : List α}, blsOf (xs.map fun x => D.bl (p x)) = some (xs.map p)
  | [] => rfl
  | x :: xs => by
    have ih := blsOf_map (p := p) (xs := xs)
    simp [blsOf, ih]
theorem all_map {α : Type} {p : α → Bool} {xs : List α} {st : Store} : fAll st [.lst (xs.map fun x => D.bl (p x))] = some (.bl (xs.all p)) := by
  show (blsOf (xs.map fun x => D.bl (p x))).map (fun bs => D.bl (bs.all id)) = _
  rw [blsOf_map]
  simp
theorem isi_run {isi : Kd → Option Bool} {a : EM} {δ : DEnv} {st st1 : Store} {d : D} {b : Bool} (ha : a δ st = .ok d st1) (h : (kdOf st1 d).bind isi = some b) : eIsi isi a δ st = .ok (.bl b) st1 :=
  e1_run ha (by rw [h]; rfl)
theorem chain_run {f g : Int → Int → Bool} {a b c : EM} {δ : DEnv} {st : Store} {i j k : Int} (ha : a δ st = .ok (.int i) st) (hb : b δ st = .ok (.int j) st) (hc : c δ st = .ok (.int k) st) : eChain f g a b c δ st = .ok (.bl (f i j && g j k)) st := by
  unfold eChain
  rw [M.ok_bind ha, M.ok_bind hb]
  dsimp only
  by_cases h : f i j = true
  · rw [if_pos h, M.ok_bind hc, h]
    rfl
  · rw [if_neg h, Bool.eq_false_iff.mpr h]
    rfl
theorem asg_run {g : GM} {m : EM} {δ δ' : DEnv} {st st' : Store} {d : D} (h : m δ st = .ok d st') (hg : g d δ = some δ') : sAsg g m δ st = .ok (.next, δ') st' := by
  unfold sAsg
  rw [M.ok_bind h, hg]
theorem seq_run {m : EM} {δ : DEnv} {st st' : Store} {ds : List D} (h : m δ st = .ok (.lst ds) st') : itSeq m δ st = .ok (ds, none) st' := by
  unfold itSeq
  rw [M.ok_bind h]
theorem seqT_run {m : EM} {δ : DEnv} {st st' : Store} {ds : List D} (h : m δ st = .ok (.tup ds) st') : itSeq m δ st = .ok (ds, none) st' := by
  unfold itSeq
  rw [M.ok_bind h]
theorem rng_run {m : EM} {δ : DEnv} {st st' : Store} {j : Int} (h : m δ st = .ok (.int j) st') (h1 : -1000 ≤ j) (h2 : j ≤ 1000) : itRange1 m δ st = .ok (rangeD 0 j.toNat, none) st' := by
  unfold itRange1
  rw [M.ok_bind h]
  dsimp only
  rw [if_pos (by omega)]
  rfl
theorem zip_run {a : AM} {δ : DEnv} {st st' : Store} {xs ys : List D} (h : a δ st = .ok [.tup xs, .tup ys] st') : itZip a δ st = .ok ((xs.zip ys).map fun p => .tup [p.1, p.2], none) st' := by
  unfold itZip
  rw [M.ok_bind h]
  rfl
theorem x_lenT {st : Store} {xs : List D} : fLen st [.tup xs] = some (.int xs.length) := rfl
theorem x_plusT {st : Store} {xs ys : List D} (h : xs.length + ys.length ≤ 100000) : fPlus st (.tup xs) (.tup ys) = some (.tup (xs ++ ys)) := if_pos (Nat.le_trans h (Nat.le_trans (by decide) size_ge))
theorem x_plusL {st : Store} {xs ys : List D} (h : xs.length + ys.length ≤ 100000) : fPlus st (.lst xs) (.lst ys) = some (.lst (xs ++ ys)) := if_pos (Nat.le_trans h (Nat.le_trans (by decide) size_ge))
theorem intsOf_map : ∀ {ns : List Int}, intsOf (ns.map D.int) = some ns
  | [] => rfl
  | n :: ns => by
    have ih := intsOf_map (ns := ns)
    simp [intsOf, ih]
theorem x_sumT {st : Store} {ns : List Int} : fSum st [.tup (ns.map D.int)] = some (.int ns.sum) := by
  show (intsOf (ns.map D.int)).map (fun ns => D.int ns.sum) = _
  rw [intsOf_map]
  rfl
/-- for x in ..: acc = acc + [..] -/
theorem for_acc {α : Type} {k : α → D} {i j : Nat} {e : EM} {F : α → List D} {B : DEnv → Prop} {st : Store} {all : List D} (hij : i ≠ j) (hB : ∀ δ d, B δ → B (δ.set j (some d))) (hB' : ∀ δ d, B δ → B (δ.set i (some d))) : ∀ {xs : List α} {acc : List D} {δ : DEnv},
    (∀ δ x, x ∈ xs → B δ → δ[j]? = some (some (k x)) → e δ st = .ok (.lst (F x)) st) → acc.length + (xs.flatMap F).length ≤ 100000 → B δ → δ[i]? = some (some (.lst acc)) → j < δ.length →
    ∃ δ', forL none all (gSet j) (sSet i (e2 fPlus (eVar i) e)) (xs.map k) δ st = .ok (.next, δ') st ∧ B δ' ∧ δ'[i]? = some (some (.lst (acc ++ xs.flatMap F))) ∧ δ'.length = δ.length
  | [], acc, δ, he, hn, hb, hi, hj => ⟨δ, rfl, hb, by simpa using hi, rfl⟩
  | d :: ds, acc, δ, he, hn, hb, hi, hj => by
    have hn' : acc.length + ((F d).length + (ds.flatMap F).length) ≤ 100000 := by simpa [List.flatMap_cons] using hn
    have h1 : (δ.set j (some (k d)))[i]? = some (some (.lst acc)) := by rw [List.getElem?_set_ne (Ne.symm hij)]; exact hi
    have h2 : (δ.set j (some (k d)))[j]? = some (some (k d)) := List.getElem?_set_self hj
    have t := set_run (i := i) (e2_run (var_run h1) (he _ d List.mem_cons_self (hB _ (k d) hb) h2) (x_plusL (by omega)))
    have hi2 : ((δ.set j (some (k d))).set i (some (.lst (acc ++ F d))))[i]? = some (some (.lst (acc ++ F d))) := List.getElem?_set_self (List.getElem?_eq_some_iff.mp h1).1
    obtain ⟨δ', g1, g2, g3, g4⟩ := for_acc (k := k) (all := all) (F := F) (e := e) (st := st) hij hB hB' (xs := ds) (acc := acc ++ F d) (δ := (δ.set j (some (k d))).set i (some (.lst (acc ++ F d)))) (fun δ x hx => he δ x (List.mem_cons_of_mem _ hx)) (by rw [List.length_append]; omega) (hB' _ _ (hB _ (k d) hb)) hi2 (by simpa using hj)
    refine ⟨δ', ?_, g2, by simpa [List.flatMap_cons, List.append_assoc] using g3, by simpa using g4⟩
    rw [List.map_cons, forL, chk_none]
    show (sSet i (e2 fPlus (eVar i) e) (δ.set j (some (k d))) >>= _) st = _
    rw [M.ok_bind t]
    exact g1
theorem for_iter {P : Nat → DEnv → Prop} {g : GM} {body : SM} {st : Store} {all : List D} : ∀ {ds : List D} {m : Nat} {δ : DEnv},
    (∀ m' d δ, m' < m + ds.length → P m' δ → ∃ δ1 δ2, g d δ = some δ1 ∧ body δ1 st = .ok (.next, δ2) st ∧ P (m' + 1) δ2) → P m δ → ∃ δ', forL none all g body ds δ st = .ok (.next, δ') st ∧ P (m + ds.length) δ'
  | [], m, δ, _, h => ⟨δ, rfl, h⟩
  | d :: ds, m, δ, hs, h => by
    obtain ⟨δ1, δ2, h1, h2, h3⟩ := hs m d δ (by simp) h
    obtain ⟨δ', g1, g2⟩ := for_iter (all := all) (ds := ds) (m := m + 1) (δ := δ2) (fun m' d δ hm => hs m' d δ (by simp only [List.length_cons]; omega)) h3
    refine ⟨δ', ?_, by simpa [Nat.add_assoc, Nat.add_comm 1] using g2⟩
    rw [forL, chk_none, h1]
    show (body δ1 >>= _) st = _
    rw [M.ok_bind h2]
    exact g1
theorem for_run {it : IM} {g : GM} {body : SM} {δ δ' : DEnv} {st st0 st' : Store} {ds : List D} (hi : it δ st = .ok (ds, none) st0) (h : forL none ds g body ds δ st0 = .ok (.next, δ') st') : sFor it g body δ st = .ok (.next, δ') st' := by
  unfold sFor
  rw [M.ok_bind hi]
  exact h
/-! ### sorted, of what a function makes -/
theorem insK_map {α β : Type} (f : α → β) (x : List Int × α) : ∀ l : List (List Int × α), insK (x.1, f x.2) (l.map fun y => (y.1, f y.2)) = (insK x l).map fun y => (y.1, f y.2)
  | [] => rfl
  | y :: l => by
    rw [List.map_cons, insK, insK]
    split
    · rw [List.map_cons, insK_map f x l]
    · rfl
theorem sortK_map {α β : Type} (f : α → β) : ∀ l : List (List Int × α), sortK (l.map fun y => (y.1, f y.2)) = (sortK l).map fun y => (y.1, f y.2)
  | [] => rfl
  | x :: l => by
    rw [List.map_cons, sortK, sortK, sortK_map f l, insK_map]
def srtB (q : PyData) (p : PyData) : Bool := shp p q && shp q q && decide (q.depth ≤ 60) && (match q with | .tuple (.tuple _ :: _) => true | _ => false)
theorem mapO_map {α β γ : Type} {f : α → Option β} {k : γ → α} {g : γ → β} (h : ∀ x, f (k x) = some (g x)) : ∀ xs : List γ, mapO f (xs.map k) = some (xs.map g)
  | [] => rfl
  | x :: xs => by
    rw [List.map_cons, mapO_cons, h x, mapO_map h xs]
    rfl
/-- sorted, of things told by k as data and by g as what is read -/
theorem x_sorted {α : Type} {st : Store} {k : α → D} {g : α → PyData} (h : ∀ x, toPy st 60 (k x) = some (g x)) {xs : List α} (hl : xs.length ≤ 100000) (hs : ∀ p ∈ xs.head?, (xs.map g).all (fun q => shp (g p) q && shp q q && decide (q.depth ≤ 60) && (match q with | .tuple (.tuple _ :: _) => true | _ => false)) = true) :
    fSorted st [.lst (xs.map k)] = some (.lst ((sortK (xs.map fun x => (flatP (g x), x))).map fun y => k y.2)) := by
  unfold fSorted
  dsimp only
  rw [mapO_map h]
  cases xs with
  | nil => rfl
  | cons x xs =>
    have hs := hs x rfl
    rw [List.map_cons] at hs ⊢
    dsimp only
    rw [if_pos ⟨hs, by simpa using hl⟩]
    have e : ∀ l : List α, ((l.map g).map flatP).zip (l.map k) = (l.map fun x => (flatP (g x), x)).map fun y => (y.1, k y.2) := by
      intro l
      induction l with
      | nil => rfl
      | cons a l ih => rw [List.map_cons, List.map_cons, List.map_cons, List.zip_cons_cons, ih]; rfl
    have e2 := e (x :: xs)
    rw [List.map_cons (f := g)] at e2
    rw [e2, sortK_map, List.map_map]
    rfl
theorem sortK_len {α : Type} : ∀ l : List (List Int × α), (sortK l).length = l.length
  | [] => rfl
  | x :: l => by
    have h : ∀ (x : List Int × α) (l : List (List Int × α)), (insK x l).length = l.length + 1 := by
      intro x l
      induction l with
      | nil => rfl
      | cons y l ih =>
        rw [insK]
        split
        · rw [List.length_cons, ih, List.length_cons]
        · rfl
    rw [sortK, h, sortK_len l, List.length_cons]
end DL
/-! DL39: enumerate of a tuple. -/
namespace DL
open PySem PySem.Spec PyProof.Rows L2
theorem meets_enumerate_new1 {v : Value} {o : Obj} {H : Heap → Prop} (B : Begins v o H) :
    Meets (Builtin.«enumerate.__new__» ⟨[.type "enumerate", v], []⟩) (fun _ R s => H s.heap ∧
      R (.ok (.ret (.ref (s.heap.push o).objs.size))) { s with heap := (s.heap.push o).push { cls := .type "enumerate", data := .fields #[.none, .bool false, .ref s.heap.objs.size, rawInt 0, .none, .none] } }) :=
  .of_wp fun prog w A R s h => by
    obtain ⟨hp, g, d, tk, os⟩ := s; obtain ⟨h1, h⟩ := h
    have hsub := sub_enumerate
    have q1 : ∀ {A' : Around} {E : Value → Shared → Prop} {Q : Value → Shared → Prop}, Q (.ref hp.objs.size) ⟨hp.push o, g, d, tk, os⟩ → wpAny (model prog w) A' (pyIter v) Q E ⟨hp, g, d, tk, os⟩ :=
      fun q => B.iter prog w _ _ ⟨hp, g, d, tk, os⟩ _ h1 q
    wp_walk using q1
    refine wpAny_stack_any fun st => wpAny_pure ?_
    split
    · rename_i c _ _ _ _ _
      cases (c == Value.type "enumerate")
      · wp_walk using q1
        exact ⟨_, rfl, h⟩
      · wp_walk using q1
        exact ⟨_, rfl, h⟩
    · wp_walk using q1
      exact ⟨_, rfl, h⟩
section
variable {prog : Program} {w : World} {A : Around} {E : Value → Shared → Prop} {s : Shared}
theorem enum_begins1 {v : Value} {o : Obj} {H : Heap → Prop} {Q : Value → Shared → Prop} (B : Begins v o H) (h1 : H s.heap)
    (h : ∀ h', IsEnum h' (s.heap.objs.size + 1) s.heap.objs.size 0 .none → h'.get? s.heap.objs.size = some o → h'.objs.size = s.heap.objs.size + 2 →
      (∀ b o, s.heap.get? b = some o → h'.get? b = some o) → Q (.ref (s.heap.objs.size + 1)) { s with heap := h' }) :
    wpAny (model prog w) A (call (.type "enumerate") [v]) Q E s := by
  refine callType_new F.called_enumerate (by decide) (F.typeCall_enumerate_1 _) (F.newCall_enumerate_1 _) (fun obj => F.args_object_init_2 obj _) F.entry_enumerate_new
    (meets_enumerate_new1 B) ⟨h1, ?_⟩
  have hz : (s.heap.push o).objs.size = s.heap.objs.size + 1 := Heap.size_push ..
  show _ ∧ _
  rw [hz]
  have he : IsEnum ((s.heap.push o).push { cls := .type "enumerate", data := .fields #[.none, .bool false, .ref s.heap.objs.size, rawInt 0, .none, .none] }) (s.heap.objs.size + 1) s.heap.objs.size 0 .none := by
    have := Heap.get?_push_size (s.heap.push o) (o := { cls := .type "enumerate", data := .fields #[.none, .bool false, .ref s.heap.objs.size, rawInt 0, .none, .none] }) rfl
    rw [hz] at this; exact this
  refine ⟨⟨_, he, rfl⟩, h _ he (Heap.get?_push_of_some _ (Heap.get?_push_size _ B.free)) (by rw [Heap.size_push, hz]) fun b o x => Heap.get?_push_of_some _ (Heap.get?_push_of_some _ x)⟩
end
/-- the tuple at a, each item in a new pair -/
def IteT (K : PySem.W.Frag) (a : Addr) : It :=
  ⟨fun i H => ∃ (xs : List V) (x : V), SqT K H a xs ∧ xs[i]? = some x, fun i H v H' => ∃ T x, v = .ref T ∧ H T = none ∧ H' = upd H T (.tup [.int (i : Nat), x]) ∧ ∀ xs, SqT K H a xs → xs[i]? = some x, fun i H => ∃ xs : List V, SqT K H a xs ∧ xs.length ≤ i⟩
theorem turn_enumT {P : Program} {w : World} {K : PySem.W.Frag} {elts : List Expr} {kk : Nat} {tpos : Pos} (a e it : Addr) :
    Turn P w K (.Tuple elts kk tpos) (IteT K a) [e, it] e (fun i h => (∃ old, IsEnum h e it ((i : Nat) : Int) old) ∧ h.IsTupleIter it a i ∧ e ≠ it ∧ a ≠ e ∧ a ≠ it) where
  mem := by simp
  obj := fun i h st b hb => by
    obtain ⟨⟨old, he⟩, ⟨o, ho, hc, hd⟩, _⟩ := st
    have e' : b = e ∨ b = it := by simpa using hb
    rcases e' with z | z
    · rw [z]; exact ⟨_, he, fun v q => nomatch q⟩
    · rw [z]; exact ⟨o, ho, fun v q => by rw [hd] at q; cases q⟩
  keep := fun i h h' st k => let ⟨⟨old, he⟩, hi, hne⟩ := st; ⟨⟨old, k e (by simp) _ he⟩, hi.at fun o q => k it (by simp) o q, hne⟩
  item := by
    intro X hP hw hK hc i pins s σ H E I hf st hg
    subst hP hw hK
    obtain ⟨⟨old, he⟩, hit, hne, hae, hai⟩ := st
    obtain ⟨xs, x, hq, hx⟩ := hg
    obtain ⟨its, rv, p, hz⟩ := I.tuple hq
    obtain ⟨u, hu, ru⟩ := rv.get hx
    have hel : e < s.heap.objs.size := Heap.lt_size he
    have hil : it < s.heap.objs.size := by obtain ⟨_, q, _⟩ := hit; exact Heap.lt_size q
    have hlt : i < its.toArray.size := by
      have := (List.getElem?_eq_some_iff.mp hu).1
      simpa using this
    refine wpAny_pyNext_enum_itemD (Draws.tuple (prog := X.prog) (w := X.w) (A := X.A.in1) (I.ok.hd hc) it a hai its.toArray) he ⟨hit, p⟩ hlt hne (by simp [hne, Ne.symm hae]) fun x' h' tk hP ho hst' hT hsz hk => ?_
    obtain rfl : u = x' := by
      have q : its.toArray[i]? = some x' := hP
      rw [List.getElem?_toArray, hu] at q
      exact Option.some.inj q
    refine ⟨_, rfl, wpAny_letOwnedTupleGo_enum (s := { s with heap := h', toks := tk + 1 }) ho fun h'' he' sb => ?_⟩
    have hT2 : h''.get? s.heap.objs.size = some { cls := .type "tuple", data := .seq #[.int i tk, u] } := (sb.2 _ (Nat.ne_of_gt hel)).trans hT
    have new : ObjOk X.prog X.w (upd H s.heap.objs.size (.tup [.int (i : Nat), x])) h'' s.heap.objs.size (.tup [.int (i : Nat), x]) :=
      ⟨by show 2 ≤ sizeLine; decide, [.int i tk, u], .cons ⟨_, rfl⟩ (.cons ru .nil), ⟨_, hT2, rfl, _, rfl⟩⟩
    have I1 : Inv X pins σ (upd H s.heap.objs.size (.tup [.int (i : Nat), x])) { s with heap := h'', toks := tk + 1 } :=
      I.turnedNew (ch := [e, it]) (fun b ob hb q => (sb.2 b (fun z => hb (by simp [z]))).trans (hk b ob (fun z => hb (by simp [z])) (fun z => hb (by simp [z])) q)) hf (Nat.le_refl _) new
    refine ⟨.ref s.heap.objs.size, _, I1, rfl, ⟨_, x, rfl, I.hok.fresh (Nat.le_refl _), rfl, fun ys hy => by rw [I.tuple_inj hy hq]; exact hx⟩, ⟨⟨u, ?_⟩, hst'.1.at fun o q => (sb.2 it (Ne.symm hne)).trans q, hne, hae, hai⟩, fun b hb => ?_⟩
    · have e1 : ((i + 1 : Nat) : Int) = (i : Int) + 1 := by omega
      rw [e1]; exact he'
    · have hb' : b < s.heap.objs.size := by
        have e' : b = e ∨ b = it := by simpa using hb
        rcases e' with z | z
        · rw [z]; exact hel
        · rw [z]; exact hil
      rw [upd_ne (Nat.ne_of_lt hb')]
      exact (hf b hb).1
  done := by
    intro X hP hw hK hc i pins s σ H E I hf st hg
    subst hP hw hK
    obtain ⟨⟨old, he⟩, hit, hne, hae, hai⟩ := st
    obtain ⟨xs, hq, hx⟩ := hg
    obtain ⟨its, rv, p, hz⟩ := I.tuple hq
    obtain ⟨f0, f1, f2, f3, f4, f5⟩ := hf it (by simp)
    have hl := rv.length
    have D := Draws.tuple (prog := X.prog) (w := X.w) (A := X.A.in1) (I.ok.hd hc) it a hai its.toArray
    have hn : its.toArray[i]? = none := by
      rw [List.getElem?_toArray]
      exact List.getElem?_eq_none (by omega)
    have hT : s.TypeIs (.ref e) "enumerate" := ⟨_, he, rfl⟩
    have key : ∀ (Q : Option Value → Shared → Prop), (∀ h', Heap.ExtBut it s.heap h' → Q none { s with heap := h' }) → wpAny (model X.prog X.w) X.A (pyNext (.ref e)) Q E s := by
      intro Q hQ
      unfold pyNext
      refine wpAny_bind (wpAny_attempt (wpAny_callSpecial?_slot (name := Str.ofString "__next__") hT F.slot_enumerate_next
        (wpAny_call_entry F.slot_enumerate_next hT F.entry_enumerate_next ?_ (F.args_enumerate_next_1 _))))
      show wpAny _ _ (field (.ref e) 2 >>= _) _ _ _
      refine wpAny_bind (wpAny_field he rfl (x := .ref it) rfl ?_)
      refine wpAny_bind (wpAny_nextOf_tuple_end (I.ok.hd hc) hit p hn fun h' x he' hx' => ?_)
      obtain ⟨o, ho, hcl⟩ := hx'
      refine wpAny_bind (wpAny_isInstance (T := "StopIteration") (b := true) ⟨o, ho, hcl⟩ isSubtype_stop ?_)
      exact wpAny_pure (hQ _ he')
    exact key _ fun h' eb => ⟨rfl, I.turned (t' := s.toks) (fun b o hb q => eb b o hb q) f0 f1 f3 f4 f5⟩
  self := fun A i s Q E st h => let ⟨⟨_, he⟩, _⟩ := st; wpAny_pyIter_enum he h
def iEnumT (K : PySem.W.Frag) (ta : TA) : TI := fun σ H R => ta σ H fun vs H1 => ∃ a xs, vs = [.ref a] ∧ SqT K H1 a xs ∧ R (IteT K a) H1
theorem pi_enumT {X : Cx} {e : Expr} {ta : TA} {p pos tpos : Pos} {elts : List Expr} {kk : Nat} (hg : Gl X "enumerate") (hm : X.mg "enumerate" = none) (ha : PA X [e] ta) (hs : starEach [e] X.env = [(false, eval e X.env)] := by rfl) :
    PI X (.Tuple elts kk tpos) (.Call (.Name "enumerate" p) [e] [] pos) (iEnumT X.K ta) := by
  refine ⟨fun pins s σ H R I h => ?_⟩
  refine Call_ (ld_blt I hg hm boot_enumerate (PyProof.Rows.callWith_type1 (thn (ha.run pos pins s σ H _ I h) fun us s1 ⟨vs, H1, I1, r1, q1⟩ => ?_) hs rfl))
  obtain ⟨a, xs, ex, hq, q⟩ := q1
  subst ex
  cases r1 with
  | cons r rr =>
    cases rr
    cases r
    obtain ⟨its, rv, p', hz⟩ := I1.tuple hq
    have hal : a < s1.heap.objs.size := by obtain ⟨o, ho, _⟩ := p'; exact Heap.lt_size ho
    refine enum_begins1 (begins_tuple a its.toArray) p' fun h' he hit hsz hk => wpAny_pyIter_enum he ?_
    have I2 : Inv X pins σ H1 { s1 with heap := h' } := I1.kept (t' := s1.toks) hk
    refine ⟨s1.heap.objs.size + 1, [s1.heap.objs.size + 1, s1.heap.objs.size], _, _, H1, rfl, I2, turn_enumT a (s1.heap.objs.size + 1) s1.heap.objs.size, ⟨⟨.none, he⟩, ⟨_, hit, rfl, rfl⟩, Nat.succ_ne_self _, ?_, Nat.ne_of_lt hal⟩, fun b hb => ?_, q⟩
    · exact Nat.ne_of_lt (Nat.lt_succ_of_lt hal)
    · have e' : b = s1.heap.objs.size + 1 ∨ b = s1.heap.objs.size := by simpa using hb
      have hle : s1.heap.objs.size ≤ b := by
        rcases e' with z | z
        · rw [z]; exact Nat.le_add_right _ _
        · rw [z]; exact Nat.le_refl _
      exact I1.fpOk hle (I1.hok.fresh hle)
/-! ### the mirror -/
def enumD (xs : List D) : List D := xs.zipIdx.map fun p => .tup [.int (p.2 : Nat), p.1]
def itEnum (a : AM) : IM := fun δ => a δ >>= fun ds => match ds with
  | [.tup xs] => pure (enumD xs, none)
  | _ => M.stuck
section
variable {T : Tab} {ρ : Rho} {st : Store} {H : Hp}
theorem enum_get {xs : List D} {i : Nat} {d : D} (h : (enumD xs)[i]? = some d) : ∃ x, d = .tup [.int (i : Nat), x] ∧ xs[i]? = some x := by
  unfold enumD at h
  rw [List.getElem?_map, List.getElem?_zipIdx] at h
  cases q : xs[i]? with
  | none => rw [q] at h; cases h
  | some x =>
    rw [q] at h
    simp only [Option.map_some, Option.some.injEq] at h
    exact ⟨x, by rw [← h]; simp, rfl⟩
theorem jok_enumT {K : PySem.W.Frag} {a : Addr} {xs : List D} {vs : List V} (hK : T.K = K) (ha : (H a = some (.tup vs) ∧ ¬ Live ρ st a) ∨ KTup K a vs) (ra : RAll T ρ st H xs vs) :
    JOk T ρ st H (IteT K a) (enumD xs) none := by
  have tup2 : ∀ {ρ2 st2 H2}, Ext ρ st H ρ2 st2 H2 → SqT K H2 a vs := fun e => by
    rcases ha with ⟨h, l⟩ | k
    · exact SqT.of (e.stay _ _ h plain_tup l)
    · exact .inr k
  refine ⟨fun ρ2 st2 H2 e m _ i d hd => ?_, fun ρ2 st2 H2 e m _ i hi => ?_⟩
  · obtain ⟨x, rfl, hx⟩ := enum_get hd
    obtain ⟨u, hu, ru⟩ := ra.get hx
    have h2 := tup2 e
    refine ⟨⟨vs, u, h2, hu⟩, fun z H3 ⟨t, u2, e1, e2, e3, e4⟩ => ?_⟩
    have q1 := e4 vs h2
    rw [hu] at q1
    cases q1
    subst e1
    subst e3
    have ee := Ext.new (ρ := ρ2) (st := st2) (o := .tup [.int (i : Nat), u]) m e2
    refine ⟨ee, m.new e2, ?_⟩
    simp only [R]
    exact ⟨t, _, rfl, .inl ⟨upd_same, m.notLive e2⟩, .cons R.int (.cons ((ru.ext e _ _).ext ee _ _) .nil)⟩
  · refine ⟨vs, tup2 e, ?_⟩
    unfold enumD at hi
    rw [List.length_map, List.length_zipIdx] at hi
    rw [← ra.length]
    exact hi
end
section
variable {X : Cx} {fl : Fls} {Wx : WX} {e : Expr} {mA : AM} {elts : List Expr} {kk : Nat} {tpos p pos : Pos}
theorem di_enum (hg : Gl X "enumerate") (hm : X.mg "enumerate" = none) (ha : DA X fl Wx [e] mA) (hs : starEach [e] X.env = [(false, eval e X.env)] := by rfl) : DI X fl Wx (.Tuple elts kk tpos) (.Call (.Name "enumerate" p) [e] [] pos) (itEnum mA) := by
  refine pi_imp (pi_enumT hg hm ha hs) fun σ H Rr ⟨ρ, δ, st, mt, en, h⟩ => ?_
  refine ⟨ρ, δ, st, mt, en, (Post.bind h).monoE fun ds ρ1 st1 H1 e1 m1 h1 vs rs => ?_⟩
  split at h1
  · rename_i xs
    simp only [RAll] at rs
    obtain ⟨x, _, rfl, r1, rfl⟩ := rs
    simp only [R] at r1
    obtain ⟨a, vs, rfl, qa, ra⟩ := r1
    exact ⟨a, vs, rfl, qa.elim (fun z => SqT.of z.1) .inr, h1 ρ1 H1 .refl m1 _ (jok_enumT rfl qa ra)⟩
  · exact False.elim h1
end
end DL
/-! DL40: tuples of ints: <, sorted, sorted(set(..)). -/
namespace DL
open PySem PySem.Spec PyProof.Rows L2
/-! ### the order -/
theorem lex_tot : ∀ {a b : List Int}, HT.lexLt a b = false → HT.lexLt b a = false → a = b
  | [], [], _, _ => rfl
  | [], _ :: _, h, _ => by rw [HT.lexLt_nil_cons] at h; cases h
  | _ :: _, [], _, h => by rw [HT.lexLt_nil_cons] at h; cases h
  | x :: a, y :: b, h1, h2 => by
    rw [HT.lexLt_cons] at h1 h2
    by_cases e : x = y
    · rw [if_pos e] at h1
      rw [if_pos e.symm] at h2
      rw [e, lex_tot h1 h2]
    · rw [if_neg e] at h1
      rw [if_neg (Ne.symm e)] at h2
      have h1 := of_decide_eq_false h1
      have h2 := of_decide_eq_false h2
      omega
theorem lex_irr (a : List Int) : HT.lexLt a a = false := (NtL.swo_lexL (fun x : List Int => x)).refl a
theorem lex_as {a b : List Int} (h : HT.lexLt a b = true) : HT.lexLt b a = false := NtL.lex_asym _ _ h
theorem lex_tr {a b c : List Int} (h1 : HT.lexLt a b = true) (h2 : HT.lexLt b c = true) : HT.lexLt a c = true := by
  have O : SrtO.Swo (fun v u : List Int => HT.lexLt v u) := NtL.swo_lexL (fun x : List Int => x)
  exact O.ltle h1 (O.asym _ _ h2)
abbrev Asc (l : List (List Int)) : Prop := l.Pairwise fun a b => HT.lexLt a b = true
theorem asc_uniq : ∀ {l m : List (List Int)}, Asc l → Asc m → (∀ x, x ∈ l ↔ x ∈ m) → l = m
  | [], [], _, _, _ => rfl
  | [], y :: m, _, _, h => absurd ((h y).mpr List.mem_cons_self) (by simp)
  | x :: l, [], _, _, h => absurd ((h x).mp List.mem_cons_self) (by simp)
  | x :: l, y :: m, hl, hm, h => by
    obtain ⟨l1, l2⟩ := List.pairwise_cons.mp hl
    obtain ⟨m1, m2⟩ := List.pairwise_cons.mp hm
    have e : x = y := by
      have hx : x ∈ y :: m := (h x).mp List.mem_cons_self
      have hy : y ∈ x :: l := (h y).mpr List.mem_cons_self
      rcases List.mem_cons.mp hx with e | hx
      · exact e
      · rcases List.mem_cons.mp hy with e | hy
        · exact e.symm
        · have q1 := m1 x hx
          have q2 := l1 y hy
          rw [lex_as q1] at q2
          cases q2
    subst e
    have hs : ∀ z, z ∈ l ↔ z ∈ m := fun z => by
      constructor
      · intro hz
        have q := (h z).mp (List.mem_cons_of_mem _ hz)
        rcases List.mem_cons.mp q with e | q
        · have := l1 z hz
          rw [e, lex_irr] at this
          cases this
        · exact q
      · intro hz
        have q := (h z).mpr (List.mem_cons_of_mem _ hz)
        rcases List.mem_cons.mp q with e | q
        · have := m1 z hz
          rw [e, lex_irr] at this
          cases this
        · exact q
    rw [asc_uniq l2 m2 hs]
def insU (x : List Int) : List (List Int) → List (List Int)
  | [] => [x]
  | y :: l => if HT.lexLt x y = true then x :: y :: l else if HT.lexLt y x = true then y :: insU x l else y :: l
def sortU : List (List Int) → List (List Int)
  | [] => []
  | x :: l => insU x (sortU l)
theorem insU_mem {x z : List Int} : ∀ {l : List (List Int)}, z ∈ insU x l ↔ z = x ∨ z ∈ l
  | [] => by simp [insU]
  | y :: l => by
    unfold insU
    split
    · simp
    · split
      · rw [List.mem_cons, insU_mem, List.mem_cons]
        constructor
        · rintro (h | h | h)
          · exact .inr (.inl h)
          · exact .inl h
          · exact .inr (.inr h)
        · rintro (h | h | h)
          · exact .inr (.inl h)
          · exact .inl h
          · exact .inr (.inr h)
      · rename_i h1 h2
        have e : x = y := lex_tot (by simpa using h1) (by simpa using h2)
        rw [e]
        simp
theorem insU_asc {x : List Int} : ∀ {l : List (List Int)}, Asc l → Asc (insU x l)
  | [], _ => by simp [insU, Asc]
  | y :: l, h => by
    obtain ⟨h1, h2⟩ := List.pairwise_cons.mp h
    unfold insU
    split
    · rename_i hx
      refine List.pairwise_cons.mpr ⟨fun z hz => ?_, h⟩
      rcases List.mem_cons.mp hz with rfl | hz
      · exact hx
      · exact lex_tr hx (h1 z hz)
    · split
      · rename_i hy
        refine List.pairwise_cons.mpr ⟨fun z hz => ?_, insU_asc h2⟩
        rcases insU_mem.mp hz with rfl | hz
        · exact hy
        · exact h1 z hz
      · exact h
theorem sortU_mem {z : List Int} : ∀ {l : List (List Int)}, z ∈ sortU l ↔ z ∈ l
  | [] => by simp [sortU]
  | x :: l => by rw [sortU, insU_mem, sortU_mem, List.mem_cons]
theorem sortU_asc : ∀ l : List (List Int), Asc (sortU l)
  | [] => List.Pairwise.nil
  | x :: l => insU_asc (sortU_asc l)
theorem asc_nodup {l : List (List Int)} (h : Asc l) : l.Nodup := by
  refine List.Pairwise.imp (fun {a b} q e => ?_) h
  rw [e, lex_irr] at q
  cases q
theorem sortU_of {l : List (List Int)} (h : Asc l) : sortU l = l := asc_uniq (sortU_asc l) h fun x => sortU_mem
theorem sortU_len (l : List (List Int)) : (sortU l).length ≤ l.length := by
  induction l with
  | nil => exact Nat.le_refl _
  | cons x l ih =>
    have : ∀ (x : List Int) (l : List (List Int)), (insU x l).length ≤ l.length + 1 := by
      intro x l
      induction l with
      | nil => simp [insU]
      | cons y l ih =>
        unfold insU
        split
        · simp
        · split
          · simp only [List.length_cons]; omega
          · simp
    rw [sortU, List.length_cons]
    have := this x (sortU l)
    omega
/-! ### the codes -/
theorem code_lex {B : Int} : ∀ {n m : List Int}, n.length = m.length → TS.Bd B n → TS.Bd B m → HT.lexLt n m = decide (TS.code B n < TS.code B m)
  | [], [], _, _, _ => by
    rw [HT.lexLt_nil_nil]
    exact (decide_eq_false (by simp [TS.code])).symm
  | d :: n, e :: m, hl, h1, h2 => by
    have hl' : n.length = m.length := by simpa using hl
    rw [HT.lexLt_cons]
    by_cases c : d = e
    · subst c
      have ih := code_lex (n := n) (m := m) hl' h1.tail h2.tail
      rw [if_pos rfl, ih]
      exact decide_eq_decide.mpr (TS.code_same hl').symm
    · rw [if_neg c]
      by_cases q : d < e
      · rw [decide_eq_true q, decide_eq_true (TS.code_lt hl' h1.tail h2.tail q)]
      · have := TS.code_lt hl'.symm h2.tail h1.tail (show e < d by omega)
        rw [decide_eq_false q, decide_eq_false (by omega)]
  | [], _ :: _, h, _, _ => by simp at h
  | _ :: _, [], h, _, _ => by simp at h
theorem asc_codes {B : Int} {d : Nat} : ∀ {l : List (List Int)}, (∀ n ∈ l, n.length = d ∧ TS.Bd B n) → l.Nodup → l.Pairwise (fun a b => TS.code B a ≤ TS.code B b) → Asc l
  | [], _, _, _ => List.Pairwise.nil
  | x :: l, hb, hn, hp => by
    obtain ⟨n1, n2⟩ := List.nodup_cons.mp hn
    obtain ⟨p1, p2⟩ := List.pairwise_cons.mp hp
    refine List.pairwise_cons.mpr ⟨fun z hz => ?_, asc_codes (fun n h => hb n (List.mem_cons_of_mem _ h)) n2 p2⟩
    obtain ⟨x1, x2⟩ := hb x List.mem_cons_self
    obtain ⟨z1, z2⟩ := hb z (List.mem_cons_of_mem _ hz)
    by_cases q : HT.lexLt x z = true
    · exact q
    · have q : HT.lexLt x z = false := by simpa using q
      have q2 : HT.lexLt z x = false := by
        rw [code_lex (z1.trans x1.symm) z2 x2]
        exact decide_eq_false (by have := p1 z hz; omega)
      exact absurd (lex_tot q q2) (fun e => n1 (e ▸ hz))
/-! ### tuples of ints, as data -/
abbrev tI (ns : List Int) : D := .tup (ns.map D.int)
def intsT : List D → Option (List (List Int))
  | [] => some []
  | .tup ds :: es => (intsOf ds).bind fun ns => (intsT es).map (ns :: ·)
  | _ => none
theorem intsOf_eq : ∀ {ds : List D} {ns : List Int}, intsOf ds = some ns → ds = ns.map D.int
  | [], ns, h => by cases h; rfl
  | d :: ds, ns, h => by
    cases d with
    | int i =>
      cases q : intsOf ds with
      | none => simp [intsOf, q] at h
      | some ms =>
        have e : i :: ms = ns := by simpa [intsOf, q] using h
        rw [← e, intsOf_eq q]
        rfl
    | _ => simp [intsOf] at h
theorem intsT_eq : ∀ {es : List D} {nss : List (List Int)}, intsT es = some nss → es = nss.map tI
  | [], nss, h => by cases h; rfl
  | d :: es, nss, h => by
    cases d with
    | tup ds =>
      cases q : intsOf ds with
      | none => simp [intsT, q] at h
      | some ns =>
        cases q2 : intsT es with
        | none => simp [intsT, q, q2] at h
        | some mss =>
          have e : ns :: mss = nss := by simpa [intsT, q, q2] using h
          rw [← e, intsT_eq q2, intsOf_eq q]
          rfl
    | _ => simp [intsT] at h
theorem intsOf_map' : ∀ (ns : List Int), intsOf (ns.map D.int) = some ns
  | [] => rfl
  | n :: ns => by
    have ih := intsOf_map' ns
    simp [intsOf, ih]
theorem intsT_map : ∀ (nss : List (List Int)), intsT (nss.map tI) = some nss
  | [] => rfl
  | ns :: nss => by
    have ih := intsT_map nss
    have e := intsOf_map' ns
    simp [intsT, ih, e]
/-- all of d numbers, of little size -/
def bdd (nss : List (List Int)) : Bool := match nss with
  | [] => true
  | n :: r => decide (1 ≤ n.length) && (n :: r).all (fun m => decide (m.length = n.length) && m.all fun i => decide (0 ≤ i) && decide (i < 1000000))
theorem bdd_ok {nss : List (List Int)} (h : bdd nss = true) : ∃ d : Nat, 1 ≤ d ∧ ∀ n ∈ nss, n.length = d ∧ TS.Bd 1000000 n := by
  cases nss with
  | nil => exact ⟨1, Nat.le_refl _, fun n h => by cases h⟩
  | cons x r =>
    have h : (decide (1 ≤ x.length) && (x :: r).all (fun m => decide (m.length = x.length) && m.all fun i => decide (0 ≤ i) && decide (i < 1000000))) = true := h
    rw [Bool.and_eq_true, List.all_eq_true] at h
    refine ⟨x.length, of_decide_eq_true h.1, fun n hn => ?_⟩
    have q := h.2 n hn
    rw [Bool.and_eq_true, List.all_eq_true] at q
    refine ⟨of_decide_eq_true q.1, fun m hm => ?_⟩
    have z := q.2 m hm
    rw [Bool.and_eq_true] at z
    exact ⟨of_decide_eq_true z.1, of_decide_eq_true z.2⟩
/-- sorted(xs), xs tuples of ints, all of them other ones -/
def fSortT (_ : Store) (ds : List D) : Option D := match ds with
  | [.lst es] => match intsT es with
    | some nss => if bdd nss = true ∧ nss.length < 64 ∧ nss.Nodup then some (.lst ((sortU nss).map tI)) else none
    | none => none
  | _ => none
/-- sorted(set(xs)) -/
def fSortS (_ : Store) (d : D) : Option D := match d with
  | .lst es => match intsT es with
    | some nss => if bdd nss = true ∧ nss.length < 64 then some (.lst ((sortU nss).map tI)) else none
    | none => none
  | _ => none
section
variable {T : Tab} {ρ : Rho} {st : Store} {H : Hp}
theorem ints_R {ns : List Int} : ∀ {vs : List V}, RAll T ρ st H (ns.map D.int) vs → vs = ns.map V.int := fun r => ints_ok r (intsOf_map' ns)
theorem R.tI_of {ns : List Int} {x : V} (h : R T ρ st H (tI ns) x) : ∃ a, x = .ref a ∧ SqT T.K H a (ns.map V.int) := by
  obtain ⟨a, vs, e, q, r⟩ := R.tup_of h
  rw [ints_R r] at q
  exact ⟨a, e, q⟩
theorem perm_ints : ∀ {ys vs : List V}, ys.Perm vs → ∀ {nss : List (List Int)}, RAll T ρ st H (nss.map tI) vs → ∃ nss' : List (List Int), nss'.Perm nss ∧ RAll T ρ st H (nss'.map tI) ys := by
  intro ys vs p
  induction p with
  | nil => exact fun {nss} r => ⟨nss, .refl _, r⟩
  | @cons x l1 l2 p ih =>
    intro nss r
    cases nss with
    | nil => simp [RAll] at r
    | cons n nss =>
      rw [List.map_cons] at r
      simp only [RAll] at r
      obtain ⟨v, xs, e, r1, r2⟩ := r
      cases e
      obtain ⟨nss', p', r'⟩ := ih r2
      exact ⟨n :: nss', p'.cons n, by rw [List.map_cons]; exact .cons r1 r'⟩
  | @swap x y l =>
    intro nss r
    match nss with
    | [] => simp [RAll] at r
    | [n] => simp [RAll] at r
    | n :: m :: nss =>
      rw [List.map_cons, List.map_cons] at r
      simp only [RAll] at r
      obtain ⟨v, xs, e, r1, v2, xs2, e2, r2, r3⟩ := r
      subst e2
      cases e
      exact ⟨m :: n :: nss, .swap _ _ _, by rw [List.map_cons, List.map_cons]; exact .cons r2 (.cons r1 r3)⟩
  | trans p q ih1 ih2 =>
    intro nss r
    obtain ⟨n2, p2, r2⟩ := ih2 r
    obtain ⟨n1, p1, r1⟩ := ih1 r2
    exact ⟨n1, p1.trans p2, r1⟩
theorem pair_codes {B : Int} : ∀ {nss : List (List Int)} {ys : List V}, RAll T ρ st H (nss.map tI) ys → ys.Pairwise (fun x y => ∀ n m, TupI T.K H x n → TupI T.K H y m → TS.code B n ≤ TS.code B m) → nss.Pairwise fun n m => TS.code B n ≤ TS.code B m
  | [], _, _, _ => List.Pairwise.nil
  | n :: nss, ys, r, p => by
    rw [List.map_cons] at r
    simp only [RAll] at r
    obtain ⟨v, xs, rfl, r1, r2⟩ := r
    obtain ⟨p1, p2⟩ := List.pairwise_cons.mp p
    refine List.pairwise_cons.mpr ⟨fun m hm => ?_, pair_codes r2 p2⟩
    obtain ⟨i, hi, rfl⟩ := List.getElem_of_mem hm
    have g : (nss.map tI)[i]? = some (tI nss[i]) := by
      rw [List.getElem?_map, List.getElem?_eq_getElem hi]
      rfl
    obtain ⟨x, hx, rx⟩ := r2.get g
    have := p1 x (List.mem_of_getElem? hx)
    exact this n nss[i] (R.tI_of r1) (R.tI_of rx)
theorem refs_of_ints : ∀ {nss : List (List Int)} {vs : List V}, RAll T ρ st H (nss.map tI) vs → ∃ ks : List (Addr × List Int), vs = ks.map (fun p => V.ref p.1) ∧ nss = ks.map (·.2) ∧ ∀ p ∈ ks, SqT T.K H p.1 (p.2.map V.int) ∧ R T ρ st H (tI p.2) (.ref p.1)
  | [], vs, r => by
    simp only [List.map_nil, RAll] at r
    exact ⟨[], r, rfl, fun p h => by cases h⟩
  | n :: nss, vs, r => by
    rw [List.map_cons] at r
    simp only [RAll] at r
    obtain ⟨v, xs, rfl, r1, r2⟩ := r
    obtain ⟨a, rfl, q⟩ := R.tI_of r1
    obtain ⟨ks, rfl, rfl, h⟩ := refs_of_ints r2
    refine ⟨(a, n) :: ks, rfl, rfl, fun p hp => ?_⟩
    rcases List.mem_cons.mp hp with rfl | hp
    · exact ⟨q, r1⟩
    · exact h p hp
theorem rall_refs : ∀ {L : List (Addr × List Int)}, (∀ p ∈ L, R T ρ st H (tI p.2) (.ref p.1)) → RAll T ρ st H ((L.map (·.2)).map tI) (L.map fun p => V.ref p.1)
  | [], _ => RAll.nil
  | p :: L, h => by
    rw [List.map_cons, List.map_cons, List.map_cons]
    exact .cons (h p List.mem_cons_self) (rall_refs fun q hq => h q (List.mem_cons_of_mem _ hq))
end
def rSortTD (T : Tab) : List V → Hp → VK → Prop := fun xs H Q => ∃ d : Nat, 1 ≤ d ∧ rSortU T.K d 1000000 xs H Q
theorem cr_sortTD {X : Cx} {fl : Fls} : CallR X (.builtin "sorted") (rSortTD (XT X fl)) := by
  intro pins s σ H xs us Q I r h
  obtain ⟨d, hd, h⟩ := h
  exact cr_sortT hd pins s σ H xs us Q I r h
theorem v_sortTD {T : Tab} : VN T (rSortTD T) fSortT := by
  intro ρ st H ds xs v Q m rx h q
  unfold fSortT at h
  split at h
  · rename_i es
    obtain ⟨x, rfl, r⟩ := rx.one
    obtain ⟨a, vs, e, hq, ra⟩ := r.lst_of
    subst e
    split at h
    · rename_i nss hn
      split at h
      · rename_i hc
        cases h
        obtain ⟨hb, h64, hnd⟩ := hc
        obtain ⟨d, hd, hall⟩ := bdd_ok hb
        have ee := intsT_eq hn
        subst ee
        refine ⟨d, hd, a, vs, rfl, SqL.of hq, by rw [← ra.length, List.length_map]; exact h64, fun x hx => ?_, fun ys p pm pw hp => ?_⟩
        · obtain ⟨ks, rfl, rfl, hk⟩ := refs_of_ints ra
          obtain ⟨k, hk1, rfl⟩ := List.mem_map.mp hx
          exact ⟨k.2, ⟨k.1, rfl, (hk k hk1).1⟩, hall k.2 (List.mem_map.mpr ⟨k, hk1, rfl⟩)⟩
        · obtain ⟨nss', p', r'⟩ := perm_ints pm ra
          have hasc : Asc nss' := asc_codes (B := 1000000) (d := d) (fun n hn => hall n (p'.mem_iff.mp hn)) (p'.nodup_iff.mpr hnd) (pair_codes r' pw)
          have e : sortU nss = nss' := asc_uniq (sortU_asc nss) hasc fun z => by rw [sortU_mem]; exact p'.mem_iff.symm
          rw [e] at q
          have e1 := Ext.new (ρ := ρ) (st := st) (o := .lst ys) m hp
          refine q _ _ e1 (m.new hp) ?_
          simp only [R]
          exact ⟨p, ys, rfl, upd_same, m.notLive hp, RAll.ext e1 _ _ r'⟩
      · cases h
    · cases h
  · cases h
theorem bb_set : bootBuiltins "set" = some (.type "set") := by first | rfl | decide +kernel
section
variable {X : Cx} {fl : Fls} {Wx : WX} {e : Expr} {me : EM} {p1 p2 pos pos2 : Pos} {k : Nat}
theorem de_sortSet (hr : RoomG k X.A) (hc : X.calm = true) (hg : Gl X "sorted") (hm : X.mg "sorted" = none) (hg2 : Gl X "set") (hm2 : X.mg "set" = none) (ha : DE X fl Wx e me)
    (he : starEach [e] X.env = (false, eval e X.env) :: starEach [] X.env := by rfl) (hpl : (backTo pos2 (starEach [] X.env)).any (·.1) = false := by rfl)
    (he2 : starEach [.Call (.Name "set" p2) [e] [] pos2] X.env = (false, eval (.Call (.Name "set" p2) [e] [] pos2) X.env) :: starEach [] X.env := by rfl) (hpl2 : (backTo pos (starEach [] X.env)).any (·.1) = false := by rfl) :
    DE X fl Wx (.Call (.Name "sorted" p1) [.Call (.Name "set" p2) [e] [] pos2] [] pos) (e1 fSortS me) := by
  have un := hr.rm.un
  refine pe_imp (pe_callB (cr_sortedT hc) hg hm bb_sorted (pa_cons (pe_callTy (cr_setOfT hc (by omega)) hg2 hm2 bb_set (pa_cons ha pa_nil he) (by decide) (by decide) he hpl) pa_nil he2) (by decide) (by decide) he2 hpl2) fun σ H Q h => ?_
  obtain ⟨ρ, δ, st, m, en, h⟩ := h
  refine ⟨ρ, δ, st, m, en, (Post.bind h).monoE fun d ρ1 st1 H1 e1 m1 h1 x rx => ?_⟩
  obtain ⟨v, hv, q⟩ := Post.lift_inv h1
  unfold fSortS at hv
  split at hv
  · rename_i es
    split at hv
    · rename_i nss hn
      split at hv
      · rename_i hcd
        cases hv
        obtain ⟨hb, h64⟩ := hcd
        obtain ⟨d, hd, hall⟩ := bdd_ok hb
        have ee := intsT_eq hn
        subst ee
        obtain ⟨a, vs, ex, hq, ra⟩ := rx.lst_of
        subst ex
        obtain ⟨ks, rfl, rfl, hk⟩ := refs_of_ints ra
        refine ⟨a, ks, rfl, SqL.of hq, fun p hp => (hk p hp).1, by rw [List.length_map] at h64; exact h64, fun b L hb0 hsub hsup => ?_⟩
        have e2 := Ext.new (ρ := ρ1) (st := st1) (o := SetTO X.prog X.w b L) m1 hb0
        have m2 := m1.new (o := SetTO X.prog X.w b L) hb0
        have hR : ∀ p ∈ L, R (XT X fl) ρ1 st1 (upd H1 b (SetTO X.prog X.w b L)) (tI p.2) (.ref p.1) := fun p hp => (hk p (hsub p hp)).2.ext e2 _ _
        refine ⟨b, L, d, 1000000, rfl, upd_same, fun p hp => ?_, hd, fun p hp => hall p.2 (List.mem_map.mpr ⟨p, hsub p hp, rfl⟩), fun L' c pm nd h6 pw hc0 => ?_⟩
        · obtain ⟨a2, ea, qa⟩ := R.tI_of (hR p hp)
          cases ea
          exact qa
        · have hasc : Asc (L'.map (·.2)) := asc_codes (B := 1000000) (d := d) (fun n hn => by
            obtain ⟨p, hp, rfl⟩ := List.mem_map.mp hn
            exact hall p.2 (List.mem_map.mpr ⟨p, hsub p (pm.mem_iff.mp hp), rfl⟩)) nd (List.pairwise_map.mpr pw)
          have e : sortU (ks.map (·.2)) = L'.map (·.2) := asc_uniq (sortU_asc _) hasc fun z => by
            rw [sortU_mem]
            constructor
            · intro hz
              obtain ⟨p, hp, rfl⟩ := List.mem_map.mp hz
              have := hsup p hp
              exact ((pm.map (·.2)).mem_iff).mpr this
            · intro hz
              obtain ⟨p, hp, rfl⟩ := List.mem_map.mp hz
              exact List.mem_map.mpr ⟨p, hsub p (pm.mem_iff.mp hp), rfl⟩
          rw [e] at q
          have e3 := Ext.new (ρ := ρ1) (st := st1) (o := .lst (L'.map fun q => V.ref q.1)) m2 hc0
          refine q ρ1 _ (e2.trans e3) (m2.new hc0) (.ref c) ?_
          simp only [R]
          exact ⟨c, _, rfl, upd_same, m2.notLive hc0, RAll.ext e3 _ _ (rall_refs fun p hp => hR p (pm.mem_iff.mp hp))⟩
      · cases hv
    · cases hv
  · cases hv
end
/-! ### t < u -/
def fLtT (_ : Store) (d e : D) : Option D := match d, e with
  | .tup xs, .tup ys => match intsOf xs, intsOf ys with
    | some ns, some ms => some (.bl (HT.lexLt ns ms))
    | _, _ => none
  | _, _ => none
theorem op_ltI {X : Cx} {k : Nat} (hr : RoomG k X.A) : OpR X (compareOp .Lt) (rLtT X.K) := op_ltT hr.rm.units0
theorem v_ltT {T : Tab} : V2 T (rLtT T.K) fLtT := by
  intro ρ st H d e x y v Q m rx ry h q
  unfold fLtT at h
  split at h
  · rename_i xs ys
    split at h
    · rename_i ns ms h1 h2
      cases h
      rw [intsOf_eq h1] at rx
      rw [intsOf_eq h2] at ry
      obtain ⟨a, rfl, qa⟩ := R.tI_of rx
      obtain ⟨b, rfl, qb⟩ := R.tI_of ry
      exact ⟨a, b, ns, ms, rfl, rfl, qa, qb, q H _ .refl m R.bl⟩
    · cases h
  · cases h
end DL
/-! DL41: mirrors evaluated: more of it. -/
namespace DL
open PySem PySem.Spec PyProof.Rows L2
theorem compL_mapK {α : Type} {all : List D} {g : GM} {e : EM} {δ : DEnv} {k f : α → D} {st : Store} : ∀ {xs : List α}, (∀ x ∈ xs, ∃ δ1, g (k x) δ = some δ1 ∧ e δ1 st = .ok (f x) st) → compL none all g tYesM e δ (xs.map k) st = .ok (xs.map f) st
  | [], _ => compL_nil
  | d :: ds, h => by
    obtain ⟨δ1, h1, h2⟩ := h d List.mem_cons_self
    exact compL_cons h1 h2 (compL_mapK fun x hx => h x (List.mem_cons_of_mem _ hx))
theorem comp_mapK {α : Type} {vs : List Nat} {it : IM} {g : GM} {e : EM} {δ : DEnv} {xs : List α} {k f : α → D} {st st0 : Store} (hi : it δ st = .ok (xs.map k, none) st0) (hl : xs.length ≤ 1000) (h : ∀ x ∈ xs, ∃ δ1, g (k x) (wipeD δ vs) = some δ1 ∧ e δ1 st0 = .ok (f x) st0) : eComp vs it g tYesM e δ st = .ok (.lst (xs.map f)) st0 :=
  comp_run hi (by simpa using hl) (compL_mapK h)
section
variable {st : Store}
theorem fn_exc {N : Nat} {body : SM} {ds es : List D} {st st' : Store} {c : Str} (h : body (startD N ds) st = .exc c es st') : fn N body ds st = .exc c es st' := by
  unfold fn
  rw [bind_eq, h]
theorem seq_exc {a b : SM} {δ : DEnv} {st st' : Store} {c : Str} {es : List D} (h : a δ st = .exc c es st') : sSeq a b δ st = .exc c es st' := by
  unfold sSeq
  rw [bind_eq, h]
theorem raise_run {c : Str} {n : Nat} {a : AM} {δ : DEnv} {st st' : Store} {ds : List D} (h : a δ st = .ok ds st') (hn : ds.length = n) : sRaise c n a δ st = .exc c ds.reverse st' := by
  unfold sRaise
  rw [M.ok_bind h]
  exact if_pos hn
end
theorem zipI {xs ys : List Int} : ((xs.map D.int).zip (ys.map D.int)).map (fun p => D.tup [p.1, p.2]) = (xs.zip ys).map fun p => D.tup [.int p.1, .int p.2] := by
  rw [List.zip_map, List.map_map]
  rfl
theorem zip_mem {f : Int → Int → Int} {P : Int → Prop} {xs ys : List Int} (h : ∀ x ∈ xs, ∀ y ∈ ys, P (f x y)) : ∀ n ∈ (xs.zip ys).map (fun p => f p.1 p.2), P n := by
  intro n hn
  obtain ⟨p, hp, rfl⟩ := List.mem_map.mp hn
  have hp : (p.1, p.2) ∈ xs.zip ys := hp
  exact h _ (List.of_mem_zip hp).1 _ (List.of_mem_zip hp).2
theorem for_mem {P : DEnv → Prop} {g : GM} {body : SM} {st : Store} {all : List D} : ∀ {ds : List D} {δ : DEnv},
    (∀ d ∈ ds, ∀ δ, P δ → ∃ δ1 δ2, g d δ = some δ1 ∧ body δ1 st = .ok (.next, δ2) st ∧ P δ2) → P δ → ∃ δ', forL none all g body ds δ st = .ok (.next, δ') st ∧ P δ'
  | [], δ, _, h => ⟨δ, rfl, h⟩
  | d :: ds, δ, hs, h => by
    obtain ⟨δ1, δ2, h1, h2, h3⟩ := hs d List.mem_cons_self δ h
    obtain ⟨δ', g1, g2⟩ := for_mem (all := all) (ds := ds) (δ := δ2) (fun x hx => hs x (List.mem_cons_of_mem _ hx)) h3
    refine ⟨δ', ?_, g2⟩
    rw [forL, chk_none, h1]
    show (body δ1 >>= _) st = _
    rw [M.ok_bind h2]
    exact g1
def pyI (ns : List Int) : PyData := .tuple (ns.map PyData.int)
theorem toPy_I {ns : List Int} {st : Store} {n : Nat} : toPy st (n + 2) (tI ns) = some (pyI ns) := by
  show (mapO (toPy st (n + 1)) (ns.map D.int)).map PyData.tuple = _
  rw [mapO_map (f := toPy st (n + 1)) (k := D.int) (g := PyData.int) (fun x => rfl)]
  rfl
theorem shp_ints : ∀ {ns ms : List Int}, ns.length = ms.length → shpAll (ns.map PyData.int) (ms.map PyData.int) = true
  | [], [], _ => rfl
  | n :: ns, m :: ms, h => by
    rw [List.map_cons, List.map_cons, shpAll, shp, shp_ints (by simpa using h)]
    rfl
  | [], _ :: _, h => by simp at h
  | _ :: _, [], h => by simp at h
theorem depth_ints : ∀ ns : List Int, PyData.depthAll (ns.map PyData.int) ≤ 1
  | [] => by simp [PyData.depthAll]
  | n :: ns => by
    have := depth_ints ns
    simp only [List.map_cons, PyData.depthAll, PyData.depth]
    omega
theorem flatAll_ints : ∀ ns : List Int, flatAll (ns.map PyData.int) = ns
  | [] => rfl
  | n :: ns => by
    rw [List.map_cons, flatAll, flatP, flatAll_ints ns]
    rfl
theorem PenOk.mono {c c' : Int} {p : Pen} (h : PenOk c p) (hc : c ≤ c') : PenOk c' p := ⟨h.len, h.at0, h.dig, h.cnt, by have := h.cntc; omega, h.fold0, h.fold1⟩
theorem rangeD_len {n : Nat} : (rangeD 0 n).length = n := by unfold rangeD; rw [List.length_map, List.length_range]
theorem log_le {x : Int} (h : x.natAbs < 1073741824) : x.natAbs.log2 ≤ 30 := by
  by_cases hz : x.natAbs = 0
  · rw [hz]
    decide
  · have := (Nat.log2_lt (k := 30) hz).mpr h
    omega
theorem show_ints : ∀ {ns : List Int}, (∀ n ∈ ns, n.natAbs < 1073741824) → PyData.showableAll (ns.map PyData.int) = true ∧ chAll (ns.map PyData.int) = true ∧ wtAll (ns.map PyData.int) ≤ 40 * ns.length
  | [], _ => ⟨by simp [PyData.showableAll], rfl, by simp [wtAll]⟩
  | n :: ns, h => by
    obtain ⟨h1, h2, h3⟩ := show_ints (ns := ns) fun x hx => h x (List.mem_cons_of_mem _ hx)
    have hn := h n List.mem_cons_self
    have l := log_le hn
    refine ⟨?_, ?_, ?_⟩
    · simp only [List.map_cons, PyData.showableAll, PyData.showable, h1, Bool.and_true, decide_eq_true_eq]
      omega
    · simp only [List.map_cons, chAll, chOk, h2, Bool.and_self]
    · simp only [List.map_cons, wtAll, wt, List.length_cons]
      omega
theorem repr_tI {ns : List Int} {st : Store} (h : ∀ n ∈ ns, n.natAbs < 1073741824) (hl : ns.length ≤ 1000) : ∃ s, fRepr st [tI ns] = some (.str s) := by
  obtain ⟨h1, h2, h3⟩ := show_ints h
  have d := depth_ints ns
  have sg := size_ge
  refine ⟨_, repr_some (toPy_I (n := 58)) ⟨?_, ?_, ?_, ?_⟩⟩
  · simpa only [pyI, PyData.showable] using h1
  · simpa only [pyI, chOk] using h2
  · simp only [pyI, wt]
    omega
  · simp only [pyI, PyData.depth]
    omega
theorem lamE1 {m : List D → M D} {n : Nat} {a : AM} {δ : DEnv} {st st1 st2 : Store} {ds es : List D} {c : Str} (ha : a δ st = .ok ds st1) (hl : ds.length = n) (h : m ds st1 = .exc c es st2) : eCall n m a δ st = .exc c es st2 := by
  unfold eCall
  rw [M.ok_bind ha, if_pos hl, h]
theorem callL_run {m : List D → M D} {n : Nat} {caps : List Nat} {a : AM} {δ : DEnv} {V : List (Option D)} {r r1 r2 : Store} {ds : List D} {v : D} (ha : a δ (.fr none :: r) = .ok ds (.fr none :: r1)) (hl : ds.length = n) (hV : (caps.map fun i => (δ[i]?).join) = V) (h : m ds (.fr (some V) :: r1) = .ok v (.fr (some V) :: r2)) :
    eCallL caps n m a δ (.fr none :: r) = .ok v (.fr none :: r2) := by
  unfold eCallL
  rw [M.ok_bind ha, if_pos hl, hV]
  show callL V (m ds) (.fr none :: r1) = _
  unfold callL
  show (match m ds (.fr (some V) :: r1) with | .ok v st' => _ | _ => _) = _
  rw [h]
  rfl
theorem lam_ok {k : Nat} {δ : DEnv} {r : Store} : eLam k δ (.fr none :: r) = .ok (.clo k []) (.fr none :: r) := rfl
theorem exc_bind {α β : Type} {m : M α} {f : α → M β} {st st' : Store} {c : Str} {es : List D} (h : m st = .exc c es st') : (m >>= f) st = .exc c es st' := by rw [bind_eq, h]
theorem ex_exc {m : EM} {δ : DEnv} {st st' : Store} {c : Str} {es : List D} (h : m δ st = .exc c es st') : sEx m δ st = .exc c es st' := by
  unfold sEx
  exact exc_bind h
theorem set_exc {i : Nat} {m : EM} {δ : DEnv} {st st' : Store} {c : Str} {es : List D} (h : m δ st = .exc c es st') : sSet i m δ st = .exc c es st' := by
  unfold sSet
  exact exc_bind h
theorem ret_exc {m : EM} {δ : DEnv} {st st' : Store} {c : Str} {es : List D} (h : m δ st = .exc c es st') : sRet m δ st = .exc c es st' := by
  unfold sRet
  exact exc_bind h
theorem asg_exc {g : GM} {m : EM} {δ : DEnv} {st st' : Store} {c : Str} {es : List D} (h : m δ st = .exc c es st') : sAsg g m δ st = .exc c es st' := by
  unfold sAsg
  exact exc_bind h
theorem tup_exc {a : AM} {δ : DEnv} {st st' : Store} {c : Str} {es : List D} (h : a δ st = .exc c es st') : eTup a δ st = .exc c es st' := by
  unfold eTup
  exact exc_bind h
theorem cons_exc {a : EM} {r : AM} {δ : DEnv} {st st1 st' : Store} {x : D} {c : Str} {es : List D} (ha : a δ st = .ok x st1) (h : r δ st1 = .exc c es st') : aCons a r δ st = .exc c es st' := by
  unfold aCons
  rw [M.ok_bind ha]
  exact exc_bind h
theorem one_exc {a : EM} {r : AM} {δ : DEnv} {st st' : Store} {c : Str} {es : List D} (h : a δ st = .exc c es st') : aCons a r δ st = .exc c es st' := by
  unfold aCons
  exact exc_bind h
theorem shows_mono {p : PyData} (h : Shows p 40 1000) : Shows p 60 sizeLine := ⟨h.1, h.2.1, Nat.le_trans h.2.2.1 (Nat.le_trans (by decide) size_ge), Nat.le_trans h.2.2.2 (by decide)⟩
theorem due_comp {m__law_fault : List D → M D} {st : Store} {n : Nat} {all : List D} (hst : st[n]? = some (.lst all)) : ∀ ds : List D, (∀ d ∈ ds, ∃ w due s, d = .tup [w, due] ∧ m__law_fault [w] st = .ok due st ∧ fRepr st [due] = some (.str s)) →
    compL (some n) all (gTupD 2 (gsCons (gSet 1) (gsCons (gSet 2) gsNil))) tYesM (e2 fEqD (eN fRepr (aCons (eCall 1 m__law_fault (aCons (eVar 1) aNil)) aNil)) (eN fRepr (aCons (eVar 2) aNil))) [some (.ref n), none, none] ds st = .ok (ds.map fun _ => .bl true) st
  | [], _ => by
    rw [compL, chk_some hst]
    rfl
  | d :: ds, h => by
    obtain ⟨w, due, s, rfl, h1, h2⟩ := h d List.mem_cons_self
    have ih := due_comp hst ds fun x hx => h x (List.mem_cons_of_mem _ hx)
    have e : (e2 fEqD (eN fRepr (aCons (eCall 1 m__law_fault (aCons (eVar 1) aNil)) aNil)) (eN fRepr (aCons (eVar 2) aNil))) [some (.ref n), some w, some due] st = .ok (.bl true) st :=
      e2_run (eN_run (one_run (call_run (one_run (var_run rfl)) rfl h1)) h2) (eN_run (one_run (var_run rfl)) h2) eqD_str
    rw [compL, chk_some hst]
    show ((tYesM [some (.ref n), some w, some due]) >>= _) st = _
    have ht : tYesM [some (.ref n), some w, some due] st = .ok true st := rfl
    rw [M.ok_bind ht, if_pos rfl]
    refine (M.ok_bind e).trans ?_
    rw [M.ok_bind ih]
    rfl
theorem repr_bl {st : Store} {b : Bool} : ∃ s, fRepr st [.bl b] = some (.str s) := ⟨_, repr_some (p := .bool b) rfl ⟨rfl, rfl, by have := size_ge; simp only [wt]; omega, by simp [PyData.depth]⟩⟩
/-- what stays -/
def Fx (fs : List (Nat × D)) (N : Nat) (δ : DEnv) : Prop := δ.length = N ∧ ∀ p ∈ fs, δ[p.1]? = some (some p.2)
theorem Fx.set {fs : List (Nat × D)} {N : Nat} {δ : DEnv} {j : Nat} {v : Option D} (h : Fx fs N δ) (hj : ∀ p ∈ fs, p.1 ≠ j) : Fx fs N (δ.set j v) :=
  ⟨by rw [List.length_set]; exact h.1, fun p hp => by rw [List.getElem?_set_ne (Ne.symm (hj p hp))]; exact h.2 p hp⟩
def extI (O : Int) (row : List Int) : List (List Int) := (List.range (O - row.sum + 1).toNat).map fun (i : Nat) => row ++ [0 + (i : Int)]
def rowsP (O : Int) : Nat → List (List Int)
  | 0 => [[]]
  | m + 1 => (rowsP O m).flatMap (extI O)
theorem repr_same {X Y : EM} {δ : DEnv} {st : Store} {v : D} {s : Str} (hx : X δ st = .ok v st) (hy : Y δ st = .ok v st) (hs : fRepr st [v] = some (.str s)) : tOf (e2 fNe (eN fRepr (aCons X aNil)) (eN fRepr (aCons Y aNil))) δ st = .ok false st := by
  refine tOf_run (e2_run (eN_run (one_run hx) hs) (eN_run (one_run hy) hs) ?_)
  rw [x_neS, beq_self_eq_true]
  rfl
theorem any_map {α : Type} {p : α → Bool} {xs : List α} {st : Store} : fAny st [.lst (xs.map fun x => D.bl (p x))] = some (.bl (xs.any p)) := by
  show (blsOf (xs.map fun x => D.bl (p x))).map (fun bs => D.bl (bs.any id)) = _
  rw [blsOf_map]
  simp
/-- [f x for x in xs if p x] -/
theorem compL_filter {α : Type} {all : List D} {g : GM} {t : TM} {e : EM} {δ : DEnv} {k f : α → D} {p : α → Bool} {st : Store} : ∀ {xs : List α}, (∀ x ∈ xs, ∃ δ1, g (k x) δ = some δ1 ∧ t δ1 st = .ok (p x) st ∧ (p x = true → e δ1 st = .ok (f x) st)) → compL none all g t e δ (xs.map k) st = .ok ((xs.filter p).map f) st
  | [], _ => by
    rw [List.map_nil, compL, chk_none]
    rfl
  | d :: ds, h => by
    obtain ⟨δ1, h1, h2, h3⟩ := h d List.mem_cons_self
    have ih := compL_filter (all := all) (g := g) (t := t) (e := e) (δ := δ) (k := k) (f := f) (p := p) (st := st) (xs := ds) fun x hx => h x (List.mem_cons_of_mem _ hx)
    rw [List.map_cons, compL, chk_none, h1]
    show (t δ1 >>= _) st = _
    rw [M.ok_bind h2]
    by_cases hp : p d = true
    · rw [if_pos hp, M.ok_bind (h3 hp), M.ok_bind ih, List.filter_cons_of_pos hp]
      rfl
    · rw [if_neg hp, List.filter_cons_of_neg hp]
      exact ih
theorem comp_filter {α : Type} {vs : List Nat} {it : IM} {g : GM} {t : TM} {e : EM} {δ : DEnv} {xs : List α} {k f : α → D} {p : α → Bool} {st st0 : Store} (hi : it δ st = .ok (xs.map k, none) st0) (hl : xs.length ≤ 1000) (h : ∀ x ∈ xs, ∃ δ1, g (k x) (wipeD δ vs) = some δ1 ∧ t δ1 st0 = .ok (p x) st0 ∧ (p x = true → e δ1 st0 = .ok (f x) st0)) : eComp vs it g t e δ st = .ok (.lst ((xs.filter p).map f)) st0 :=
  comp_run hi (by simpa using hl) (compL_filter h)
/-- a loop that gathers -/
theorem for_fold {α : Type} {k : α → D} {P : List D → DEnv → Prop} {F : α → List D} {g : GM} {body : SM} {st : Store} {all : List D} : ∀ {xs : List α} {acc : List D} {δ : DEnv},
    (∀ x ∈ xs, ∀ acc δ, acc.length + (F x).length ≤ 100000 → P acc δ → ∃ δ1 δ2, g (k x) δ = some δ1 ∧ body δ1 st = .ok (.next, δ2) st ∧ P (acc ++ F x) δ2) → acc.length + (xs.flatMap F).length ≤ 100000 → P acc δ →
    ∃ δ', forL none all g body (xs.map k) δ st = .ok (.next, δ') st ∧ P (acc ++ xs.flatMap F) δ'
  | [], acc, δ, _, _, h => ⟨δ, rfl, by simpa using h⟩
  | x :: xs, acc, δ, hs, hn, h => by
    have hn' : acc.length + ((F x).length + (xs.flatMap F).length) ≤ 100000 := by simpa [List.flatMap_cons] using hn
    obtain ⟨δ1, δ2, h1, h2, h3⟩ := hs x List.mem_cons_self acc δ (by omega) h
    obtain ⟨δ', g1, g2⟩ := for_fold (all := all) (P := P) (F := F) (k := k) (xs := xs) (acc := acc ++ F x) (δ := δ2) (fun y hy => hs y (List.mem_cons_of_mem _ hy)) (by rw [List.length_append]; omega) h3
    refine ⟨δ', ?_, by simpa [List.flatMap_cons, List.append_assoc] using g2⟩
    rw [List.map_cons, forL, chk_none, h1]
    show (body δ1 >>= _) st = _
    rw [M.ok_bind h2]
    exact g1
inductive Rel2 {α β : Type} (r : α → β → Prop) : List α → List β → Prop
  | nil : Rel2 r [] []
  | cons {a : α} {b : β} {as : List α} {bs : List β} (h : r a b) (t : Rel2 r as bs) : Rel2 r (a :: as) (b :: bs)
theorem Rel2.length {α β : Type} {r : α → β → Prop} : ∀ {as : List α} {bs : List β}, Rel2 r as bs → as.length = bs.length
  | _, _, .nil => rfl
  | _, _, .cons _ t => by rw [List.length_cons, List.length_cons, t.length]
theorem Rel2.imp {α β : Type} {r s : α → β → Prop} (i : ∀ a b, r a b → s a b) : ∀ {as : List α} {bs : List β}, Rel2 r as bs → Rel2 s as bs
  | _, _, .nil => .nil
  | _, _, .cons h t => .cons (i _ _ h) (t.imp i)
/-- a comprehension of what a relation tells -/
theorem compL_rel {all : List D} {g : GM} {e : EM} {δ : DEnv} {st : Store} : ∀ {ds es : List D}, Rel2 (fun d y => ∃ δ1, g d δ = some δ1 ∧ e δ1 st = .ok y st) ds es → compL none all g tYesM e δ ds st = .ok es st
  | _, _, .nil => compL_nil
  | _, _, .cons ⟨_, q1, q2⟩ t => compL_cons q1 q2 (compL_rel t)
/-! ### rows of counts, gathered -/
theorem growG_run {sw sn : Nat} {rg : EM} {O : Int} {row : List Int} {δ : DEnv} {st : Store} (h0 : rg δ st = .ok (.int (O - row.sum + 1)) st) (hw : δ[sw]? = some (some (tI row))) (hn : sn < δ.length) (n2 : sw ≠ sn) (hb : -999 ≤ O - row.sum ∧ O - row.sum ≤ 998) (hl : row.length ≤ 100) :
    eComp [sn] (itRange1 rg) (gSet sn) tYesM (e2 fPlus (eVar sw) (eTup (aCons (eVar sn) aNil))) δ st = .ok (.lst ((extI O row).map tI)) st := by
  have hi : itRange1 rg δ st = .ok (rangeD 0 (O - row.sum + 1).toNat, none) st := rng_run h0 (by omega) (by omega)
  have := comp_mapK (vs := [sn]) (g := gSet sn) (e := e2 fPlus (eVar sw) (eTup (aCons (eVar sn) aNil))) (xs := List.range (O - row.sum + 1).toNat) (k := fun (i : Nat) => D.int (0 + (i : Int))) (f := fun (i : Nat) => tI (row ++ [0 + (i : Int)])) hi (by rw [List.length_range]; omega) fun i _ => ?_
  · rw [this]
    unfold extI
    rw [List.map_map]
    rfl
  · refine ⟨(δ.set sn none).set sn (some (.int (0 + (i : Int)))), rfl, ?_⟩
    have q1 : ((δ.set sn none).set sn (some (D.int (0 + (i : Int)))))[sw]? = some (some (tI row)) := by
      rw [List.getElem?_set_ne (Ne.symm n2), List.getElem?_set_ne (Ne.symm n2)]
      exact hw
    have q2 : ((δ.set sn none).set sn (some (D.int (0 + (i : Int)))))[sn]? = some (some (D.int (0 + (i : Int)))) := List.getElem?_set_self (by simpa using hn)
    have e : tI (row ++ [0 + (i : Int)]) = D.tup (row.map D.int ++ [D.int (0 + (i : Int))]) := by
      show D.tup _ = _
      rw [List.map_append]
      rfl
    rw [e]
    exact e2_run (var_run q1) (tup_run (one_run (var_run q2)) (Nat.le_of_ble_eq_true rfl)) (x_plusT (by simp; omega))
def okG (O : Int) (L : Nat) : Bool := (List.range L).all fun m => (rowsP O m).all (fun row => decide (-999 ≤ O - row.sum) && decide (O - row.sum ≤ 998) && decide (row.length ≤ 100)) && decide ((rowsP O (m + 1)).length ≤ 100000)
theorem rowsG_for {fs : List (Nat × D)} {N s0 so sr sk sm sw sn : Nat} {rg : EM} {O : Int} {L : Nat} {δ : DEnv} {st : Store} (f0 : (s0, D.int L) ∈ fs) (hrg : ∀ (δ : DEnv) (row : List Int), Fx fs N δ → δ[sw]? = some (some (tI row)) → rg δ st = .ok (.int (O - row.sum + 1)) st) (hd : ∀ p ∈ fs, p.1 ≠ sr ∧ p.1 ≠ sk ∧ p.1 ≠ sm ∧ p.1 ≠ sw ∧ p.1 ≠ sn)
    (d1 : sr ≠ sk) (d2 : sr ≠ sm) (d3 : sr ≠ sw) (d4 : sm ≠ sw) (d6 : sw ≠ sn) (l1 : sr < N) (l2 : sk < N) (l3 : sm < N) (l4 : sw < N) (l5 : sn < N) (hL : L ≤ 3) (ok : okG O L = true) (h : Fx fs N δ) (hr : δ[sr]? = some (some (.lst [tI []]))) :
    ∃ δ', sFor (itRange1 (eVar s0)) (gSet sk) (sSeq (sSet sm (eLst aNil)) (sSeq (sFor (itSeq (eVar sr)) (gSet sw) (sSet sm (e2 fPlus (eVar sm) (eComp [sn] (itRange1 rg) (gSet sn) tYesM (e2 fPlus (eVar sw) (eTup (aCons (eVar sn) aNil))))))) (sSet sr (eVar sm)))) δ st = .ok (.next, δ') st ∧
      Fx fs N δ' ∧ δ'[sr]? = some (some (.lst ((rowsP O L).map tI))) := by
  have hi : itRange1 (eVar s0) δ st = .ok (rangeD 0 L, none) st := rng_run (var_run (h.2 _ f0)) (by omega) (by omega)
  have hlen : (rangeD 0 L).length = L := rangeD_len
  have key := for_iter (P := fun m δ => Fx fs N δ ∧ δ[sr]? = some (some (.lst ((rowsP O m).map tI)))) (g := gSet sk) (st := st) (all := rangeD 0 L) (ds := rangeD 0 L) (m := 0) (δ := δ)
    (body := sSeq (sSet sm (eLst aNil)) (sSeq (sFor (itSeq (eVar sr)) (gSet sw) (sSet sm (e2 fPlus (eVar sm) (eComp [sn] (itRange1 rg) (gSet sn) tYesM (e2 fPlus (eVar sw) (eTup (aCons (eVar sn) aNil))))))) (sSet sr (eVar sm)))) (fun m d δ hm hP => ?_) ⟨h, hr⟩
  · obtain ⟨δ', g1, g2⟩ := key
    rw [hlen, Nat.zero_add] at g2
    exact ⟨δ', for_run hi g1, g2⟩
  · obtain ⟨hF, hR⟩ := hP
    rw [hlen, Nat.zero_add] at hm
    have okm := List.all_eq_true.mp ok m (List.mem_range.mpr hm)
    rw [Bool.and_eq_true, List.all_eq_true] at okm
    obtain ⟨ok1, ok2⟩ := okm
    have ok2 := of_decide_eq_true ok2
    have F1 : Fx fs N (δ.set sk (some d)) := hF.set fun p hp => (hd p hp).2.1
    have F2 : Fx fs N ((δ.set sk (some d)).set sm (some (.lst []))) := F1.set fun p hp => (hd p hp).2.2.1
    have R2 : ((δ.set sk (some d)).set sm (some (.lst [])))[sr]? = some (some (.lst ((rowsP O m).map tI))) := by
      rw [List.getElem?_set_ne (Ne.symm d2), List.getElem?_set_ne (Ne.symm d1)]
      exact hR
    have M2 : ((δ.set sk (some d)).set sm (some (.lst [])))[sm]? = some (some (.lst [])) := List.getElem?_set_self (by rw [List.length_set, hF.1]; exact l3)
    obtain ⟨δ3, a1, a2, a3, a4⟩ := for_acc (k := tI) (i := sm) (j := sw) (e := eComp [sn] (itRange1 rg) (gSet sn) tYesM (e2 fPlus (eVar sw) (eTup (aCons (eVar sn) aNil)))) (F := fun row => (extI O row).map tI)
      (B := fun δ => Fx fs N δ ∧ δ[sr]? = some (some (.lst ((rowsP O m).map tI)))) (st := st) (all := (rowsP O m).map tI) (xs := rowsP O m) (acc := []) (δ := (δ.set sk (some d)).set sm (some (.lst []))) d4
      (fun δ d hB => ⟨hB.1.set fun p hp => (hd p hp).2.2.2.1, by rw [List.getElem?_set_ne (Ne.symm d3)]; exact hB.2⟩)
      (fun δ d hB => ⟨hB.1.set fun p hp => (hd p hp).2.2.1, by rw [List.getElem?_set_ne (Ne.symm d2)]; exact hB.2⟩)
      (fun δ row hrow hB hw => by
        have o := ok1 row hrow
        simp only [Bool.and_eq_true, decide_eq_true_eq] at o
        exact growG_run (hrg δ row hB.1 hw) hw (by rw [hB.1.1]; exact l5) d6 ⟨o.1.1, o.1.2⟩ o.2)
      (by
        have e : ((rowsP O m).flatMap fun row => (extI O row).map tI).length = (rowsP O (m + 1)).length := by
          show _ = ((rowsP O m).flatMap (extI O)).length
          simp only [List.length_flatMap, List.length_map]
        rw [e]
        simpa using ok2) ⟨F2, R2⟩ M2 (by rw [F2.1]; exact l4)
    rw [List.nil_append] at a3
    have e : ((rowsP O m).flatMap fun row => (extI O row).map tI) = (rowsP O (m + 1)).map tI := by
      show _ = ((rowsP O m).flatMap (extI O)).map tI
      rw [List.map_flatMap]
    rw [e] at a3
    refine ⟨_, δ3.set sr (some (.lst ((rowsP O (m + 1)).map tI))), rfl, ?_, a2.1.set fun p hp => (hd p hp).1, List.getElem?_set_self (by rw [a4, F2.1]; exact l1)⟩
    refine (seq_next (set_run (lst_run nil_run (by decide)))).trans ?_
    refine (seq_next (for_run (seq_run (var_run R2)) a1)).trans ?_
    exact set_run (var_run a3)
/-! ### tuples of ints are equal or not -/
theorem eqv_ints : ∀ {ns ms : List Int}, PyData.eqvAll (ns.map PyData.int) (ms.map PyData.int) = (ns == ms)
  | [], [] => rfl
  | n :: ns, m :: ms => by
    have ih := eqv_ints (ns := ns) (ms := ms)
    simp only [List.map_cons, PyData.eqvAll, PyData.eqv, ih]
    rfl
  | [], _ :: _ => rfl
  | _ :: _, [] => rfl
theorem lay_ints : ∀ ns : List Int, PyData.canLayAll0 (ns.map PyData.int) = true
  | [] => by simp [PyData.canLayAll0]
  | n :: ns => by simp [PyData.canLayAll0, PyData.canLay0, lay_ints ns]
theorem shaped_I {ns : List Int} : SeqAt.shaped (pyI ns) = true := by
  have h1 := lay_ints ns
  have h2 := depth_ints ns
  unfold SeqAt.shaped pyI
  rw [Bool.and_eq_true]
  refine ⟨by simpa only [PyData.canLay0] using h1, decide_eq_true ?_⟩
  simp only [PyData.depth]
  omega
theorem ne_tI {st : Store} {ns ms : List Int} : fNe st (tI ns) (tI ms) = some (.bl (!(ns == ms))) := by
  unfold fNe
  show fNeP st (tI ns) (tI ms) = _
  unfold fNeP
  rw [show (60 : Nat) = 58 + 2 from rfl, toPy_I, toPy_I]
  dsimp only
  rw [if_pos ⟨shaped_I, shaped_I⟩]
  simp only [pyI, PyData.eqv, eqv_ints]
end DL
/-! DL42: set(t), t a tuple of tuples of ints. -/
namespace DL
open PySem PySem.Spec PyProof.Rows L2
section
variable {P : Program} {w : World} {A : Around} {E : Value → Shared → Prop} {s : Shared}
abbrev newSet (w : World) : Obj := { cls := .type "set", dict := none, data := .set #[] 0 (.fresh 0 0 (!w.params.followText "set-order")) }
theorem set_of_tuple {l : Addr} {items : Array Value} (ks : List (Addr × List Int)) {Q : Value → Shared → Prop} (hh : A.handled = none) (hl : s.heap.IsTuple l items) (hit : items.toList = ks.map fun p => Value.ref p.1)
    (hk : ∀ p ∈ ks, IsT P w s.heap p.2 p.1) (hfew : ks.length < 64) (hu : A.units + 3 < cLine)
    (h : ∀ (h' : Heap) (tk : Nat) L es ep t, SetTR P w h' s.heap.objs.size L es ep t → Got ks ks.length L → (∀ b o, s.heap.get? b = some o → h'.get? b = some o) → Q (.ref s.heap.objs.size) { s with heap := h', toks := tk }) :
    wpAny (model P w) A (call (.type "set") [.ref l]) Q E s := by
  have hisz : items.size = ks.length := by
    have q := congrArg List.length hit
    rw [Array.length_toList, List.length_map] at q
    exact q
  obtain ⟨c, tl, hmro⟩ := F.called_set.mro
  have hmade := F.called_set.made
  have hsub := F.called_set.sub
  refine wpAny_call (codeAny_of_tree ?_)
  show wpAny _ _ (callAny (.type "set") _) _ _ _
  refine wpAny_pure ⟨Code.quiet_builtin _ (by decide +kernel), codeAny_builtin F.entry_type_call ?_⟩
  rw [Around.under_plain (weight_type_call_type "set" [.ref l] []) rfl]
  have h1 := F.called_set.notType
  have h2 := F.called_set.canCreate
  have hct := F.typeCall_set_1 (.ref l)
  repeat (any_goals (first | assumption | wp_step))
  refine codeAny_mono (code_set_led1 (.ref l) (E := E) (Q₁ := fun obj s₁ => obj = .ref s.heap.objs.size ∧ s₁ = { s with heap := s.heap.push (newSet w) }) ⟨rfl, rfl⟩) fun r s₁ hr => ?_
  cases r with
  | error e => exact hr
  | ok fl =>
    cases fl with
    | ret obj =>
      obtain ⟨rfl, rfl⟩ := hr
      have hS : (s.heap.push (newSet w)).get? s.heap.objs.size = some (newSet w) := Heap.get?_push_size _ rfl
      have hT : Shared.TypeIs { s with heap := s.heap.push (newSet w) } (.ref s.heap.objs.size) "set" := ⟨_, hS, rfl⟩
      have hli := F.called_set.init.lookup
      have hbi := F.called_set.init.bind (.ref s.heap.objs.size)
      repeat (any_goals (first | assumption | wp_step))
      refine codeAny_mono (codeAny_call_builtin (R := wants (fun r s₂ => r = .none ∧ ∃ h' tk L es ep t, s₂ = { s with heap := h', toks := tk } ∧ SetTR P w h' s.heap.objs.size L es ep t ∧ Got ks ks.length L ∧
          (∀ b o, s.heap.get? b = some o → h'.get? b = some o)) E) F.called_set.init.plain F.entry_set_init (check_set_init_1 hT ?_)) fun r₂ s₂ hr₂ => ?_
      · obtain ⟨ol, hol, hcl, nl, hdl⟩ := hl
        obtain ⟨ocls, odict, odata, oslots⟩ := ol
        simp only at hcl hdl
        subst hcl; subst hdl
        have hol' : (s.heap.push (newSet w)).get? l = some { cls := .type "tuple", dict := odict, data := .seq items nl, slots := oslots } := Heap.get?_push_of_some _ hol
        have hsls := F.sub_tuple_set
        have hslf := F.sub_tuple_frozenset
        have hne : (Value.type "tuple" == Value.type "dict") = false := by decide
        have hl1 : (s.heap.push (newSet w)).IsTuple l items := ⟨_, hol', rfl, nl, rfl⟩
        unfold Builtin.«set.__init__» noKeywords Builtin.Frozenset.updateFrom
        generalize hPI : pyIter = PI
        wp_walk
        subst hPI
        refine wpAny_pyIter_tuple hl1 ?_
        refine wpAny_bind (wpAny_runValue ?_)
        have hlS : l < s.heap.objs.size := Heap.lt_size hol
        have hh3 : A.in1.in1.in1.handled = none := by simp [hh]
        have hneI : l ≠ (s.heap.push (newSet w)).objs.size := by
          rw [Heap.size_push]; exact Nat.ne_of_lt (Nat.lt_succ_of_lt hlS)
        have hSf : s.heap.objs.size ∉ [(s.heap.push (newSet w)).objs.size, l] := by
          rw [Heap.size_push]; simp only [List.mem_cons, List.mem_singleton, List.not_mem_nil, or_false, not_or]
          exact ⟨Nat.ne_of_lt (Nat.lt_succ_self _), Nat.ne_of_gt hlS⟩
        have hval : ∀ (i : Nat) (v : Value), items[i]? = some v → ∃ p, ks[i]? = some p ∧ v = .ref p.1 := fun i v hv => by
          have q : items.toList[i]? = some v := by rw [Array.getElem?_toList]; exact hv
          rw [hit, List.getElem?_map] at q
          cases hq : ks[i]? with
          | none => rw [hq] at q; cases q
          | some p =>
            rw [hq] at q
            exact ⟨p, rfl, (Option.some.inj q).symm⟩
        have none_of : ∀ b, s.heap.objs.size ≤ b → s.heap.get? b = none := fun b hb => by
          cases q : s.heap.get? b with
          | none => rfl
          | some o => exact absurd (Nat.lt_of_lt_of_le (Heap.lt_size q) hb) (Nat.lt_irrefl _)
        refine set_update_tups ((Walks.tuple hh3 _ l hneI items).toS) s.heap.objs.size
          hSf ks hisz hfew hval s.heap hk (none_of _ (Nat.le_refl _)) (fun b hb => none_of b (by
            rw [List.mem_singleton.mp hb, Heap.size_push]
            exact Nat.le_succ _)) hu (items.size - 0) 0 _ (by omega) (Nat.zero_le _)
          ⟨⟨_, Heap.get?_push_size _ rfl, rfl, rfl⟩, (hl1.push _)⟩ (fun b o e => Heap.get?_push_of_some _ (Heap.get?_push_of_some _ e)) ?hS0 ?hR
        case hS0 =>
          have hget : ((s.heap.push (newSet w)).push { cls := .type "tuple_iterator", data := .fields #[.ref l, .int 0 0] }).get? s.heap.objs.size = some (newSet w) := Heap.get?_push_of_some _ hS
          exact ⟨[], #[], 0, _, setTR_fresh hget, Got.zero ks⟩
        case hR =>
          intro s' L es ep t hm hS' g' hkp
          obtain ⟨h', g2, d', tk', os'⟩ := s'
          have eg : g2 = s.gens := hm.gens
          have ed : d' = s.drawn := hm.drawn
          have eo : os' = s.os := hm.os
          subst eg; subst ed; subst eo
          show wpAny _ _ _ _ _ _
          refine wpAny_pure ?_
          show wpAny _ _ (ret Value.none) _ _ _
          rw [hisz] at g'
          exact wpAny_pure ⟨rfl, h', tk', L, es, ep, t, rfl, hS', g', hkp⟩
      · cases r₂ with
        | error e => exact hr₂
        | ok fl₂ =>
          cases fl₂ with
          | ret r =>
            obtain ⟨rfl, h', tk, L, es, ep, t, rfl, hS', g', hk'⟩ := hr₂
            repeat (any_goals (first | assumption | wp_step))
            exact h _ _ _ _ _ _ hS' g' hk'
          | _ => exact hr₂.elim
    | _ => exact hr.elim
end
def rSetOfTup (K : PySem.W.Frag) (P : Program) (w : World) : List V → Hp → VK → Prop := fun xs H Q => ∃ (l : Addr) (ks : List (Addr × List Int)), xs = [V.ref l] ∧ SqT K H l (ks.map fun p => V.ref p.1) ∧ (∀ p ∈ ks, SqT K H p.1 (p.2.map V.int)) ∧ ks.length < 64 ∧
  ∀ a L, H a = none → (∀ p ∈ L, p ∈ ks) → (∀ p ∈ ks, p.2 ∈ L.map (·.2)) → Q (.ref a) (upd H a (SetTO P w a L))
theorem cr_setOfTup {X : Cx} (hc : X.calm = true) (hu : X.A.units + 64 < cLine) : CallR X (.type "set") (rSetOfTup X.K X.prog X.w) := by
  intro pins s σ H xs us Q I r h
  obtain ⟨l, ks, rfl, hl, hk, hf, q⟩ := h
  rw [Vals.ref1 r]
  obtain ⟨its, rv, pl, hz⟩ := I.tuple hl
  have hn : H s.heap.objs.size = none := I.hok.fresh (Nat.le_refl _)
  refine set_of_tuple (P := X.prog) (w := X.w) ks (I.ok.hd hc) pl (by simpa using refs_of_vals rv) (fun p hp => I.isT (hk p hp)) hf (by omega) fun h' tk L es ep t R g k => ?_
  refine ⟨.ref s.heap.objs.size, upd H s.heap.objs.size (SetTO X.prog X.w s.heap.objs.size L), I.laid (t' := tk) k (Nat.le_refl _) (setTO_new R.t0), rfl, q _ L hn (fun p hp => ?_) fun p hp => ?_⟩
  · exact List.mem_of_mem_take (g.sub p hp)
  · exact g.all p (by rw [List.take_length]; exact hp)
/-- sorted(set(t)), t a tuple -/
def fSortSt (_ : Store) (d : D) : Option D := match d with
  | .tup es => match intsT es with
    | some nss => if bdd nss = true ∧ nss.length < 64 then some (.lst ((sortU nss).map tI)) else none
    | none => none
  | _ => none
section
variable {X : Cx} {fl : Fls} {Wx : WX} {e : Expr} {me : EM} {p1 p2 pos pos2 : Pos} {k : Nat}
theorem de_sortSetT (hr : RoomG k X.A) (hc : X.calm = true) (hg : Gl X "sorted") (hm : X.mg "sorted" = none) (hg2 : Gl X "set") (hm2 : X.mg "set" = none) (ha : DE X fl Wx e me)
    (he : starEach [e] X.env = (false, eval e X.env) :: starEach [] X.env := by rfl) (hpl : (backTo pos2 (starEach [] X.env)).any (·.1) = false := by rfl)
    (he2 : starEach [.Call (.Name "set" p2) [e] [] pos2] X.env = (false, eval (.Call (.Name "set" p2) [e] [] pos2) X.env) :: starEach [] X.env := by rfl) (hpl2 : (backTo pos (starEach [] X.env)).any (·.1) = false := by rfl) :
    DE X fl Wx (.Call (.Name "sorted" p1) [.Call (.Name "set" p2) [e] [] pos2] [] pos) (e1 fSortSt me) := by
  have un := hr.rm.un
  refine pe_imp (pe_callB (cr_sortedT hc) hg hm bb_sorted (pa_cons (pe_callTy (cr_setOfTup hc (by omega)) hg2 hm2 bb_set (pa_cons ha pa_nil he) (by decide) (by decide) he hpl) pa_nil he2) (by decide) (by decide) he2 hpl2) fun σ H Q h => ?_
  obtain ⟨ρ, δ, st, m, en, h⟩ := h
  refine ⟨ρ, δ, st, m, en, (Post.bind h).monoE fun d ρ1 st1 H1 e1 m1 h1 x rx => ?_⟩
  obtain ⟨v, hv, q⟩ := Post.lift_inv h1
  unfold fSortSt at hv
  split at hv
  · rename_i es
    split at hv
    · rename_i nss hn
      split at hv
      · rename_i hcd
        cases hv
        obtain ⟨hb, h64⟩ := hcd
        obtain ⟨d, hd, hall⟩ := bdd_ok hb
        have ee := intsT_eq hn
        subst ee
        obtain ⟨a, vs, ex, hq, ra⟩ := rx.tup_of
        subst ex
        obtain ⟨ks, rfl, rfl, hk⟩ := refs_of_ints ra
        refine ⟨a, ks, rfl, hq, fun p hp => (hk p hp).1, by rw [List.length_map] at h64; exact h64, fun b L hb0 hsub hsup => ?_⟩
        have e2 := Ext.new (ρ := ρ1) (st := st1) (o := SetTO X.prog X.w b L) m1 hb0
        have m2 := m1.new (o := SetTO X.prog X.w b L) hb0
        have hR : ∀ p ∈ L, R (XT X fl) ρ1 st1 (upd H1 b (SetTO X.prog X.w b L)) (tI p.2) (.ref p.1) := fun p hp => (hk p (hsub p hp)).2.ext e2 _ _
        refine ⟨b, L, d, 1000000, rfl, upd_same, fun p hp => ?_, hd, fun p hp => hall p.2 (List.mem_map.mpr ⟨p, hsub p hp, rfl⟩), fun L' c pm nd h6 pw hc0 => ?_⟩
        · obtain ⟨a2, ea, qa⟩ := R.tI_of (hR p hp)
          cases ea
          exact qa
        · have hasc : Asc (L'.map (·.2)) := asc_codes (B := 1000000) (d := d) (fun n hn => by
            obtain ⟨p, hp, rfl⟩ := List.mem_map.mp hn
            exact hall p.2 (List.mem_map.mpr ⟨p, hsub p (pm.mem_iff.mp hp), rfl⟩)) nd (List.pairwise_map.mpr pw)
          have e : sortU (ks.map (·.2)) = L'.map (·.2) := asc_uniq (sortU_asc _) hasc fun z => by
            rw [sortU_mem]
            constructor
            · intro hz
              obtain ⟨p, hp, rfl⟩ := List.mem_map.mp hz
              have := hsup p hp
              exact ((pm.map (·.2)).mem_iff).mpr this
            · intro hz
              obtain ⟨p, hp, rfl⟩ := List.mem_map.mp hz
              exact List.mem_map.mpr ⟨p, hsub p (pm.mem_iff.mp hp), rfl⟩
          rw [e] at q
          have e3 := Ext.new (ρ := ρ1) (st := st1) (o := .lst (L'.map fun q => V.ref q.1)) m2 hc0
          refine q ρ1 _ (e2.trans e3) (m2.new hc0) (.ref c) ?_
          simp only [R]
          exact ⟨c, _, rfl, upd_same, m2.notLive hc0, RAll.ext e3 _ _ (rall_refs fun p hp => hR p (pm.mem_iff.mp hp))⟩
      · cases hv
    · cases hv
  · cases hv
end
end DL
/-! k63_what_is_free_by_corner: the readings and their derivations (printed) -/
namespace K63
open PySem PySem.Spec PyProof.Rows L2 DL
def topS (i : Nat) : Stmt := PySem.Challenge.pw_partialpapers_k63_what_is_free_by_corner.main.body.getD i (.Pass ⟨0, 0, 0, 0⟩)

abbrev s_BadNumber___init__ : Stmt := inClass (topS 2) 0
abbrev s_BadRow___init__ : Stmt := inClass (topS 7) 0
abbrev s_BadTable___init__ : Stmt := inClass (topS 8) 0
abbrev s_is_whole : Stmt := topS 12
abbrev s_in_tuples : Stmt := topS 13
abbrev s_is_tuple_of : Stmt := topS 14
abbrev s_need_between : Stmt := topS 15
abbrev s_are_counts : Stmt := topS 20
abbrev s_covers : Stmt := topS 21
abbrev s_are_corner_rows : Stmt := topS 22
abbrev s_corners_from : Stmt := topS 23
abbrev s_least_rows : Stmt := topS 24
abbrev s_least_corners : Stmt := topS 25
abbrev s_open_by : Stmt := topS 26
abbrev s_derivative_from : Stmt := topS 27
abbrev s_open_at : Stmt := topS 28
abbrev s_order_rows : Stmt := topS 29
abbrev s_open_derivatives : Stmt := topS 30
abbrev s__law_pen : Stmt := topS 32
abbrev s__law_draw : Stmt := topS 33
abbrev s__law_pick : Stmt := topS 34
abbrev s__law_passed : Stmt := topS 35
abbrev s__law_all_counts : Stmt := topS 36
abbrev s__law_fault : Stmt := topS 37
abbrev s__law_are_due : Stmt := topS 38
abbrev s__law_is_under : Stmt := topS 39
abbrev s__law_is_open : Stmt := topS 40
abbrev s__law_antichain : Stmt := topS 41
abbrev s__law_corners : Stmt := topS 42
abbrev s__law_heads_of : Stmt := topS 43
abbrev s__law_open_list : Stmt := topS 44
abbrev s__law_handed_corners : Stmt := topS 45
abbrev s__law_case : Stmt := topS 46
abbrev s_law : Stmt := topS 47
theorem sc_BadNumber___init__ : FnScope ["self", "what", "number"] ["self", "what", "number"] (defScope s_BadNumber___init__) := ⟨rfl, rfl, rfl, by decide +kernel, rfl, by decide +kernel, by decide +kernel⟩
theorem sc_BadRow___init__ : FnScope ["self", "row"] ["self", "row"] (defScope s_BadRow___init__) := ⟨rfl, rfl, rfl, by decide +kernel, rfl, by decide +kernel, by decide +kernel⟩
theorem sc_BadTable___init__ : FnScope ["self", "table"] ["self", "table"] (defScope s_BadTable___init__) := ⟨rfl, rfl, rfl, by decide +kernel, rfl, by decide +kernel, by decide +kernel⟩
theorem sc_is_whole : FnScope ["value"] ["value"] (defScope s_is_whole) := ⟨rfl, rfl, rfl, by decide +kernel, rfl, by decide +kernel, by decide +kernel⟩
theorem sc_in_tuples : FnScope ["value", "item"] ["value"] (defScope s_in_tuples) := ⟨rfl, rfl, rfl, by decide +kernel, rfl, by decide +kernel, by decide +kernel⟩
theorem sc_is_tuple_of : FnScope ["value", "many"] ["value", "many"] (defScope s_is_tuple_of) := ⟨rfl, rfl, rfl, by decide +kernel, rfl, by decide +kernel, by decide +kernel⟩
theorem sc_need_between : FnScope ["what", "number", "low", "high"] ["what", "number", "low", "high"] (defScope s_need_between) := ⟨rfl, rfl, rfl, by decide +kernel, rfl, by decide +kernel, by decide +kernel⟩
theorem sc_are_counts : FnScope ["letters", "value", "item"] ["letters", "value"] (defScope s_are_counts) := ⟨rfl, rfl, rfl, by decide +kernel, rfl, by decide +kernel, by decide +kernel⟩
theorem sc_covers : FnScope ["one", "other", "a", "b"] ["one", "other"] (defScope s_covers) := ⟨rfl, rfl, rfl, by decide +kernel, rfl, by decide +kernel, by decide +kernel⟩
theorem sc_are_corner_rows : FnScope ["letters", "value", "one", "row", "k", "other"] ["letters", "value"] (defScope s_are_corner_rows) := ⟨rfl, rfl, rfl, by decide +kernel, rfl, by decide +kernel, by decide +kernel⟩
theorem sc_corners_from : FnScope ["letters", "corners", "made", "rows"] ["letters", "corners"] (defScope s_corners_from) := ⟨rfl, rfl, rfl, by decide +kernel, rfl, by decide +kernel, by decide +kernel⟩
theorem sc_least_rows : FnScope ["rows", "some", "one", "other"] ["rows"] (defScope s_least_rows) := ⟨rfl, rfl, rfl, by decide +kernel, rfl, by decide +kernel, by decide +kernel⟩
theorem sc_least_corners : FnScope ["letters", "rows", "made", "some", "row"] ["letters", "rows"] (defScope s_least_corners) := ⟨rfl, rfl, rfl, by decide +kernel, rfl, by decide +kernel, by decide +kernel⟩
theorem sc_open_by : FnScope ["corners", "derivative", "unknown", "counts", "corner"] ["corners", "derivative"] (defScope s_open_by) := ⟨rfl, rfl, rfl, by decide +kernel, rfl, by decide +kernel, by decide +kernel⟩
theorem sc_derivative_from : FnScope ["letters", "corners", "derivative", "made"] ["letters", "corners", "derivative"] (defScope s_derivative_from) := ⟨rfl, rfl, rfl, by decide +kernel, rfl, by decide +kernel, by decide +kernel⟩
theorem sc_open_at : FnScope ["letters", "corners", "derivative", "made"] ["letters", "corners", "derivative"] (defScope s_open_at) := ⟨rfl, rfl, rfl, by decide +kernel, rfl, by decide +kernel, by decide +kernel⟩
theorem sc_order_rows : FnScope ["letters", "order", "out", "lap", "fresh", "row", "count"] ["letters", "order"] (defScope s_order_rows) := ⟨rfl, rfl, rfl, by decide +kernel, rfl, by decide +kernel, by decide +kernel⟩
theorem sc_open_derivatives : FnScope ["letters", "corners", "order", "made", "out", "unknown", "row"] ["letters", "corners", "order"] (defScope s_open_derivatives) := ⟨rfl, rfl, rfl, by decide +kernel, rfl, by decide +kernel, by decide +kernel⟩
theorem sc__law_pen : FnScope ["script", "fold", "cell"] ["script"] (defScope s__law_pen) := ⟨rfl, rfl, rfl, by decide +kernel, rfl, by decide +kernel, by decide +kernel⟩
theorem sc__law_draw : FnScope ["pen", "many", "cell", "digit", "blend"] ["pen", "many"] (defScope s__law_draw) := ⟨rfl, rfl, rfl, by decide +kernel, rfl, by decide +kernel, by decide +kernel⟩
theorem sc__law_pick : FnScope ["pen", "some"] ["pen", "some"] (defScope s__law_pick) := ⟨rfl, rfl, rfl, by decide +kernel, rfl, by decide +kernel, by decide +kernel⟩
theorem sc__law_passed : FnScope ["pen", "row"] ["pen", "row"] (defScope s__law_passed) := ⟨rfl, rfl, rfl, by decide +kernel, rfl, by decide +kernel, by decide +kernel⟩
theorem sc__law_all_counts : FnScope ["letters", "order", "rows", "k", "more", "row", "many"] ["letters", "order"] (defScope s__law_all_counts) := ⟨rfl, rfl, rfl, by decide +kernel, rfl, by decide +kernel, by decide +kernel⟩
theorem sc__law_fault : FnScope ["work", "fault"] ["work"] (defScope s__law_fault) := ⟨rfl, rfl, rfl, by decide +kernel, rfl, by decide +kernel, by decide +kernel⟩
theorem sc__law_are_due : FnScope ["tries", "work", "due"] ["tries"] (defScope s__law_are_due) := ⟨rfl, rfl, rfl, by decide +kernel, rfl, by decide +kernel, by decide +kernel⟩
theorem sc__law_is_under : FnScope ["one", "other", "a", "b"] ["one", "other"] (defScope s__law_is_under) := ⟨rfl, rfl, rfl, by decide +kernel, rfl, by decide +kernel, by decide +kernel⟩
theorem sc__law_is_open : FnScope ["heads", "derivative", "head"] ["heads", "derivative"] (defScope s__law_is_open) := ⟨rfl, rfl, rfl, by decide +kernel, rfl, by decide +kernel, by decide +kernel⟩
theorem sc__law_antichain : FnScope ["pen", "letters", "most", "many", "rows", "n", "k", "one", "other", "a", "b"] ["pen", "letters", "most", "many"] (defScope s__law_antichain) := ⟨rfl, rfl, rfl, by decide +kernel, rfl, by decide +kernel, by decide +kernel⟩
theorem sc__law_corners : FnScope ["pen", "letters", "most", "many", "k"] ["pen", "letters", "most", "many"] (defScope s__law_corners) := ⟨rfl, rfl, rfl, by decide +kernel, rfl, by decide +kernel, by decide +kernel⟩
theorem sc__law_heads_of : FnScope ["corners", "found", "unknown", "rows", "row"] ["corners"] (defScope s__law_heads_of) := ⟨rfl, rfl, rfl, by decide +kernel, rfl, by decide +kernel, by decide +kernel⟩
theorem sc__law_open_list : FnScope ["letters", "corners", "order", "found", "unknown", "rows", "row"] ["letters", "corners", "order"] (defScope s__law_open_list) := ⟨rfl, rfl, rfl, by decide +kernel, rfl, by decide +kernel, by decide +kernel⟩
theorem sc__law_handed_corners : FnScope ["pen", "corners", "rows", "row"] ["pen", "corners"] (defScope s__law_handed_corners) := ⟨rfl, rfl, rfl, by decide +kernel, rfl, by decide +kernel, by decide +kernel⟩
theorem sc__law_case : FnScope ["pen", "letters", "corners", "order", "due", "lap", "one", "handed", "rows", "least", "some", "own", "mine", "k", "u", "n", "other", "a", "b"] ["pen"] (defScope s__law_case) := ⟨rfl, rfl, rfl, by decide +kernel, rfl, by decide +kernel, by decide +kernel⟩
theorem sc_law : FnScope ["script", "pen", "letters", "good", "bad", "odd", "far", "rows", "tries", "lap"] ["script"] (defScope s_law) := ⟨rfl, rfl, rfl, by decide +kernel, rfl, by decide +kernel, by decide +kernel⟩
def flT : Str → List Str := fun c => if c = "BadNumber" then ["number", "what"] else if c = "BadTable" then ["table"] else if c = "BadRow" then ["row"] else []
def LM : List (Arguments × Expr × Scope) := [lamE (kid2 (kid2 (exS ((defBody s_law).getD 6 (.Pass ⟨0, 0, 0, 0⟩))) 0) 0), lamE (kid2 (kid2 (exS ((defBody s_law).getD 7 (.Pass ⟨0, 0, 0, 0⟩))) 0) 0), lamE (kid2 (kid2 (exS ((defBody s_law).getD 8 (.Pass ⟨0, 0, 0, 0⟩))) 0) 0), lamE (kid2 (kid2 (exS ((defBody s_law).getD 9 (.Pass ⟨0, 0, 0, 0⟩))) 0) 0), lamE (kid2 (kid2 (exS ((defBody s_law).getD 10 (.Pass ⟨0, 0, 0, 0⟩))) 0) 0), lamE (kid2 (kid2 (exS ((defBody s_law).getD 11 (.Pass ⟨0, 0, 0, 0⟩))) 0) 0), lamE (kid2 (kid2 (exS ((defBody s_law).getD 12 (.Pass ⟨0, 0, 0, 0⟩))) 0) 0), lamE (kid2 (kid2 (exS ((defBody s_law).getD 13 (.Pass ⟨0, 0, 0, 0⟩))) 0) 0)]
abbrev NL : List Str := ["rows", "odd", "letters", "good", "far", "bad", "pen"]
abbrev flv (tb : Addr) (n : Nat) : Fls := flAt flT tb "law.<locals>.<lambda>" LM (defScope s_law) n
theorem FO {tb : Addr} {n : Nat} : FlOk (flv tb n) NL := flOk_at (by decide +kernel) (by decide)
abbrev fcl : List FCl := [⟨"BadForm", "form", ["value"]⟩, ⟨"BadNumber", "number", ["what", "number"]⟩, ⟨"BadOp", "op", ["value"]⟩, ⟨"BadPoly", "poly", ["value"]⟩, ⟨"BadRow", "row", ["row"]⟩, ⟨"BadTable", "table", ["table"]⟩, ⟨"BadText", "text", ["line", "column"]⟩, ⟨"TooMany", "many", ["what", "many", "limit"]⟩, ⟨"Unlike", "unlike", ["what"]⟩]
/-- where it all stands -/
structure Adr where
  (C_PartialError C_BadNumber C_BadText C_BadPoly C_BadForm C_BadOp C_BadRow C_BadTable C_Unlike C_TooMany : Addr)
  (a_BadNumber___init__ a_BadRow___init__ a_BadTable___init__ a_is_whole a_in_tuples a_is_tuple_of a_need_between a_are_counts a_covers a_are_corner_rows a_corners_from a_least_rows a_least_corners a_open_by a_derivative_from a_open_at a_order_rows a_open_derivatives a__law_pen a__law_draw a__law_pick a__law_passed a__law_all_counts a__law_fault a__law_are_due a__law_is_under a__law_is_open a__law_antichain a__law_corners a__law_heads_of a__law_open_list a__law_handed_corners a__law_case a_law : Addr)
  (d_BadNumber___init__ d_BadRow___init__ d_BadTable___init__ d_is_whole d_in_tuples d_is_tuple_of d_need_between d_are_counts d_covers d_are_corner_rows d_corners_from d_least_rows d_least_corners d_open_by d_derivative_from d_open_at d_order_rows d_open_derivatives d__law_pen d__law_draw d__law_pick d__law_passed d__law_all_counts d__law_fault d__law_are_due d__law_is_under d__law_is_open d__law_antichain d__law_corners d__law_heads_of d__law_open_list d__law_handed_corners d__law_case d_law : FuncData)
/-- what the top has written -/
structure Txt (K : PySem.W.Frag) (mg : Str → Option Value) (base : Heap) (A : Adr) : Prop where
  sys : SysB base
  z_all : mg "all" = none
  z_any : mg "any" = none
  z_bool : mg "bool" = none
  z_enumerate : mg "enumerate" = none
  z_int : mg "int" = none
  z_isinstance : mg "isinstance" = none
  z_len : mg "len" = none
  z_list : mg "list" = none
  z_range : mg "range" = none
  z_repr : mg "repr" = none
  z_set : mg "set" = none
  z_sorted : mg "sorted" = none
  z_sum : mg "sum" = none
  z_tuple : mg "tuple" = none
  z_zip : mg "zip" = none
  k_MOST_LETTERS : ∃ t, mg "MOST_LETTERS" = some (.int 3 t)
  k_MOST_UNKNOWNS : ∃ t, mg "MOST_UNKNOWNS" = some (.int 3 t)
  k_MOST_ORDER : ∃ t, mg "MOST_ORDER" = some (.int 8 t)
  F_BadNumber___init__ : Fun K "__init__" "BadNumber.__init__" s_BadNumber___init__ A.a_BadNumber___init__ A.d_BadNumber___init__
  b_BadNumber___init__ : Binds K A.d_BadNumber___init__ ["self", "what", "number"] []
  F_BadRow___init__ : Fun K "__init__" "BadRow.__init__" s_BadRow___init__ A.a_BadRow___init__ A.d_BadRow___init__
  b_BadRow___init__ : Binds K A.d_BadRow___init__ ["self", "row"] []
  F_BadTable___init__ : Fun K "__init__" "BadTable.__init__" s_BadTable___init__ A.a_BadTable___init__ A.d_BadTable___init__
  b_BadTable___init__ : Binds K A.d_BadTable___init__ ["self", "table"] []
  F_is_whole : Fun K "is_whole" "is_whole" s_is_whole A.a_is_whole A.d_is_whole
  b_is_whole : Binds K A.d_is_whole ["value"] []
  g_is_whole : mg "is_whole" = some (.ref A.a_is_whole)
  F_in_tuples : Fun K "in_tuples" "in_tuples" s_in_tuples A.a_in_tuples A.d_in_tuples
  b_in_tuples : Binds K A.d_in_tuples ["value"] []
  g_in_tuples : mg "in_tuples" = some (.ref A.a_in_tuples)
  F_is_tuple_of : Fun K "is_tuple_of" "is_tuple_of" s_is_tuple_of A.a_is_tuple_of A.d_is_tuple_of
  b_is_tuple_of : Binds K A.d_is_tuple_of ["value", "many"] []
  g_is_tuple_of : mg "is_tuple_of" = some (.ref A.a_is_tuple_of)
  F_need_between : Fun K "need_between" "need_between" s_need_between A.a_need_between A.d_need_between
  b_need_between : Binds K A.d_need_between ["what", "number", "low", "high"] []
  g_need_between : mg "need_between" = some (.ref A.a_need_between)
  F_are_counts : Fun K "are_counts" "are_counts" s_are_counts A.a_are_counts A.d_are_counts
  b_are_counts : Binds K A.d_are_counts ["letters", "value"] []
  g_are_counts : mg "are_counts" = some (.ref A.a_are_counts)
  F_covers : Fun K "covers" "covers" s_covers A.a_covers A.d_covers
  b_covers : Binds K A.d_covers ["one", "other"] []
  g_covers : mg "covers" = some (.ref A.a_covers)
  F_are_corner_rows : Fun K "are_corner_rows" "are_corner_rows" s_are_corner_rows A.a_are_corner_rows A.d_are_corner_rows
  b_are_corner_rows : Binds K A.d_are_corner_rows ["letters", "value"] []
  g_are_corner_rows : mg "are_corner_rows" = some (.ref A.a_are_corner_rows)
  F_corners_from : Fun K "corners_from" "corners_from" s_corners_from A.a_corners_from A.d_corners_from
  b_corners_from : Binds K A.d_corners_from ["letters", "corners"] []
  g_corners_from : mg "corners_from" = some (.ref A.a_corners_from)
  F_least_rows : Fun K "least_rows" "least_rows" s_least_rows A.a_least_rows A.d_least_rows
  b_least_rows : Binds K A.d_least_rows ["rows"] []
  g_least_rows : mg "least_rows" = some (.ref A.a_least_rows)
  F_least_corners : Fun K "least_corners" "least_corners" s_least_corners A.a_least_corners A.d_least_corners
  b_least_corners : Binds K A.d_least_corners ["letters", "rows"] []
  g_least_corners : mg "least_corners" = some (.ref A.a_least_corners)
  F_open_by : Fun K "open_by" "open_by" s_open_by A.a_open_by A.d_open_by
  b_open_by : Binds K A.d_open_by ["corners", "derivative"] []
  g_open_by : mg "open_by" = some (.ref A.a_open_by)
  F_derivative_from : Fun K "derivative_from" "derivative_from" s_derivative_from A.a_derivative_from A.d_derivative_from
  b_derivative_from : Binds K A.d_derivative_from ["letters", "corners", "derivative"] []
  g_derivative_from : mg "derivative_from" = some (.ref A.a_derivative_from)
  F_open_at : Fun K "open_at" "open_at" s_open_at A.a_open_at A.d_open_at
  b_open_at : Binds K A.d_open_at ["letters", "corners", "derivative"] []
  g_open_at : mg "open_at" = some (.ref A.a_open_at)
  F_order_rows : Fun K "order_rows" "order_rows" s_order_rows A.a_order_rows A.d_order_rows
  b_order_rows : Binds K A.d_order_rows ["letters", "order"] []
  g_order_rows : mg "order_rows" = some (.ref A.a_order_rows)
  F_open_derivatives : Fun K "open_derivatives" "open_derivatives" s_open_derivatives A.a_open_derivatives A.d_open_derivatives
  b_open_derivatives : Binds K A.d_open_derivatives ["letters", "corners", "order"] []
  g_open_derivatives : mg "open_derivatives" = some (.ref A.a_open_derivatives)
  F__law_pen : Fun K "_law_pen" "_law_pen" s__law_pen A.a__law_pen A.d__law_pen
  b__law_pen : Binds K A.d__law_pen ["script"] []
  g__law_pen : mg "_law_pen" = some (.ref A.a__law_pen)
  F__law_draw : Fun K "_law_draw" "_law_draw" s__law_draw A.a__law_draw A.d__law_draw
  b__law_draw : Binds K A.d__law_draw ["pen", "many"] []
  g__law_draw : mg "_law_draw" = some (.ref A.a__law_draw)
  F__law_pick : Fun K "_law_pick" "_law_pick" s__law_pick A.a__law_pick A.d__law_pick
  b__law_pick : Binds K A.d__law_pick ["pen", "some"] []
  g__law_pick : mg "_law_pick" = some (.ref A.a__law_pick)
  F__law_passed : Fun K "_law_passed" "_law_passed" s__law_passed A.a__law_passed A.d__law_passed
  b__law_passed : Binds K A.d__law_passed ["pen", "row"] []
  g__law_passed : mg "_law_passed" = some (.ref A.a__law_passed)
  F__law_all_counts : Fun K "_law_all_counts" "_law_all_counts" s__law_all_counts A.a__law_all_counts A.d__law_all_counts
  b__law_all_counts : Binds K A.d__law_all_counts ["letters", "order"] []
  g__law_all_counts : mg "_law_all_counts" = some (.ref A.a__law_all_counts)
  F__law_fault : Fun K "_law_fault" "_law_fault" s__law_fault A.a__law_fault A.d__law_fault
  b__law_fault : Binds K A.d__law_fault ["work"] []
  g__law_fault : mg "_law_fault" = some (.ref A.a__law_fault)
  F__law_are_due : Fun K "_law_are_due" "_law_are_due" s__law_are_due A.a__law_are_due A.d__law_are_due
  b__law_are_due : Binds K A.d__law_are_due ["tries"] []
  g__law_are_due : mg "_law_are_due" = some (.ref A.a__law_are_due)
  F__law_is_under : Fun K "_law_is_under" "_law_is_under" s__law_is_under A.a__law_is_under A.d__law_is_under
  b__law_is_under : Binds K A.d__law_is_under ["one", "other"] []
  g__law_is_under : mg "_law_is_under" = some (.ref A.a__law_is_under)
  F__law_is_open : Fun K "_law_is_open" "_law_is_open" s__law_is_open A.a__law_is_open A.d__law_is_open
  b__law_is_open : Binds K A.d__law_is_open ["heads", "derivative"] []
  g__law_is_open : mg "_law_is_open" = some (.ref A.a__law_is_open)
  F__law_antichain : Fun K "_law_antichain" "_law_antichain" s__law_antichain A.a__law_antichain A.d__law_antichain
  b__law_antichain : Binds K A.d__law_antichain ["pen", "letters", "most", "many"] []
  g__law_antichain : mg "_law_antichain" = some (.ref A.a__law_antichain)
  F__law_corners : Fun K "_law_corners" "_law_corners" s__law_corners A.a__law_corners A.d__law_corners
  b__law_corners : Binds K A.d__law_corners ["pen", "letters", "most", "many"] []
  g__law_corners : mg "_law_corners" = some (.ref A.a__law_corners)
  F__law_heads_of : Fun K "_law_heads_of" "_law_heads_of" s__law_heads_of A.a__law_heads_of A.d__law_heads_of
  b__law_heads_of : Binds K A.d__law_heads_of ["corners"] []
  g__law_heads_of : mg "_law_heads_of" = some (.ref A.a__law_heads_of)
  F__law_open_list : Fun K "_law_open_list" "_law_open_list" s__law_open_list A.a__law_open_list A.d__law_open_list
  b__law_open_list : Binds K A.d__law_open_list ["letters", "corners", "order"] []
  g__law_open_list : mg "_law_open_list" = some (.ref A.a__law_open_list)
  F__law_handed_corners : Fun K "_law_handed_corners" "_law_handed_corners" s__law_handed_corners A.a__law_handed_corners A.d__law_handed_corners
  b__law_handed_corners : Binds K A.d__law_handed_corners ["pen", "corners"] []
  g__law_handed_corners : mg "_law_handed_corners" = some (.ref A.a__law_handed_corners)
  F__law_case : Fun K "_law_case" "_law_case" s__law_case A.a__law_case A.d__law_case
  b__law_case : Binds K A.d__law_case ["pen"] []
  g__law_case : mg "_law_case" = some (.ref A.a__law_case)
  F_law : Fun K "law" "law" s_law A.a_law A.d_law
  b_law : Binds K A.d_law ["script"] []
  g_law : mg "law" = some (.ref A.a_law)
  g_PartialError : mg "PartialError" = some (.ref A.C_PartialError)
  exb : ExB K A.C_PartialError
  g_BadNumber : mg "BadNumber" = some (.ref A.C_BadNumber)
  g_BadText : mg "BadText" = some (.ref A.C_BadText)
  g_BadPoly : mg "BadPoly" = some (.ref A.C_BadPoly)
  g_BadForm : mg "BadForm" = some (.ref A.C_BadForm)
  g_BadOp : mg "BadOp" = some (.ref A.C_BadOp)
  g_BadRow : mg "BadRow" = some (.ref A.C_BadRow)
  g_BadTable : mg "BadTable" = some (.ref A.C_BadTable)
  g_Unlike : mg "Unlike" = some (.ref A.C_Unlike)
  g_TooMany : mg "TooMany" = some (.ref A.C_TooMany)
  ox_BadNumber : OexC K A.C_BadNumber
  ini_BadNumber : PySem.W.findIn K (.ref A.C_BadNumber) "__init__" = some (some (.ref A.a_BadNumber___init__))
  tI_BadNumber : PySem.W.typeIn K (.ref A.a_BadNumber___init__) = some (.type "function")
  na_BadNumber_what : PySem.W.findIn K (.ref A.C_BadNumber) "what" = some none
  na_BadNumber_number : PySem.W.findIn K (.ref A.C_BadNumber) "number" = some none
  ox_BadTable : OexC K A.C_BadTable
  ini_BadTable : PySem.W.findIn K (.ref A.C_BadTable) "__init__" = some (some (.ref A.a_BadTable___init__))
  tI_BadTable : PySem.W.typeIn K (.ref A.a_BadTable___init__) = some (.type "function")
  na_BadTable_table : PySem.W.findIn K (.ref A.C_BadTable) "table" = some none
  ox_BadRow : OexC K A.C_BadRow
  ini_BadRow : PySem.W.findIn K (.ref A.C_BadRow) "__init__" = some (some (.ref A.a_BadRow___init__))
  tI_BadRow : PySem.W.typeIn K (.ref A.a_BadRow___init__) = some (.type "function")
  na_BadRow_row : PySem.W.findIn K (.ref A.C_BadRow) "row" = some none
  ft : FTabK K mg fcl
/-! ### the readings -/
section
variable {P : Program} {w : World} {K : PySem.W.Frag} {mg : Str → Option Value} {base : Heap} {A : Adr} {tb : Addr} {n : Nat}
theorem ex_BadNumber (T : Txt K mg base A) : ExC P w K mg base 1 "BadNumber" A.C_BadNumber A.a_BadNumber___init__ A.d_BadNumber___init__ ["self", "what", "number"] 2 (flT "BadNumber") :=
  ⟨T.g_BadNumber, T.ox_BadNumber, T.ini_BadNumber, T.tI_BadNumber, fnO_of T.F_BadNumber___init__ sc_BadNumber___init__ (exi_len rfl) fun cdv A outer s H vs Q E hr hsp => ⟨_, (pss_cons (ps_expr (pe_binit (by first | exact rfl) T.g_PartialError T.exb (pa_cons (pe_var (i := 0) rfl (.inl rfl)) (pa_cons pe_str pa_nil)))) (pss_cons (ps_ost (pe_var (i := 0) rfl (.inl rfl)) (pe_var (i := 1) rfl (.inl rfl))) (pss_one (ps_ost (pe_var (i := 0) rfl (.inl rfl)) (pe_var (i := 2) rfl (.inl rfl)))))), exi_read2 T.ox_BadNumber T.na_BadNumber_what T.na_BadNumber_number hsp rfl⟩, T.b_BadNumber___init__⟩
theorem ex_BadRow (T : Txt K mg base A) : ExC P w K mg base 1 "BadRow" A.C_BadRow A.a_BadRow___init__ A.d_BadRow___init__ ["self", "row"] 1 (flT "BadRow") :=
  ⟨T.g_BadRow, T.ox_BadRow, T.ini_BadRow, T.tI_BadRow, fnO_of T.F_BadRow___init__ sc_BadRow___init__ (exi_len rfl) fun cdv A outer s H vs Q E hr hsp => ⟨_, (pss_cons (ps_expr (pe_binit (by first | exact rfl) T.g_PartialError T.exb (pa_cons (pe_var (i := 0) rfl (.inl rfl)) (pa_cons pe_str pa_nil)))) (pss_one (ps_ost (pe_var (i := 0) rfl (.inl rfl)) (pe_var (i := 1) rfl (.inl rfl))))), exi_read1 T.ox_BadRow T.na_BadRow_row hsp rfl⟩, T.b_BadRow___init__⟩
theorem ex_BadTable (T : Txt K mg base A) : ExC P w K mg base 1 "BadTable" A.C_BadTable A.a_BadTable___init__ A.d_BadTable___init__ ["self", "table"] 1 (flT "BadTable") :=
  ⟨T.g_BadTable, T.ox_BadTable, T.ini_BadTable, T.tI_BadTable, fnO_of T.F_BadTable___init__ sc_BadTable___init__ (exi_len rfl) fun cdv A outer s H vs Q E hr hsp => ⟨_, (pss_cons (ps_expr (pe_binit (by first | exact rfl) T.g_PartialError T.exb (pa_cons (pe_var (i := 0) rfl (.inl rfl)) (pa_cons pe_str pa_nil)))) (pss_one (ps_ost (pe_var (i := 0) rfl (.inl rfl)) (pe_var (i := 1) rfl (.inl rfl))))), exi_read1 T.ox_BadTable T.na_BadTable_table hsp rfl⟩, T.b_BadTable___init__⟩
noncomputable def b_is_whole : List D → M D := fn 1
 (sRet (eAnd (eIsi isi_int (eVar 0)) (eNot (eIsi isi_bool (eVar 0)))))
noncomputable def m_is_whole : List D → M D := b_is_whole
theorem fn_is_whole (T : Txt K mg base A) : FnG P w K mg base 1 A.a_is_whole A.d_is_whole ["value"] (spD ⟨K, mg, flv tb n⟩ 1 m_is_whole) :=
 fnok_of T.F_is_whole sc_is_whole fun cdv A outer s H E hr => by
  have sc := sc_is_whole
  exact (dss_one (ds_ret (de_and (de_isi rfl T.z_isinstance bb_isinstance (.ty _) (isi_ok_int T) (de_var (i := 0) rfl (by first | exact .inl rfl | exact .inr (.inl rfl) | exact .inr (.inr rfl))) (pe_bltn rfl T.z_int bb_int rfl)) (de_one (de_not (de_isi rfl T.z_isinstance bb_isinstance (.ty _) (isi_ok_bool T) (de_var (i := 0) rfl (by first | exact .inl rfl | exact .inr (.inl rfl) | exact .inr (.inr rfl))) (pe_bltn rfl T.z_bool bb_bool rfl)))))))
theorem fd_is_whole (T : Txt K mg base A) : Fd P w K mg base (flv tb n) 1 "is_whole" 1 m_is_whole := ⟨⟨_, _, _, fn_is_whole T, T.g_is_whole, T.F_is_whole.kp, T.b_is_whole⟩⟩
noncomputable def b_in_tuples (m_in_tuples : List D → M D) : List D → M D := fn 2
 (sSeq (sIf (tNotM (tOf (eIsi isi_tupleList (eVar 0))))
 (sRet (eVar 0))
 sNil)
 (sRet (eN fTuple (aCons (eComp [1] (itSeq (eVar 0)) (gSet 1) tYesM (eCall 1 m_in_tuples (aCons (eVar 1) aNil))) aNil))))
noncomputable def mN_in_tuples : Nat → List D → M D
  | 0 => fun _ => M.stuck
  | d + 1 => b_in_tuples (mN_in_tuples d)
noncomputable def m_in_tuples : List D → M D := mN_in_tuples 6
theorem fnN_in_tuples (T : Txt K mg base A) : ∀ d : Nat, FnG P w K mg base (0 + d) A.a_in_tuples A.d_in_tuples ["value"] (spD ⟨K, mg, flv tb n⟩ 1 (mN_in_tuples d))
  | 0 => fnG_stuck
  | d + 1 => by
    have fdR : Fd P w K mg base (flv tb n) (0 + d) "in_tuples" 1 (mN_in_tuples d) := ⟨⟨_, _, _, fnN_in_tuples T d, T.g_in_tuples, T.F_in_tuples.kp, T.b_in_tuples⟩⟩
    exact fnok_of T.F_in_tuples sc_in_tuples fun cdv A outer s H E hr => by
      have sc := sc_in_tuples
      exact (dss_cons (ds_if (dt_not (dt_val (de_isi2 rfl T.z_isinstance bb_isinstance (pe_bltn rfl T.z_tuple bb_tuple rfl) (pe_bltn rfl T.z_list bb_list rfl) isi_tl_ok isi_tl_own (de_var (i := 0) rfl (by first | exact .inl rfl | exact .inr (.inl rfl) | exact .inr (.inr rfl))))))
     (dss_one (ds_ret (de_var (i := 0) rfl (by first | exact .inl rfl | exact .inr (.inl rfl) | exact .inr (.inr rfl)))))
     dss_nil)
     (dss_one (ds_ret (de_ty call_tuple_of v_tuple rfl T.z_tuple bb_tuple (da_cons (de_lc rfl sc.nd (di_seq (de_var (i := 0) rfl (by first | exact .inl rfl | exact .inr (.inl rfl) | exact .inr (.inr rfl)))) (blkOk_by (own := [("item", 1)]) rfl) rfl (fun _ _ _ _ _ => (dg_name (vs := [1]) (i := 1) sc.nd rfl (by first | exact .inl rfl | exact .inr rfl) (by decide))) (fun _ _ _ _ _ => dts_nil) (fun _ _ _ _ _ => (de_call fdR (hr.mono (Nat.le_refl _)) takes0 rfl (da_cons (de_var (i := 1) rfl (by first | exact .inl rfl | exact .inr (.inl rfl) | exact .inr (.inr rfl))) da_nil)))) da_nil)))))
theorem fn_in_tuples (T : Txt K mg base A) : FnG P w K mg base 6 A.a_in_tuples A.d_in_tuples ["value"] (spD ⟨K, mg, flv tb n⟩ 1 m_in_tuples) := fnN_in_tuples T 6
theorem fd_in_tuples (T : Txt K mg base A) : Fd P w K mg base (flv tb n) 6 "in_tuples" 1 m_in_tuples := ⟨⟨_, _, _, fn_in_tuples T, T.g_in_tuples, T.F_in_tuples.kp, T.b_in_tuples⟩⟩
noncomputable def b_is_tuple_of : List D → M D := fn 2
 (sRet (eAnd (eIsi isi_tuple (eVar 0)) (e2 fEqD (eN fLen (aCons (eVar 0) aNil)) (eVar 1))))
noncomputable def m_is_tuple_of : List D → M D := b_is_tuple_of
theorem fn_is_tuple_of (T : Txt K mg base A) : FnG P w K mg base 1 A.a_is_tuple_of A.d_is_tuple_of ["value", "many"] (spD ⟨K, mg, flv tb n⟩ 2 m_is_tuple_of) :=
 fnok_of T.F_is_tuple_of sc_is_tuple_of fun cdv A outer s H E hr => by
  have sc := sc_is_tuple_of
  exact (dss_one (ds_ret (de_and (de_isi rfl T.z_isinstance bb_isinstance (.ty _) (isi_ok_tuple T) (de_var (i := 0) rfl (by first | exact .inl rfl | exact .inr (.inl rfl) | exact .inr (.inr rfl))) (pe_bltn rfl T.z_tuple bb_tuple rfl)) (de_one (de_cmp (op_eqD hr T.sys) v_eqD (de_b call_lenA v_len rfl T.z_len bb_len (da_cons (de_var (i := 0) rfl (by first | exact .inl rfl | exact .inr (.inl rfl) | exact .inr (.inr rfl))) da_nil)) (de_var (i := 1) rfl (by first | exact .inl rfl | exact .inr (.inl rfl) | exact .inr (.inr rfl))) rfl)))))
theorem fd_is_tuple_of (T : Txt K mg base A) : Fd P w K mg base (flv tb n) 1 "is_tuple_of" 2 m_is_tuple_of := ⟨⟨_, _, _, fn_is_tuple_of T, T.g_is_tuple_of, T.F_is_tuple_of.kp, T.b_is_tuple_of⟩⟩
noncomputable def b_need_between (m_is_whole : List D → M D) : List D → M D := fn 4
 (sSeq (sIf (tNotM (tOf (eCall 1 m_is_whole (aCons (eVar 1) aNil))))
 (sRaise "BadNumber" 2 (aCons (eVar 0) (aCons (eVar 1) aNil)))
 sNil)
 (sIf (tOrM (tAndM (tOf (e2 fNotN (eVar 2) (eC .non))) (tOf (e2 (fCmp fun i j => decide (i < j)) (eVar 1) (eVar 2)))) (tAndM (tOf (e2 fNotN (eVar 3) (eC .non))) (tOf (e2 (fCmp fun i j => decide (j < i)) (eVar 1) (eVar 3)))))
 (sRaise "BadNumber" 2 (aCons (eVar 0) (aCons (eVar 1) aNil)))
 sNil))
noncomputable def m_need_between : List D → M D := b_need_between m_is_whole
theorem fn_need_between (T : Txt K mg base A) : FnG P w K mg base 3 A.a_need_between A.d_need_between ["what", "number", "low", "high"] (spD ⟨K, mg, flv tb n⟩ 4 m_need_between) :=
 fnok_of T.F_need_between sc_need_between fun cdv A outer s H E hr => by
  have sc := sc_need_between
  exact (dss_cons (ds_if (dt_not (dt_val (de_call (fd_is_whole T) (hr.mono (by decide)) (takes_of rfl rfl rfl rfl) rfl (da_cons (de_var (i := 1) rfl (by first | exact .inl rfl | exact .inr (.inl rfl) | exact .inr (.inr rfl))) da_nil))))
 (dss_one (ds_raise rfl (takes_of rfl rfl rfl rfl) (ex_BadNumber T) (hr.mono (by decide)) rfl (da_cons (de_var (i := 0) rfl (by first | exact .inl rfl | exact .inr (.inl rfl) | exact .inr (.inr rfl))) (da_cons (de_var (i := 1) rfl (by first | exact .inl rfl | exact .inr (.inl rfl) | exact .inr (.inr rfl))) da_nil)) (by decide)))
 dss_nil)
 (dss_one (ds_if (dt_w (dw_or (dt_w (dw_and (dt_cmp op_notN v_notN (de_var (i := 2) rfl (by first | exact .inl rfl | exact .inr (.inl rfl) | exact .inr (.inr rfl))) de_non rfl) (dw_and1 (dt_cmp op_lt v_cmp (de_var (i := 1) rfl (by first | exact .inl rfl | exact .inr (.inl rfl) | exact .inr (.inr rfl))) (de_var (i := 2) rfl (by first | exact .inl rfl | exact .inr (.inl rfl) | exact .inr (.inr rfl))) rfl)))) (dw_or1 (dt_w (dw_and (dt_cmp op_notN v_notN (de_var (i := 3) rfl (by first | exact .inl rfl | exact .inr (.inl rfl) | exact .inr (.inr rfl))) de_non rfl) (dw_and1 (dt_cmp op_gt v_cmp (de_var (i := 1) rfl (by first | exact .inl rfl | exact .inr (.inl rfl) | exact .inr (.inr rfl))) (de_var (i := 3) rfl (by first | exact .inl rfl | exact .inr (.inl rfl) | exact .inr (.inr rfl))) rfl)))))))
 (dss_one (ds_raise rfl (takes_of rfl rfl rfl rfl) (ex_BadNumber T) (hr.mono (by decide)) rfl (da_cons (de_var (i := 0) rfl (by first | exact .inl rfl | exact .inr (.inl rfl) | exact .inr (.inr rfl))) (da_cons (de_var (i := 1) rfl (by first | exact .inl rfl | exact .inr (.inl rfl) | exact .inr (.inr rfl))) da_nil)) (by decide)))
 dss_nil)))
theorem fd_need_between (T : Txt K mg base A) : Fd P w K mg base (flv tb n) 3 "need_between" 4 m_need_between := ⟨⟨_, _, _, fn_need_between T, T.g_need_between, T.F_need_between.kp, T.b_need_between⟩⟩
noncomputable def b_are_counts (m_is_tuple_of : List D → M D) (m_is_whole : List D → M D) : List D → M D := fn 3
 (sRet (eAnd (eCall 2 m_is_tuple_of (aCons (eVar 1) (aCons (eVar 0) aNil))) (eN fAll (aCons (eComp [2] (itSeq (eVar 1)) (gSet 2) tYesM (eAnd (eCall 1 m_is_whole (aCons (eVar 2) aNil)) (e2 (fCmp fun i j => decide (j ≤ i)) (eVar 2) (eC (.int 0))))) aNil))))
noncomputable def m_are_counts : List D → M D := b_are_counts m_is_tuple_of m_is_whole
theorem fn_are_counts (T : Txt K mg base A) : FnG P w K mg base 2 A.a_are_counts A.d_are_counts ["letters", "value"] (spD ⟨K, mg, flv tb n⟩ 2 m_are_counts) :=
 fnok_of T.F_are_counts sc_are_counts fun cdv A outer s H E hr => by
  have sc := sc_are_counts
  exact (dss_one (ds_ret (de_and (de_call (fd_is_tuple_of T) (hr.mono (by decide)) (takes_of rfl rfl rfl rfl) rfl (da_cons (de_var (i := 1) rfl (by first | exact .inl rfl | exact .inr (.inl rfl) | exact .inr (.inr rfl))) (da_cons (de_var (i := 0) rfl (by first | exact .inl rfl | exact .inr (.inl rfl) | exact .inr (.inr rfl))) da_nil))) (de_one (de_b (cr_all rfl) v_all rfl T.z_all bb_all (da_cons (de_lc rfl sc.nd (di_seq (de_var (i := 1) rfl (by first | exact .inl rfl | exact .inr (.inl rfl) | exact .inr (.inr rfl)))) (blkOk_by (own := [("item", 2)]) rfl) rfl (fun _ _ _ _ _ => (dg_name (vs := [2]) (i := 2) sc.nd rfl (by first | exact .inl rfl | exact .inr rfl) (by decide))) (fun _ _ _ _ _ => dts_nil) (fun _ _ _ _ _ => (de_and (de_call (fd_is_whole T) (hr.mono (by decide)) takes0 rfl (da_cons (de_var (i := 2) rfl (by first | exact .inl rfl | exact .inr (.inl rfl) | exact .inr (.inr rfl))) da_nil)) (de_one (de_cmp op_ge v_cmp (de_var (i := 2) rfl (by first | exact .inl rfl | exact .inr (.inl rfl) | exact .inr (.inr rfl))) de_int rfl))))) da_nil))))))
theorem fd_are_counts (T : Txt K mg base A) : Fd P w K mg base (flv tb n) 2 "are_counts" 2 m_are_counts := ⟨⟨_, _, _, fn_are_counts T, T.g_are_counts, T.F_are_counts.kp, T.b_are_counts⟩⟩
noncomputable def b_covers : List D → M D := fn 4
 (sRet (eN fAll (aCons (eComp [2, 3] (itZip (aCons (eVar 0) (aCons (eVar 1) aNil))) (gTupD 2 (gsCons (gSet 2) (gsCons (gSet 3) gsNil))) tYesM (e2 (fCmp fun i j => decide (j ≤ i)) (eVar 2) (eVar 3))) aNil)))
noncomputable def m_covers : List D → M D := b_covers
theorem fn_covers (T : Txt K mg base A) : FnG P w K mg base 1 A.a_covers A.d_covers ["one", "other"] (spD ⟨K, mg, flv tb n⟩ 2 m_covers) :=
 fnok_of T.F_covers sc_covers fun cdv A outer s H E hr => by
  have sc := sc_covers
  exact (dss_one (ds_ret (de_b (cr_all rfl) v_all rfl T.z_all bb_all (da_cons (de_lc rfl sc.nd (di_zip rfl T.z_zip (da_cons (de_var (i := 0) rfl (by first | exact .inl rfl | exact .inr (.inl rfl) | exact .inr (.inr rfl))) (da_cons (de_var (i := 1) rfl (by first | exact .inl rfl | exact .inr (.inl rfl) | exact .inr (.inr rfl))) da_nil))) (blkOk_by (own := [("a", 2), ("b", 3)]) rfl) rfl (fun _ _ _ _ _ => (dg_tup (n := 2) rfl (dgs_cons (dg_name (vs := [2, 3]) (i := 2) sc.nd rfl (by first | exact .inl rfl | exact .inr rfl) (by decide)) (dgs_cons (dg_name (vs := [2, 3]) (i := 3) sc.nd rfl (by first | exact .inl rfl | exact .inr rfl) (by decide)) dgs_nil)))) (fun _ _ _ _ _ => dts_nil) (fun _ _ _ _ _ => (de_cmp op_ge v_cmp (de_var (i := 2) rfl (by first | exact .inl rfl | exact .inr (.inl rfl) | exact .inr (.inr rfl))) (de_var (i := 3) rfl (by first | exact .inl rfl | exact .inr (.inl rfl) | exact .inr (.inr rfl))) rfl))) da_nil))))
theorem fd_covers (T : Txt K mg base A) : Fd P w K mg base (flv tb n) 1 "covers" 2 m_covers := ⟨⟨_, _, _, fn_covers T, T.g_covers, T.F_covers.kp, T.b_covers⟩⟩
noncomputable def b_are_corner_rows (m_are_counts : List D → M D) (m_covers : List D → M D) : List D → M D := fn 6
 (sSeq (sIf (tOrM (tNotM (tOf (eIsi isi_tuple (eVar 1)))) (tNotM (tOf (eN fAll (aCons (eComp [3] (itSeq (eVar 1)) (gSet 3) tYesM (eCall 2 m_are_counts (aCons (eVar 0) (aCons (eVar 3) aNil)))) aNil)))))
 (sRet (eC (.bl false)))
 sNil)
 (sSeq (sIf (tNotM (tOf (eN fAll (aCons (eComp [4] (itRange1 (e2 fSub (eN fLen (aCons (eVar 1) aNil)) (eC (.int 1)))) (gSet 4) tYesM (e2 fLtT (e2 fItem (eVar 1) (eVar 4)) (e2 fItem (eVar 1) (e2 fPlus (eVar 4) (eC (.int 1)))))) aNil))))
 (sRet (eC (.bl false)))
 sNil)
 (sSeq (sFor (itSeq (eVar 1)) (gSet 2)
 (sIf (tOf (eN fAny (aCons (eComp [5] (itSeq (eVar 1)) (gSet 5) tYesM (eAnd (e2 fNe (eVar 2) (eVar 5)) (eCall 2 m_covers (aCons (eVar 2) (aCons (eVar 5) aNil))))) aNil)))
 (sRet (eC (.bl false)))
 sNil))
 (sRet (eC (.bl true))))))
noncomputable def m_are_corner_rows : List D → M D := b_are_corner_rows m_are_counts m_covers
theorem fn_are_corner_rows (T : Txt K mg base A) : FnG P w K mg base 3 A.a_are_corner_rows A.d_are_corner_rows ["letters", "value"] (spD ⟨K, mg, flv tb n⟩ 2 m_are_corner_rows) :=
 fnok_of T.F_are_corner_rows sc_are_corner_rows fun cdv A outer s H E hr => by
  have sc := sc_are_corner_rows
  exact (dss_cons (ds_if (dt_w (dw_or (dt_not (dt_val (de_isi rfl T.z_isinstance bb_isinstance (.ty _) (isi_ok_tuple T) (de_var (i := 1) rfl (by first | exact .inl rfl | exact .inr (.inl rfl) | exact .inr (.inr rfl))) (pe_bltn rfl T.z_tuple bb_tuple rfl)))) (dw_or1 (dt_not (dt_val (de_b (cr_all rfl) v_all rfl T.z_all bb_all (da_cons (de_lc rfl sc.nd (di_seq (de_var (i := 1) rfl (by first | exact .inl rfl | exact .inr (.inl rfl) | exact .inr (.inr rfl)))) (blkOk_by (own := [("row", 3)]) rfl) rfl (fun _ _ _ _ _ => (dg_name (vs := [3]) (i := 3) sc.nd rfl (by first | exact .inl rfl | exact .inr rfl) (by decide))) (fun _ _ _ _ _ => dts_nil) (fun _ _ _ _ _ => (de_call (fd_are_counts T) (hr.mono (by decide)) takes0 rfl (da_cons (de_var (i := 0) rfl (by first | exact .inl rfl | exact .inr (.inl rfl) | exact .inr (.inr rfl))) (da_cons (de_var (i := 3) rfl (by first | exact .inl rfl | exact .inr (.inl rfl) | exact .inr (.inr rfl))) da_nil))))) da_nil)))))))
 (dss_one (ds_ret de_bl))
 dss_nil)
 (dss_cons (ds_if (dt_not (dt_val (de_b (cr_all rfl) v_all rfl T.z_all bb_all (da_cons (de_lc rfl sc.nd (di_range1 rfl T.z_range (de_op op_sub v_sub (de_b call_lenA v_len rfl T.z_len bb_len (da_cons (de_var (i := 1) rfl (by first | exact .inl rfl | exact .inr (.inl rfl) | exact .inr (.inr rfl))) da_nil)) de_int)) (blkOk_by (own := [("k", 4)]) rfl) rfl (fun _ _ _ _ _ => (dg_name (vs := [4]) (i := 4) sc.nd rfl (by first | exact .inl rfl | exact .inr rfl) (by decide))) (fun _ _ _ _ _ => dts_nil) (fun _ _ _ _ _ => (de_cmp (op_ltI hr) v_ltT (de_item (de_var (i := 1) rfl (by first | exact .inl rfl | exact .inr (.inl rfl) | exact .inr (.inr rfl))) (de_var (i := 4) rfl (by first | exact .inl rfl | exact .inr (.inl rfl) | exact .inr (.inr rfl))) (fun _ _ => rfl)) (de_item (de_var (i := 1) rfl (by first | exact .inl rfl | exact .inr (.inl rfl) | exact .inr (.inr rfl))) (de_op op_plus v_plus (de_var (i := 4) rfl (by first | exact .inl rfl | exact .inr (.inl rfl) | exact .inr (.inr rfl))) de_int) (fun _ _ => rfl)) rfl))) da_nil))))
 (dss_one (ds_ret de_bl))
 dss_nil)
 (dss_cons (ds_for PassesOwn.leaving rfl (di_seq (de_var (i := 1) rfl (by first | exact .inl rfl | exact .inr (.inl rfl) | exact .inr (.inr rfl)))) (dg_name (vs := [2]) (i := 2) sc.nd rfl (by first | exact .inl rfl | exact .inr rfl) (by decide))
 (dss_one (ds_if (dt_val (de_b (cr_any rfl) v_any rfl T.z_any bb_any (da_cons (de_lc rfl sc.nd (di_seq (de_var (i := 1) rfl (by first | exact .inl rfl | exact .inr (.inl rfl) | exact .inr (.inr rfl)))) (blkOk_by (own := [("other", 5)]) rfl) rfl (fun _ _ _ _ _ => (dg_name (vs := [5]) (i := 5) sc.nd rfl (by first | exact .inl rfl | exact .inr rfl) (by decide))) (fun _ _ _ _ _ => dts_nil) (fun _ _ _ _ _ => (de_and (de_cmp (op_neA hr T.sys) v_ne (de_var (i := 2) rfl (by first | exact .inl rfl | exact .inr (.inl rfl) | exact .inr (.inr rfl))) (de_var (i := 5) rfl (by first | exact .inl rfl | exact .inr (.inl rfl) | exact .inr (.inr rfl))) rfl) (de_one (de_call (fd_covers T) (hr.mono (by decide)) takes0 rfl (da_cons (de_var (i := 2) rfl (by first | exact .inl rfl | exact .inr (.inl rfl) | exact .inr (.inr rfl))) (da_cons (de_var (i := 5) rfl (by first | exact .inl rfl | exact .inr (.inl rfl) | exact .inr (.inr rfl))) da_nil))))))) da_nil)))
 (dss_one (ds_ret de_bl))
 dss_nil)))
 (dss_one (ds_ret de_bl)))))
theorem fd_are_corner_rows (T : Txt K mg base A) : Fd P w K mg base (flv tb n) 3 "are_corner_rows" 2 m_are_corner_rows := ⟨⟨_, _, _, fn_are_corner_rows T, T.g_are_corner_rows, T.F_are_corner_rows.kp, T.b_are_corner_rows⟩⟩
noncomputable def b_corners_from (m_need_between : List D → M D) (m_in_tuples : List D → M D) (m_are_corner_rows : List D → M D) : List D → M D := fn 4
 (sSeq (sEx (eCall 4 m_need_between (aCons (eC (.str "letters")) (aCons (eVar 0) (aCons (eC (.int 1)) (aCons (eC (.int 3)) aNil))))))
 (sSeq (sSet 2 (eCall 1 m_in_tuples (aCons (eVar 1) aNil)))
 (sSeq (sIf (tOrM (tNotM (tOf (eIsi isi_tuple (eVar 2)))) (tNotM (tOf (eChain (fun i j => decide (i ≤ j)) (fun i j => decide (i ≤ j)) (eC (.int 1)) (eN fLen (aCons (eVar 2) aNil)) (eC (.int 3))))))
 (sRaise "BadTable" 1 (aCons (eVar 1) aNil))
 sNil)
 (sSeq (sIf (tNotM (tOf (eN fAll (aCons (eComp [3] (itSeq (eVar 2)) (gSet 3) tYesM (eCall 2 m_are_corner_rows (aCons (eVar 0) (aCons (eVar 3) aNil)))) aNil))))
 (sRaise "BadTable" 1 (aCons (eVar 1) aNil))
 sNil)
 (sRet (eVar 2))))))
noncomputable def m_corners_from : List D → M D := b_corners_from m_need_between m_in_tuples m_are_corner_rows
theorem fn_corners_from (T : Txt K mg base A) : FnG P w K mg base 7 A.a_corners_from A.d_corners_from ["letters", "corners"] (spD ⟨K, mg, flv tb n⟩ 2 m_corners_from) :=
 fnok_of T.F_corners_from sc_corners_from fun cdv A outer s H E hr => by
  have sc := sc_corners_from
  exact (dss_cons (ds_expr (de_call (fd_need_between T) (hr.mono (by decide)) (takes_of rfl rfl rfl rfl) rfl (da_cons de_str (da_cons (de_var (i := 0) rfl (by first | exact .inl rfl | exact .inr (.inl rfl) | exact .inr (.inr rfl))) (da_cons de_int (da_cons (de_gint rfl T.k_MOST_LETTERS) da_nil))))))
 (dss_cons (ds_set (i := 2) sc.nd rfl (by first | exact .inl rfl | exact .inr rfl) (de_call (fd_in_tuples T) (hr.mono (by decide)) (takes_of rfl rfl rfl rfl) rfl (da_cons (de_var (i := 1) rfl (by first | exact .inl rfl | exact .inr (.inl rfl) | exact .inr (.inr rfl))) da_nil)))
 (dss_cons (ds_if (dt_w (dw_or (dt_not (dt_val (de_isi rfl T.z_isinstance bb_isinstance (.ty _) (isi_ok_tuple T) (de_var (i := 2) rfl (by first | exact .inl rfl | exact .inr (.inl rfl) | exact .inr (.inr rfl))) (pe_bltn rfl T.z_tuple bb_tuple rfl)))) (dw_or1 (dt_not (dt_chain op_le op_le de_int (de_b call_lenA v_len rfl T.z_len bb_len (da_cons (de_var (i := 2) rfl (by first | exact .inl rfl | exact .inr (.inl rfl) | exact .inr (.inr rfl))) da_nil)) (de_gint rfl T.k_MOST_UNKNOWNS))))))
 (dss_one (ds_raise rfl (takes_of rfl rfl rfl rfl) (ex_BadTable T) (hr.mono (by decide)) rfl (da_cons (de_var (i := 1) rfl (by first | exact .inl rfl | exact .inr (.inl rfl) | exact .inr (.inr rfl))) da_nil) (by decide)))
 dss_nil)
 (dss_cons (ds_if (dt_not (dt_val (de_b (cr_all rfl) v_all rfl T.z_all bb_all (da_cons (de_lc rfl sc.nd (di_seq (de_var (i := 2) rfl (by first | exact .inl rfl | exact .inr (.inl rfl) | exact .inr (.inr rfl)))) (blkOk_by (own := [("rows", 3)]) rfl) rfl (fun _ _ _ _ _ => (dg_name (vs := [3]) (i := 3) sc.nd rfl (by first | exact .inl rfl | exact .inr rfl) (by decide))) (fun _ _ _ _ _ => dts_nil) (fun _ _ _ _ _ => (de_call (fd_are_corner_rows T) (hr.mono (by decide)) takes0 rfl (da_cons (de_var (i := 0) rfl (by first | exact .inl rfl | exact .inr (.inl rfl) | exact .inr (.inr rfl))) (da_cons (de_var (i := 3) rfl (by first | exact .inl rfl | exact .inr (.inl rfl) | exact .inr (.inr rfl))) da_nil))))) da_nil))))
 (dss_one (ds_raise rfl (takes_of rfl rfl rfl rfl) (ex_BadTable T) (hr.mono (by decide)) rfl (da_cons (de_var (i := 1) rfl (by first | exact .inl rfl | exact .inr (.inl rfl) | exact .inr (.inr rfl))) da_nil) (by decide)))
 dss_nil)
 (dss_one (ds_ret (de_var (i := 2) rfl (by first | exact .inl rfl | exact .inr (.inl rfl) | exact .inr (.inr rfl)))))))))
theorem fd_corners_from (T : Txt K mg base A) : Fd P w K mg base (flv tb n) 7 "corners_from" 2 m_corners_from := ⟨⟨_, _, _, fn_corners_from T, T.g_corners_from, T.F_corners_from.kp, T.b_corners_from⟩⟩
noncomputable def b_least_rows (m_covers : List D → M D) : List D → M D := fn 4
 (sSeq (sSet 1 (e1 fSortSt (eVar 0)))
 (sRet (eN fTuple (aCons (eComp [2] (itSeq (eVar 1)) (gSet 2) (tNotM (tOf (eN fAny (aCons (eComp [3] (itSeq (eVar 1)) (gSet 3) tYesM (eAnd (e2 fNe (eVar 2) (eVar 3)) (eCall 2 m_covers (aCons (eVar 2) (aCons (eVar 3) aNil))))) aNil)))) (eVar 2)) aNil))))
noncomputable def m_least_rows : List D → M D := b_least_rows m_covers
theorem fn_least_rows (T : Txt K mg base A) : FnG P w K mg base 2 A.a_least_rows A.d_least_rows ["rows"] (spD ⟨K, mg, flv tb n⟩ 1 m_least_rows) :=
 fnok_of T.F_least_rows sc_least_rows fun cdv A outer s H E hr => by
  have sc := sc_least_rows
  exact (dss_cons (ds_set (i := 1) sc.nd rfl (by first | exact .inl rfl | exact .inr rfl) (de_sortSetT hr rfl rfl T.z_sorted rfl T.z_set (de_var (i := 0) rfl (by first | exact .inl rfl | exact .inr (.inl rfl) | exact .inr (.inr rfl)))))
 (dss_one (ds_ret (de_ty call_tuple_of v_tuple rfl T.z_tuple bb_tuple (da_cons (de_lc rfl sc.nd (di_seq (de_var (i := 1) rfl (by first | exact .inl rfl | exact .inr (.inl rfl) | exact .inr (.inr rfl)))) (blkOk_by (own := [("one", 2)]) rfl) rfl (fun _ _ _ _ _ => (dg_name (vs := [2]) (i := 2) sc.nd rfl (by first | exact .inl rfl | exact .inr rfl) (by decide))) (fun _ _ _ _ _ => (dts_one (dt_not (dt_val (de_b (cr_any rfl) v_any rfl T.z_any bb_any (da_cons (de_lc rfl sc.nd (di_seq (de_var (i := 1) rfl (by first | exact .inl rfl | exact .inr (.inl rfl) | exact .inr (.inr rfl)))) (blkOk_by (own := [("other", 3)]) rfl) rfl (fun _ _ _ _ _ => (dg_name (vs := [3]) (i := 3) sc.nd rfl (by first | exact .inl rfl | exact .inr rfl) (by decide))) (fun _ _ _ _ _ => dts_nil) (fun _ _ _ _ _ => (de_and (de_cmp (op_neA hr T.sys) v_ne (de_var (i := 2) rfl (by first | exact .inl rfl | exact .inr (.inl rfl) | exact .inr (.inr rfl))) (de_var (i := 3) rfl (by first | exact .inl rfl | exact .inr (.inl rfl) | exact .inr (.inr rfl))) rfl) (de_one (de_call (fd_covers T) (hr.mono (by decide)) takes0 rfl (da_cons (de_var (i := 2) rfl (by first | exact .inl rfl | exact .inr (.inl rfl) | exact .inr (.inr rfl))) (da_cons (de_var (i := 3) rfl (by first | exact .inl rfl | exact .inr (.inl rfl) | exact .inr (.inr rfl))) da_nil))))))) da_nil)))))) (fun _ _ _ _ _ => (de_var (i := 2) rfl (by first | exact .inl rfl | exact .inr (.inl rfl) | exact .inr (.inr rfl))))) da_nil)))))
theorem fd_least_rows (T : Txt K mg base A) : Fd P w K mg base (flv tb n) 2 "least_rows" 1 m_least_rows := ⟨⟨_, _, _, fn_least_rows T, T.g_least_rows, T.F_least_rows.kp, T.b_least_rows⟩⟩
noncomputable def b_least_corners (m_need_between : List D → M D) (m_in_tuples : List D → M D) (m_are_counts : List D → M D) (m_least_rows : List D → M D) : List D → M D := fn 5
 (sSeq (sEx (eCall 4 m_need_between (aCons (eC (.str "letters")) (aCons (eVar 0) (aCons (eC (.int 1)) (aCons (eC (.int 3)) aNil))))))
 (sSeq (sSet 2 (eCall 1 m_in_tuples (aCons (eVar 1) aNil)))
 (sSeq (sIf (tOrM (tNotM (tOf (eIsi isi_tuple (eVar 2)))) (tNotM (tOf (eChain (fun i j => decide (i ≤ j)) (fun i j => decide (i ≤ j)) (eC (.int 1)) (eN fLen (aCons (eVar 2) aNil)) (eC (.int 3))))))
 (sRaise "BadTable" 1 (aCons (eVar 1) aNil))
 sNil)
 (sSeq (sFor (itSeq (eVar 2)) (gSet 3)
 (sIf (tOrM (tNotM (tOf (eIsi isi_tuple (eVar 3)))) (tNotM (tOf (eN fAll (aCons (eComp [4] (itSeq (eVar 3)) (gSet 4) tYesM (eCall 2 m_are_counts (aCons (eVar 0) (aCons (eVar 4) aNil)))) aNil)))))
 (sRaise "BadTable" 1 (aCons (eVar 1) aNil))
 sNil))
 (sRet (eN fTuple (aCons (eComp [3] (itSeq (eVar 2)) (gSet 3) tYesM (eCall 1 m_least_rows (aCons (eVar 3) aNil))) aNil)))))))
noncomputable def m_least_corners : List D → M D := b_least_corners m_need_between m_in_tuples m_are_counts m_least_rows
theorem fn_least_corners (T : Txt K mg base A) : FnG P w K mg base 7 A.a_least_corners A.d_least_corners ["letters", "rows"] (spD ⟨K, mg, flv tb n⟩ 2 m_least_corners) :=
 fnok_of T.F_least_corners sc_least_corners fun cdv A outer s H E hr => by
  have sc := sc_least_corners
  exact (dss_cons (ds_expr (de_call (fd_need_between T) (hr.mono (by decide)) (takes_of rfl rfl rfl rfl) rfl (da_cons de_str (da_cons (de_var (i := 0) rfl (by first | exact .inl rfl | exact .inr (.inl rfl) | exact .inr (.inr rfl))) (da_cons de_int (da_cons (de_gint rfl T.k_MOST_LETTERS) da_nil))))))
 (dss_cons (ds_set (i := 2) sc.nd rfl (by first | exact .inl rfl | exact .inr rfl) (de_call (fd_in_tuples T) (hr.mono (by decide)) (takes_of rfl rfl rfl rfl) rfl (da_cons (de_var (i := 1) rfl (by first | exact .inl rfl | exact .inr (.inl rfl) | exact .inr (.inr rfl))) da_nil)))
 (dss_cons (ds_if (dt_w (dw_or (dt_not (dt_val (de_isi rfl T.z_isinstance bb_isinstance (.ty _) (isi_ok_tuple T) (de_var (i := 2) rfl (by first | exact .inl rfl | exact .inr (.inl rfl) | exact .inr (.inr rfl))) (pe_bltn rfl T.z_tuple bb_tuple rfl)))) (dw_or1 (dt_not (dt_chain op_le op_le de_int (de_b call_lenA v_len rfl T.z_len bb_len (da_cons (de_var (i := 2) rfl (by first | exact .inl rfl | exact .inr (.inl rfl) | exact .inr (.inr rfl))) da_nil)) (de_gint rfl T.k_MOST_UNKNOWNS))))))
 (dss_one (ds_raise rfl (takes_of rfl rfl rfl rfl) (ex_BadTable T) (hr.mono (by decide)) rfl (da_cons (de_var (i := 1) rfl (by first | exact .inl rfl | exact .inr (.inl rfl) | exact .inr (.inr rfl))) da_nil) (by decide)))
 dss_nil)
 (dss_cons (ds_for PassesOwn.leaving rfl (di_seq (de_var (i := 2) rfl (by first | exact .inl rfl | exact .inr (.inl rfl) | exact .inr (.inr rfl)))) (dg_name (vs := [3]) (i := 3) sc.nd rfl (by first | exact .inl rfl | exact .inr rfl) (by decide))
 (dss_one (ds_if (dt_w (dw_or (dt_not (dt_val (de_isi rfl T.z_isinstance bb_isinstance (.ty _) (isi_ok_tuple T) (de_var (i := 3) rfl (by first | exact .inl rfl | exact .inr (.inl rfl) | exact .inr (.inr rfl))) (pe_bltn rfl T.z_tuple bb_tuple rfl)))) (dw_or1 (dt_not (dt_val (de_b (cr_all rfl) v_all rfl T.z_all bb_all (da_cons (de_lc rfl sc.nd (di_seq (de_var (i := 3) rfl (by first | exact .inl rfl | exact .inr (.inl rfl) | exact .inr (.inr rfl)))) (blkOk_by (own := [("row", 4)]) rfl) rfl (fun _ _ _ _ _ => (dg_name (vs := [4]) (i := 4) sc.nd rfl (by first | exact .inl rfl | exact .inr rfl) (by decide))) (fun _ _ _ _ _ => dts_nil) (fun _ _ _ _ _ => (de_call (fd_are_counts T) (hr.mono (by decide)) takes0 rfl (da_cons (de_var (i := 0) rfl (by first | exact .inl rfl | exact .inr (.inl rfl) | exact .inr (.inr rfl))) (da_cons (de_var (i := 4) rfl (by first | exact .inl rfl | exact .inr (.inl rfl) | exact .inr (.inr rfl))) da_nil))))) da_nil)))))))
 (dss_one (ds_raise rfl (takes_of rfl rfl rfl rfl) (ex_BadTable T) (hr.mono (by decide)) rfl (da_cons (de_var (i := 1) rfl (by first | exact .inl rfl | exact .inr (.inl rfl) | exact .inr (.inr rfl))) da_nil) (by decide)))
 dss_nil)))
 (dss_one (ds_ret (de_ty call_tuple_of v_tuple rfl T.z_tuple bb_tuple (da_cons (de_lc rfl sc.nd (di_seq (de_var (i := 2) rfl (by first | exact .inl rfl | exact .inr (.inl rfl) | exact .inr (.inr rfl)))) (blkOk_by (own := [("some", 3)]) rfl) rfl (fun _ _ _ _ _ => (dg_name (vs := [3]) (i := 3) sc.nd rfl (by first | exact .inl rfl | exact .inr rfl) (by decide))) (fun _ _ _ _ _ => dts_nil) (fun _ _ _ _ _ => (de_call (fd_least_rows T) (hr.mono (by decide)) takes0 rfl (da_cons (de_var (i := 3) rfl (by first | exact .inl rfl | exact .inr (.inl rfl) | exact .inr (.inr rfl))) da_nil)))) da_nil))))))))
theorem fd_least_corners (T : Txt K mg base A) : Fd P w K mg base (flv tb n) 7 "least_corners" 2 m_least_corners := ⟨⟨_, _, _, fn_least_corners T, T.g_least_corners, T.F_least_corners.kp, T.b_least_corners⟩⟩
noncomputable def b_open_by (m_covers : List D → M D) : List D → M D := fn 5
 (sSeq (sAsg (gTupD 2 (gsCons (gSet 2) (gsCons (gSet 3) gsNil))) (eVar 1))
 (sRet (eNot (eN fAny (aCons (eComp [4] (itSeq (e2 fItem (eVar 0) (eVar 2))) (gSet 4) tYesM (eCall 2 m_covers (aCons (eVar 3) (aCons (eVar 4) aNil)))) aNil)))))
noncomputable def m_open_by : List D → M D := b_open_by m_covers
theorem fn_open_by (T : Txt K mg base A) : FnG P w K mg base 2 A.a_open_by A.d_open_by ["corners", "derivative"] (spD ⟨K, mg, flv tb n⟩ 2 m_open_by) :=
 fnok_of T.F_open_by sc_open_by fun cdv A outer s H E hr => by
  have sc := sc_open_by
  exact (dss_cons (ds_asg (de_var (i := 1) rfl (by first | exact .inl rfl | exact .inr (.inl rfl) | exact .inr (.inr rfl))) (dg_tup (n := 2) rfl (dgs_cons (dg_name (vs := [2, 3]) (i := 2) sc.nd rfl (by first | exact .inl rfl | exact .inr rfl) (by decide)) (dgs_cons (dg_name (vs := [2, 3]) (i := 3) sc.nd rfl (by first | exact .inl rfl | exact .inr rfl) (by decide)) dgs_nil))))
 (dss_one (ds_ret (de_not (de_b (cr_any rfl) v_any rfl T.z_any bb_any (da_cons (de_lc rfl sc.nd (di_seq (de_item (de_var (i := 0) rfl (by first | exact .inl rfl | exact .inr (.inl rfl) | exact .inr (.inr rfl))) (de_var (i := 2) rfl (by first | exact .inl rfl | exact .inr (.inl rfl) | exact .inr (.inr rfl))) (fun _ _ => rfl))) (blkOk_by (own := [("corner", 4)]) rfl) rfl (fun _ _ _ _ _ => (dg_name (vs := [4]) (i := 4) sc.nd rfl (by first | exact .inl rfl | exact .inr rfl) (by decide))) (fun _ _ _ _ _ => dts_nil) (fun _ _ _ _ _ => (de_call (fd_covers T) (hr.mono (by decide)) takes0 rfl (da_cons (de_var (i := 3) rfl (by first | exact .inl rfl | exact .inr (.inl rfl) | exact .inr (.inr rfl))) (da_cons (de_var (i := 4) rfl (by first | exact .inl rfl | exact .inr (.inl rfl) | exact .inr (.inr rfl))) da_nil))))) da_nil))))))
theorem fd_open_by (T : Txt K mg base A) : Fd P w K mg base (flv tb n) 2 "open_by" 2 m_open_by := ⟨⟨_, _, _, fn_open_by T, T.g_open_by, T.F_open_by.kp, T.b_open_by⟩⟩
noncomputable def b_derivative_from (m_in_tuples : List D → M D) (m_is_tuple_of : List D → M D) (m_is_whole : List D → M D) (m_are_counts : List D → M D) : List D → M D := fn 4
 (sSeq (sSet 3 (eCall 1 m_in_tuples (aCons (eVar 2) aNil)))
 (sSeq (sIf (tOrM (tNotM (tOf (eCall 2 m_is_tuple_of (aCons (eVar 3) (aCons (eC (.int 2)) aNil))))) (tOrM (tNotM (tOf (eCall 1 m_is_whole (aCons (e2 fItem (eVar 3) (eC (.int 0))) aNil)))) (tNotM (tOf (eCall 2 m_are_counts (aCons (eVar 0) (aCons (e2 fItem (eVar 3) (eC (.int 1))) aNil)))))))
 (sRaise "BadRow" 1 (aCons (eVar 2) aNil))
 sNil)
 (sSeq (sIf (tNotM (tOf (eChain (fun i j => decide (i ≤ j)) (fun i j => decide (i < j)) (eC (.int 0)) (e2 fItem (eVar 3) (eC (.int 0))) (eN fLen (aCons (eVar 1) aNil)))))
 (sRaise "BadRow" 1 (aCons (eVar 2) aNil))
 sNil)
 (sRet (eVar 3)))))
noncomputable def m_derivative_from : List D → M D := b_derivative_from m_in_tuples m_is_tuple_of m_is_whole m_are_counts
theorem fn_derivative_from (T : Txt K mg base A) : FnG P w K mg base 7 A.a_derivative_from A.d_derivative_from ["letters", "corners", "derivative"] (spD ⟨K, mg, flv tb n⟩ 3 m_derivative_from) :=
 fnok_of T.F_derivative_from sc_derivative_from fun cdv A outer s H E hr => by
  have sc := sc_derivative_from
  exact (dss_cons (ds_set (i := 3) sc.nd rfl (by first | exact .inl rfl | exact .inr rfl) (de_call (fd_in_tuples T) (hr.mono (by decide)) (takes_of rfl rfl rfl rfl) rfl (da_cons (de_var (i := 2) rfl (by first | exact .inl rfl | exact .inr (.inl rfl) | exact .inr (.inr rfl))) da_nil)))
 (dss_cons (ds_if (dt_w (dw_or (dt_not (dt_val (de_call (fd_is_tuple_of T) (hr.mono (by decide)) (takes_of rfl rfl rfl rfl) rfl (da_cons (de_var (i := 3) rfl (by first | exact .inl rfl | exact .inr (.inl rfl) | exact .inr (.inr rfl))) (da_cons de_int da_nil))))) (dw_or (dt_not (dt_val (de_call (fd_is_whole T) (hr.mono (by decide)) (takes_of rfl rfl rfl rfl) rfl (da_cons (de_item (de_var (i := 3) rfl (by first | exact .inl rfl | exact .inr (.inl rfl) | exact .inr (.inr rfl))) de_int (fun _ _ => rfl)) da_nil)))) (dw_or1 (dt_not (dt_val (de_call (fd_are_counts T) (hr.mono (by decide)) (takes_of rfl rfl rfl rfl) rfl (da_cons (de_var (i := 0) rfl (by first | exact .inl rfl | exact .inr (.inl rfl) | exact .inr (.inr rfl))) (da_cons (de_item (de_var (i := 3) rfl (by first | exact .inl rfl | exact .inr (.inl rfl) | exact .inr (.inr rfl))) de_int (fun _ _ => rfl)) da_nil)))))))))
 (dss_one (ds_raise rfl (takes_of rfl rfl rfl rfl) (ex_BadRow T) (hr.mono (by decide)) rfl (da_cons (de_var (i := 2) rfl (by first | exact .inl rfl | exact .inr (.inl rfl) | exact .inr (.inr rfl))) da_nil) (by decide)))
 dss_nil)
 (dss_cons (ds_if (dt_not (dt_chain op_le op_lt de_int (de_item (de_var (i := 3) rfl (by first | exact .inl rfl | exact .inr (.inl rfl) | exact .inr (.inr rfl))) de_int (fun _ _ => rfl)) (de_b call_lenA v_len rfl T.z_len bb_len (da_cons (de_var (i := 1) rfl (by first | exact .inl rfl | exact .inr (.inl rfl) | exact .inr (.inr rfl))) da_nil))))
 (dss_one (ds_raise rfl (takes_of rfl rfl rfl rfl) (ex_BadRow T) (hr.mono (by decide)) rfl (da_cons (de_var (i := 2) rfl (by first | exact .inl rfl | exact .inr (.inl rfl) | exact .inr (.inr rfl))) da_nil) (by decide)))
 dss_nil)
 (dss_one (ds_ret (de_var (i := 3) rfl (by first | exact .inl rfl | exact .inr (.inl rfl) | exact .inr (.inr rfl))))))))
theorem fd_derivative_from (T : Txt K mg base A) : Fd P w K mg base (flv tb n) 7 "derivative_from" 3 m_derivative_from := ⟨⟨_, _, _, fn_derivative_from T, T.g_derivative_from, T.F_derivative_from.kp, T.b_derivative_from⟩⟩
noncomputable def b_open_at (m_corners_from : List D → M D) (m_open_by : List D → M D) (m_derivative_from : List D → M D) : List D → M D := fn 4
 (sSeq (sSet 3 (eCall 2 m_corners_from (aCons (eVar 0) (aCons (eVar 1) aNil))))
 (sRet (eCall 2 m_open_by (aCons (eVar 3) (aCons (eCall 3 m_derivative_from (aCons (eVar 0) (aCons (eVar 3) (aCons (eVar 2) aNil)))) aNil)))))
noncomputable def m_open_at : List D → M D := b_open_at m_corners_from m_open_by m_derivative_from
theorem fn_open_at (T : Txt K mg base A) : FnG P w K mg base 8 A.a_open_at A.d_open_at ["letters", "corners", "derivative"] (spD ⟨K, mg, flv tb n⟩ 3 m_open_at) :=
 fnok_of T.F_open_at sc_open_at fun cdv A outer s H E hr => by
  have sc := sc_open_at
  exact (dss_cons (ds_set (i := 3) sc.nd rfl (by first | exact .inl rfl | exact .inr rfl) (de_call (fd_corners_from T) (hr.mono (by decide)) (takes_of rfl rfl rfl rfl) rfl (da_cons (de_var (i := 0) rfl (by first | exact .inl rfl | exact .inr (.inl rfl) | exact .inr (.inr rfl))) (da_cons (de_var (i := 1) rfl (by first | exact .inl rfl | exact .inr (.inl rfl) | exact .inr (.inr rfl))) da_nil))))
 (dss_one (ds_ret (de_call (fd_open_by T) (hr.mono (by decide)) (takes_of rfl rfl rfl rfl) rfl (da_cons (de_var (i := 3) rfl (by first | exact .inl rfl | exact .inr (.inl rfl) | exact .inr (.inr rfl))) (da_cons (de_call (fd_derivative_from T) (hr.mono (by decide)) (takes_of rfl rfl rfl rfl) rfl (da_cons (de_var (i := 0) rfl (by first | exact .inl rfl | exact .inr (.inl rfl) | exact .inr (.inr rfl))) (da_cons (de_var (i := 3) rfl (by first | exact .inl rfl | exact .inr (.inl rfl) | exact .inr (.inr rfl))) (da_cons (de_var (i := 2) rfl (by first | exact .inl rfl | exact .inr (.inl rfl) | exact .inr (.inr rfl))) da_nil)))) da_nil))))))
theorem fd_open_at (T : Txt K mg base A) : Fd P w K mg base (flv tb n) 8 "open_at" 3 m_open_at := ⟨⟨_, _, _, fn_open_at T, T.g_open_at, T.F_open_at.kp, T.b_open_at⟩⟩
noncomputable def b_order_rows : List D → M D := fn 7
 (sSeq (sSet 2 (eLst (aCons (eTup aNil) aNil)))
 (sSeq (sFor (itRange1 (eVar 0)) (gSet 3)
 (sSeq (sSet 4 (eLst aNil))
 (sSeq (sFor (itSeq (eVar 2)) (gSet 5)
 (sSet 4 (e2 fPlus (eVar 4) (eComp [6] (itRange1 (e2 fPlus (e2 fSub (eVar 1) (eN fSum (aCons (eVar 5) aNil))) (eC (.int 1)))) (gSet 6) tYesM (e2 fPlus (eVar 5) (eTup (aCons (eVar 6) aNil)))))))
 (sSet 2 (eVar 4)))))
 (sRet (eVar 2))))
noncomputable def m_order_rows : List D → M D := b_order_rows
theorem fn_order_rows (T : Txt K mg base A) : FnG P w K mg base 1 A.a_order_rows A.d_order_rows ["letters", "order"] (spD ⟨K, mg, flv tb n⟩ 2 m_order_rows) :=
 fnok_of T.F_order_rows sc_order_rows fun cdv A outer s H E hr => by
  have sc := sc_order_rows
  exact (dss_cons (ds_set (i := 2) sc.nd rfl (by first | exact .inl rfl | exact .inr rfl) (de_lst (da_cons (de_tup da_nil) da_nil)))
 (dss_cons (ds_for PassesOwn.leaving rfl (di_range1 rfl T.z_range (de_var (i := 0) rfl (by first | exact .inl rfl | exact .inr (.inl rfl) | exact .inr (.inr rfl)))) (dg_name (vs := [3]) (i := 3) sc.nd rfl (by first | exact .inl rfl | exact .inr rfl) (by decide))
 (dss_cons (ds_set (i := 4) sc.nd rfl (by first | exact .inl rfl | exact .inr rfl) (de_lst da_nil))
 (dss_cons (ds_for PassesOwn.leaving rfl (di_seq (de_var (i := 2) rfl (by first | exact .inl rfl | exact .inr (.inl rfl) | exact .inr (.inr rfl)))) (dg_name (vs := [5]) (i := 5) sc.nd rfl (by first | exact .inl rfl | exact .inr rfl) (by decide))
 (dss_one (ds_set (i := 4) sc.nd rfl (by first | exact .inl rfl | exact .inr rfl) (de_op op_plus v_plus (de_var (i := 4) rfl (by first | exact .inl rfl | exact .inr (.inl rfl) | exact .inr (.inr rfl))) (de_lc rfl sc.nd (di_range1 rfl T.z_range (de_op op_plus v_plus (de_op op_sub v_sub (de_var (i := 1) rfl (by first | exact .inl rfl | exact .inr (.inl rfl) | exact .inr (.inr rfl))) (de_b (cr_sumA rfl) v_sum rfl T.z_sum bb_sum (da_cons (de_var (i := 5) rfl (by first | exact .inl rfl | exact .inr (.inl rfl) | exact .inr (.inr rfl))) da_nil))) de_int)) (blkOk_by (own := [("count", 6)]) rfl) rfl (fun _ _ _ _ _ => (dg_name (vs := [6]) (i := 6) sc.nd rfl (by first | exact .inl rfl | exact .inr rfl) (by decide))) (fun _ _ _ _ _ => dts_nil) (fun _ _ _ _ _ => (de_op op_plus v_plus (de_var (i := 5) rfl (by first | exact .inl rfl | exact .inr (.inl rfl) | exact .inr (.inr rfl))) (de_tup (da_cons (de_var (i := 6) rfl (by first | exact .inl rfl | exact .inr (.inl rfl) | exact .inr (.inr rfl))) da_nil)))))))))
 (dss_one (ds_set (i := 2) sc.nd rfl (by first | exact .inl rfl | exact .inr rfl) (de_var (i := 4) rfl (by first | exact .inl rfl | exact .inr (.inl rfl) | exact .inr (.inr rfl))))))))
 (dss_one (ds_ret (de_var (i := 2) rfl (by first | exact .inl rfl | exact .inr (.inl rfl) | exact .inr (.inr rfl)))))))
theorem fd_order_rows (T : Txt K mg base A) : Fd P w K mg base (flv tb n) 1 "order_rows" 2 m_order_rows := ⟨⟨_, _, _, fn_order_rows T, T.g_order_rows, T.F_order_rows.kp, T.b_order_rows⟩⟩
noncomputable def b_open_derivatives (m_corners_from : List D → M D) (m_is_whole : List D → M D) (m_order_rows : List D → M D) (m_open_by : List D → M D) : List D → M D := fn 7
 (sSeq (sSet 3 (eCall 2 m_corners_from (aCons (eVar 0) (aCons (eVar 1) aNil))))
 (sSeq (sIf (tOrM (tNotM (tOf (eCall 1 m_is_whole (aCons (eVar 2) aNil)))) (tNotM (tOf (eChain (fun i j => decide (i ≤ j)) (fun i j => decide (i ≤ j)) (eC (.int 0)) (eVar 2) (eC (.int 8))))))
 (sRaise "BadNumber" 2 (aCons (eC (.str "order")) (aCons (eVar 2) aNil)))
 sNil)
 (sSeq (sSet 4 (eLst aNil))
 (sSeq (sFor (itRange1 (eN fLen (aCons (eVar 3) aNil))) (gSet 5)
 (sSet 4 (e2 fPlus (eVar 4) (eComp [6] (itSeq (eCall 2 m_order_rows (aCons (eVar 0) (aCons (eVar 2) aNil)))) (gSet 6) (tOf (eCall 2 m_open_by (aCons (eVar 3) (aCons (eTup (aCons (eVar 5) (aCons (eVar 6) aNil))) aNil)))) (eTup (aCons (eVar 5) (aCons (eVar 6) aNil)))))))
 (sRet (eN fTuple (aCons (eVar 4) aNil)))))))
noncomputable def m_open_derivatives : List D → M D := b_open_derivatives m_corners_from m_is_whole m_order_rows m_open_by
theorem fn_open_derivatives (T : Txt K mg base A) : FnG P w K mg base 8 A.a_open_derivatives A.d_open_derivatives ["letters", "corners", "order"] (spD ⟨K, mg, flv tb n⟩ 3 m_open_derivatives) :=
 fnok_of T.F_open_derivatives sc_open_derivatives fun cdv A outer s H E hr => by
  have sc := sc_open_derivatives
  exact (dss_cons (ds_set (i := 3) sc.nd rfl (by first | exact .inl rfl | exact .inr rfl) (de_call (fd_corners_from T) (hr.mono (by decide)) (takes_of rfl rfl rfl rfl) rfl (da_cons (de_var (i := 0) rfl (by first | exact .inl rfl | exact .inr (.inl rfl) | exact .inr (.inr rfl))) (da_cons (de_var (i := 1) rfl (by first | exact .inl rfl | exact .inr (.inl rfl) | exact .inr (.inr rfl))) da_nil))))
 (dss_cons (ds_if (dt_w (dw_or (dt_not (dt_val (de_call (fd_is_whole T) (hr.mono (by decide)) (takes_of rfl rfl rfl rfl) rfl (da_cons (de_var (i := 2) rfl (by first | exact .inl rfl | exact .inr (.inl rfl) | exact .inr (.inr rfl))) da_nil)))) (dw_or1 (dt_not (dt_chain op_le op_le de_int (de_var (i := 2) rfl (by first | exact .inl rfl | exact .inr (.inl rfl) | exact .inr (.inr rfl))) (de_gint rfl T.k_MOST_ORDER))))))
 (dss_one (ds_raise rfl (takes_of rfl rfl rfl rfl) (ex_BadNumber T) (hr.mono (by decide)) rfl (da_cons de_str (da_cons (de_var (i := 2) rfl (by first | exact .inl rfl | exact .inr (.inl rfl) | exact .inr (.inr rfl))) da_nil)) (by decide)))
 dss_nil)
 (dss_cons (ds_set (i := 4) sc.nd rfl (by first | exact .inl rfl | exact .inr rfl) (de_lst da_nil))
 (dss_cons (ds_for PassesOwn.leaving rfl (di_range1 rfl T.z_range (de_b call_lenA v_len rfl T.z_len bb_len (da_cons (de_var (i := 3) rfl (by first | exact .inl rfl | exact .inr (.inl rfl) | exact .inr (.inr rfl))) da_nil))) (dg_name (vs := [5]) (i := 5) sc.nd rfl (by first | exact .inl rfl | exact .inr rfl) (by decide))
 (dss_one (ds_set (i := 4) sc.nd rfl (by first | exact .inl rfl | exact .inr rfl) (de_op op_plus v_plus (de_var (i := 4) rfl (by first | exact .inl rfl | exact .inr (.inl rfl) | exact .inr (.inr rfl))) (de_lc rfl sc.nd (di_seq (de_call (fd_order_rows T) (hr.mono (by decide)) (takes_of rfl rfl rfl rfl) rfl (da_cons (de_var (i := 0) rfl (by first | exact .inl rfl | exact .inr (.inl rfl) | exact .inr (.inr rfl))) (da_cons (de_var (i := 2) rfl (by first | exact .inl rfl | exact .inr (.inl rfl) | exact .inr (.inr rfl))) da_nil)))) (blkOk_by (own := [("row", 6)]) rfl) rfl (fun _ _ _ _ _ => (dg_name (vs := [6]) (i := 6) sc.nd rfl (by first | exact .inl rfl | exact .inr rfl) (by decide))) (fun _ _ _ _ _ => (dts_one (dt_val (de_call (fd_open_by T) (hr.mono (by decide)) takes0 rfl (da_cons (de_var (i := 3) rfl (by first | exact .inl rfl | exact .inr (.inl rfl) | exact .inr (.inr rfl))) (da_cons (de_tup (da_cons (de_var (i := 5) rfl (by first | exact .inl rfl | exact .inr (.inl rfl) | exact .inr (.inr rfl))) (da_cons (de_var (i := 6) rfl (by first | exact .inl rfl | exact .inr (.inl rfl) | exact .inr (.inr rfl))) da_nil))) da_nil)))))) (fun _ _ _ _ _ => (de_tup (da_cons (de_var (i := 5) rfl (by first | exact .inl rfl | exact .inr (.inl rfl) | exact .inr (.inr rfl))) (da_cons (de_var (i := 6) rfl (by first | exact .inl rfl | exact .inr (.inl rfl) | exact .inr (.inr rfl))) da_nil)))))))))
 (dss_one (ds_ret (de_ty call_tuple_of v_tuple rfl T.z_tuple bb_tuple (da_cons (de_var (i := 4) rfl (by first | exact .inl rfl | exact .inr (.inl rfl) | exact .inr (.inr rfl))) da_nil))))))))
theorem fd_open_derivatives (T : Txt K mg base A) : Fd P w K mg base (flv tb n) 8 "open_derivatives" 3 m_open_derivatives := ⟨⟨_, _, _, fn_open_derivatives T, T.g_open_derivatives, T.F_open_derivatives.kp, T.b_open_derivatives⟩⟩
noncomputable def m_lam0 : EM := (eCall 3 m_open_at (aCons (eVar 2) (aCons (eVar 5) (aCons (eVar 1) aNil))))
noncomputable def m_lam1 : EM := (eCall 3 m_open_at (aCons (eC (.int 2)) (aCons (eVar 5) (aCons (eVar 1) aNil))))
noncomputable def m_lam2 : EM := (eCall 3 m_open_at (aCons (eC (.int 2)) (aCons (eVar 3) (aCons (eVar 1) aNil))))
noncomputable def m_lam3 : EM := (eCall 3 m_open_derivatives (aCons (eVar 2) (aCons (eVar 5) (aCons (eVar 4) aNil))))
noncomputable def m_lam4 : EM := (eCall 3 m_open_derivatives (aCons (eC (.int 2)) (aCons (eVar 5) (aCons (eVar 4) aNil))))
noncomputable def m_lam5 : EM := (eCall 3 m_open_derivatives (aCons (eC (.int 2)) (aCons (eVar 3) (aCons (eVar 4) aNil))))
noncomputable def m_lam6 : EM := (eCall 2 m_least_corners (aCons (eVar 2) (aCons (eVar 0) aNil)))
noncomputable def m_lam7 : EM := (eCall 2 m_least_corners (aCons (eC (.int 2)) (aCons (eVar 0) aNil)))
noncomputable def lams : List EM := [m_lam0, m_lam1, m_lam2, m_lam3, m_lam4, m_lam5, m_lam6, m_lam7]
theorem LO {X : Cx} (T : Txt X.K X.mg X.base A) : LamsOk X (flv tb n) NL 8 lams := by
  intro j ps body sc mb h1 h2
  by_cases e0 : j = 0
  · subst e0
    obtain ⟨rfl, rfl, rfl⟩ := lam_inj (l := lamE (kid2 (kid2 (exS ((defBody s_law).getD 6 (.Pass ⟨0, 0, 0, 0⟩))) 0) 0)) h1
    obtain rfl : m_lam0 = mb := Option.some.inj h2
    refine ⟨lamN_by (by decide +kernel), fun pm c' ctv => rfl, fun A outer s H E f c' hr => ?_⟩
    have tk := takes_of (X := lamC X "law.<locals>.<lambda>" (flv tb n).cs NL A outer s H E (lamE (kid2 (kid2 (exS ((defBody s_law).getD 6 (.Pass ⟨0, 0, 0, 0⟩))) 0) 0)).2.2 f c') rfl rfl rfl rfl
    exact (de_call (fd_open_at T) (hr.mono (by decide)) tk rfl (da_cons (de_var (i := 2) rfl (by first | exact .inl rfl | exact .inr (.inl rfl) | exact .inr (.inr rfl))) (da_cons (de_var (i := 5) rfl (by first | exact .inl rfl | exact .inr (.inl rfl) | exact .inr (.inr rfl))) (da_cons (de_var (i := 1) rfl (by first | exact .inl rfl | exact .inr (.inl rfl) | exact .inr (.inr rfl))) da_nil))))
  by_cases e1 : j = 1
  · subst e1
    obtain ⟨rfl, rfl, rfl⟩ := lam_inj (l := lamE (kid2 (kid2 (exS ((defBody s_law).getD 7 (.Pass ⟨0, 0, 0, 0⟩))) 0) 0)) h1
    obtain rfl : m_lam1 = mb := Option.some.inj h2
    refine ⟨lamN_by (by decide +kernel), fun pm c' ctv => rfl, fun A outer s H E f c' hr => ?_⟩
    have tk := takes_of (X := lamC X "law.<locals>.<lambda>" (flv tb n).cs NL A outer s H E (lamE (kid2 (kid2 (exS ((defBody s_law).getD 7 (.Pass ⟨0, 0, 0, 0⟩))) 0) 0)).2.2 f c') rfl rfl rfl rfl
    exact (de_call (fd_open_at T) (hr.mono (by decide)) tk rfl (da_cons de_int (da_cons (de_var (i := 5) rfl (by first | exact .inl rfl | exact .inr (.inl rfl) | exact .inr (.inr rfl))) (da_cons (de_var (i := 1) rfl (by first | exact .inl rfl | exact .inr (.inl rfl) | exact .inr (.inr rfl))) da_nil))))
  by_cases e2 : j = 2
  · subst e2
    obtain ⟨rfl, rfl, rfl⟩ := lam_inj (l := lamE (kid2 (kid2 (exS ((defBody s_law).getD 8 (.Pass ⟨0, 0, 0, 0⟩))) 0) 0)) h1
    obtain rfl : m_lam2 = mb := Option.some.inj h2
    refine ⟨lamN_by (by decide +kernel), fun pm c' ctv => rfl, fun A outer s H E f c' hr => ?_⟩
    have tk := takes_of (X := lamC X "law.<locals>.<lambda>" (flv tb n).cs NL A outer s H E (lamE (kid2 (kid2 (exS ((defBody s_law).getD 8 (.Pass ⟨0, 0, 0, 0⟩))) 0) 0)).2.2 f c') rfl rfl rfl rfl
    exact (de_call (fd_open_at T) (hr.mono (by decide)) tk rfl (da_cons de_int (da_cons (de_var (i := 3) rfl (by first | exact .inl rfl | exact .inr (.inl rfl) | exact .inr (.inr rfl))) (da_cons (de_var (i := 1) rfl (by first | exact .inl rfl | exact .inr (.inl rfl) | exact .inr (.inr rfl))) da_nil))))
  by_cases e3 : j = 3
  · subst e3
    obtain ⟨rfl, rfl, rfl⟩ := lam_inj (l := lamE (kid2 (kid2 (exS ((defBody s_law).getD 9 (.Pass ⟨0, 0, 0, 0⟩))) 0) 0)) h1
    obtain rfl : m_lam3 = mb := Option.some.inj h2
    refine ⟨lamN_by (by decide +kernel), fun pm c' ctv => rfl, fun A outer s H E f c' hr => ?_⟩
    have tk := takes_of (X := lamC X "law.<locals>.<lambda>" (flv tb n).cs NL A outer s H E (lamE (kid2 (kid2 (exS ((defBody s_law).getD 9 (.Pass ⟨0, 0, 0, 0⟩))) 0) 0)).2.2 f c') rfl rfl rfl rfl
    exact (de_call (fd_open_derivatives T) (hr.mono (by decide)) tk rfl (da_cons (de_var (i := 2) rfl (by first | exact .inl rfl | exact .inr (.inl rfl) | exact .inr (.inr rfl))) (da_cons (de_var (i := 5) rfl (by first | exact .inl rfl | exact .inr (.inl rfl) | exact .inr (.inr rfl))) (da_cons (de_var (i := 4) rfl (by first | exact .inl rfl | exact .inr (.inl rfl) | exact .inr (.inr rfl))) da_nil))))
  by_cases e4 : j = 4
  · subst e4
    obtain ⟨rfl, rfl, rfl⟩ := lam_inj (l := lamE (kid2 (kid2 (exS ((defBody s_law).getD 10 (.Pass ⟨0, 0, 0, 0⟩))) 0) 0)) h1
    obtain rfl : m_lam4 = mb := Option.some.inj h2
    refine ⟨lamN_by (by decide +kernel), fun pm c' ctv => rfl, fun A outer s H E f c' hr => ?_⟩
    have tk := takes_of (X := lamC X "law.<locals>.<lambda>" (flv tb n).cs NL A outer s H E (lamE (kid2 (kid2 (exS ((defBody s_law).getD 10 (.Pass ⟨0, 0, 0, 0⟩))) 0) 0)).2.2 f c') rfl rfl rfl rfl
    exact (de_call (fd_open_derivatives T) (hr.mono (by decide)) tk rfl (da_cons de_int (da_cons (de_var (i := 5) rfl (by first | exact .inl rfl | exact .inr (.inl rfl) | exact .inr (.inr rfl))) (da_cons (de_var (i := 4) rfl (by first | exact .inl rfl | exact .inr (.inl rfl) | exact .inr (.inr rfl))) da_nil))))
  by_cases e5 : j = 5
  · subst e5
    obtain ⟨rfl, rfl, rfl⟩ := lam_inj (l := lamE (kid2 (kid2 (exS ((defBody s_law).getD 11 (.Pass ⟨0, 0, 0, 0⟩))) 0) 0)) h1
    obtain rfl : m_lam5 = mb := Option.some.inj h2
    refine ⟨lamN_by (by decide +kernel), fun pm c' ctv => rfl, fun A outer s H E f c' hr => ?_⟩
    have tk := takes_of (X := lamC X "law.<locals>.<lambda>" (flv tb n).cs NL A outer s H E (lamE (kid2 (kid2 (exS ((defBody s_law).getD 11 (.Pass ⟨0, 0, 0, 0⟩))) 0) 0)).2.2 f c') rfl rfl rfl rfl
    exact (de_call (fd_open_derivatives T) (hr.mono (by decide)) tk rfl (da_cons de_int (da_cons (de_var (i := 3) rfl (by first | exact .inl rfl | exact .inr (.inl rfl) | exact .inr (.inr rfl))) (da_cons (de_var (i := 4) rfl (by first | exact .inl rfl | exact .inr (.inl rfl) | exact .inr (.inr rfl))) da_nil))))
  by_cases e6 : j = 6
  · subst e6
    obtain ⟨rfl, rfl, rfl⟩ := lam_inj (l := lamE (kid2 (kid2 (exS ((defBody s_law).getD 12 (.Pass ⟨0, 0, 0, 0⟩))) 0) 0)) h1
    obtain rfl : m_lam6 = mb := Option.some.inj h2
    refine ⟨lamN_by (by decide +kernel), fun pm c' ctv => rfl, fun A outer s H E f c' hr => ?_⟩
    have tk := takes_of (X := lamC X "law.<locals>.<lambda>" (flv tb n).cs NL A outer s H E (lamE (kid2 (kid2 (exS ((defBody s_law).getD 12 (.Pass ⟨0, 0, 0, 0⟩))) 0) 0)).2.2 f c') rfl rfl rfl rfl
    exact (de_call (fd_least_corners T) (hr.mono (by decide)) tk rfl (da_cons (de_var (i := 2) rfl (by first | exact .inl rfl | exact .inr (.inl rfl) | exact .inr (.inr rfl))) (da_cons (de_var (i := 0) rfl (by first | exact .inl rfl | exact .inr (.inl rfl) | exact .inr (.inr rfl))) da_nil)))
  by_cases e7 : j = 7
  · subst e7
    obtain ⟨rfl, rfl, rfl⟩ := lam_inj (l := lamE (kid2 (kid2 (exS ((defBody s_law).getD 13 (.Pass ⟨0, 0, 0, 0⟩))) 0) 0)) h1
    obtain rfl : m_lam7 = mb := Option.some.inj h2
    refine ⟨lamN_by (by decide +kernel), fun pm c' ctv => rfl, fun A outer s H E f c' hr => ?_⟩
    have tk := takes_of (X := lamC X "law.<locals>.<lambda>" (flv tb n).cs NL A outer s H E (lamE (kid2 (kid2 (exS ((defBody s_law).getD 13 (.Pass ⟨0, 0, 0, 0⟩))) 0) 0)).2.2 f c') rfl rfl rfl rfl
    exact (de_call (fd_least_corners T) (hr.mono (by decide)) tk rfl (da_cons de_int (da_cons (de_var (i := 0) rfl (by first | exact .inl rfl | exact .inr (.inl rfl) | exact .inr (.inr rfl))) da_nil)))
  exact absurd h1 (lam_end (l := LM) rfl (by omega : 8 ≤ j))
theorem fn__law_pen (T : Txt K mg base A) : FnG P w K mg base 1 A.a__law_pen A.d__law_pen ["script"] (spD ⟨K, mg, flv tb n⟩ 1 m__law_pen) :=
 fnok_of T.F__law_pen sc__law_pen fun cdv A outer s H E hr => by
  have sc := sc__law_pen
  exact (dss_cons (ds_set (i := 1) sc.nd rfl (by first | exact .inl rfl | exact .inr rfl) de_int)
 (dss_cons (ds_for PassesOwn.leaving rfl (di_scr (de_var (i := 0) rfl (by first | exact .inl rfl | exact .inr (.inl rfl) | exact .inr (.inr rfl)))) (dg_name (vs := [2]) (i := 2) sc.nd rfl (by first | exact .inl rfl | exact .inr rfl) (by decide))
 (dss_one (ds_set (i := 1) sc.nd rfl (by first | exact .inl rfl | exact .inr rfl) (de_op op_modN v_mod (de_ty call_int1 v_int1 rfl T.z_int bb_int (da_cons (de_op op_plus v_plus (de_op op_mul v_mul (de_var (i := 1) rfl (by first | exact .inl rfl | exact .inr (.inl rfl) | exact .inr (.inr rfl))) de_int) (de_var (i := 2) rfl (by first | exact .inl rfl | exact .inr (.inl rfl) | exact .inr (.inr rfl)))) da_nil)) de_int))))
 (dss_one (ds_ret (de_disp (.cons (de_ty call_list_of v_listS rfl T.z_list bb_list (da_cons (de_var (i := 0) rfl (by first | exact .inl rfl | exact .inr (.inl rfl) | exact .inr (.inr rfl))) da_nil)) (.cons de_int (.cons de_int (.cons de_int (.cons (de_var (i := 1) rfl (by first | exact .inl rfl | exact .inr (.inl rfl) | exact .inr (.inr rfl))) .nil))))) (fun z => by cases z) (by show (_ : Nat) ≤ _; decide))))))
theorem fd__law_pen (T : Txt K mg base A) : Fd P w K mg base (flv tb n) 1 "_law_pen" 1 m__law_pen := ⟨⟨_, _, _, fn__law_pen T, T.g__law_pen, T.F__law_pen.kp, T.b__law_pen⟩⟩
theorem fn__law_draw (T : Txt K mg base A) : FnG P w K mg base 1 A.a__law_draw A.d__law_draw ["pen", "many"] (spD ⟨K, mg, flv tb n⟩ 2 m__law_draw) :=
 fnok_of T.F__law_draw sc__law_draw fun cdv A outer s H E hr => by
  have sc := sc__law_draw
  exact (dss_cons (ds_dput hr (de_var (i := 0) rfl (by first | exact .inl rfl | exact .inr (.inl rfl) | exact .inr (.inr rfl))) de_str (de_op op_plus v_plus (de_dget hr (de_var (i := 0) rfl (by first | exact .inl rfl | exact .inr (.inl rfl) | exact .inr (.inr rfl))) de_str (fun _ _ => rfl)) de_int) (by rfl))
 (dss_cons (ds_if (dt_w (dw_and (dt_cmp (op_eqD hr T.sys) v_eqD (de_dget hr (de_var (i := 0) rfl (by first | exact .inl rfl | exact .inr (.inl rfl) | exact .inr (.inr rfl))) de_str (fun _ _ => rfl)) de_int rfl) (dw_and1 (dt_cmp op_lt v_cmp (de_dget hr (de_var (i := 0) rfl (by first | exact .inl rfl | exact .inr (.inl rfl) | exact .inr (.inr rfl))) de_str (fun _ _ => rfl)) (de_b call_lenA v_len rfl T.z_len bb_len (da_cons (de_dget hr (de_var (i := 0) rfl (by first | exact .inl rfl | exact .inr (.inl rfl) | exact .inr (.inr rfl))) de_str (fun _ _ => rfl)) da_nil)) rfl))))
 (dss_cons (ds_set (i := 2) sc.nd rfl (by first | exact .inl rfl | exact .inr rfl) (de_item (de_dget hr (de_var (i := 0) rfl (by first | exact .inl rfl | exact .inr (.inl rfl) | exact .inr (.inr rfl))) de_str (fun _ _ => rfl)) (de_dget hr (de_var (i := 0) rfl (by first | exact .inl rfl | exact .inr (.inl rfl) | exact .inr (.inr rfl))) de_str (fun _ _ => rfl)) (fun _ _ => rfl)))
 (dss_cons (ds_dput hr (de_var (i := 0) rfl (by first | exact .inl rfl | exact .inr (.inl rfl) | exact .inr (.inr rfl))) de_str (de_op op_plus v_plus (de_dget hr (de_var (i := 0) rfl (by first | exact .inl rfl | exact .inr (.inl rfl) | exact .inr (.inr rfl))) de_str (fun _ _ => rfl)) de_int) (by rfl))
 (dss_one (ds_if (dt_cmp op_ge v_cmp (de_var (i := 2) rfl (by first | exact .inl rfl | exact .inr (.inl rfl) | exact .inr (.inr rfl))) (de_op op_pow v_pow de_int de_int) rfl)
 (dss_one (ds_dput hr (de_var (i := 0) rfl (by first | exact .inl rfl | exact .inr (.inl rfl) | exact .inr (.inr rfl))) de_str (de_op op_sub v_sub (de_var (i := 2) rfl (by first | exact .inl rfl | exact .inr (.inl rfl) | exact .inr (.inr rfl))) (de_op op_pow v_pow de_int de_int)) (by rfl)))
 (dss_one (ds_dput hr (de_var (i := 0) rfl (by first | exact .inl rfl | exact .inr (.inl rfl) | exact .inr (.inr rfl))) de_str (de_op op_modN v_mod (de_ty call_int1 v_int1 rfl T.z_int bb_int (da_cons (de_op op_plus v_plus (de_op op_mul v_mul (de_dget hr (de_var (i := 0) rfl (by first | exact .inl rfl | exact .inr (.inl rfl) | exact .inr (.inr rfl))) de_str (fun _ _ => rfl)) de_int) (de_var (i := 2) rfl (by first | exact .inl rfl | exact .inr (.inl rfl) | exact .inr (.inr rfl)))) da_nil)) de_int) (by rfl)))))))
 dss_nil)
 (dss_cons (ds_if (dt_cmp op_gt v_cmp (de_dget hr (de_var (i := 0) rfl (by first | exact .inl rfl | exact .inr (.inl rfl) | exact .inr (.inr rfl))) de_str (fun _ _ => rfl)) de_int rfl)
 (dss_cons (ds_set (i := 3) sc.nd rfl (by first | exact .inl rfl | exact .inr rfl) (de_op op_modN v_mod (de_ty call_int1 v_int1 rfl T.z_int bb_int (da_cons (de_dget hr (de_var (i := 0) rfl (by first | exact .inl rfl | exact .inr (.inl rfl) | exact .inr (.inr rfl))) de_str (fun _ _ => rfl)) da_nil)) (de_var (i := 1) rfl (by first | exact .inl rfl | exact .inr (.inl rfl) | exact .inr (.inr rfl)))))
 (dss_cons (ds_dput hr (de_var (i := 0) rfl (by first | exact .inl rfl | exact .inr (.inl rfl) | exact .inr (.inr rfl))) de_str (de_op op_fdivN v_fdiv (de_dget hr (de_var (i := 0) rfl (by first | exact .inl rfl | exact .inr (.inl rfl) | exact .inr (.inr rfl))) de_str (fun _ _ => rfl)) (de_var (i := 1) rfl (by first | exact .inl rfl | exact .inr (.inl rfl) | exact .inr (.inr rfl)))) (by rfl))
 (dss_one (ds_ret (de_var (i := 3) rfl (by first | exact .inl rfl | exact .inr (.inl rfl) | exact .inr (.inr rfl)))))))
 dss_nil)
 (dss_cons (ds_set (i := 4) sc.nd rfl (by first | exact .inl rfl | exact .inr rfl) (de_op op_plus v_plus (de_op op_plus v_plus (de_dget hr (de_var (i := 0) rfl (by first | exact .inl rfl | exact .inr (.inl rfl) | exact .inr (.inr rfl))) de_str (fun _ _ => rfl)) (de_op op_mul v_mul (de_dget hr (de_var (i := 0) rfl (by first | exact .inl rfl | exact .inr (.inl rfl) | exact .inr (.inr rfl))) de_str (fun _ _ => rfl)) de_int)) de_int))
 (dss_one (ds_ret (de_op op_modN v_mod (de_op op_fdivN v_fdiv (de_ty call_int1 v_int1 rfl T.z_int bb_int (da_cons (de_op op_modN v_mod (de_op op_pow v_pow (de_var (i := 4) rfl (by first | exact .inl rfl | exact .inr (.inl rfl) | exact .inr (.inr rfl))) de_int) de_int) da_nil)) de_int) (de_var (i := 1) rfl (by first | exact .inl rfl | exact .inr (.inl rfl) | exact .inr (.inr rfl))))))))))
theorem fd__law_draw (T : Txt K mg base A) : Fd P w K mg base (flv tb n) 1 "_law_draw" 2 m__law_draw := ⟨⟨_, _, _, fn__law_draw T, T.g__law_draw, T.F__law_draw.kp, T.b__law_draw⟩⟩
theorem fn__law_pick (T : Txt K mg base A) : FnG P w K mg base 2 A.a__law_pick A.d__law_pick ["pen", "some"] (spD ⟨K, mg, flv tb n⟩ 2 m__law_pick) :=
 fnok_of T.F__law_pick sc__law_pick fun cdv A outer s H E hr => by
  have sc := sc__law_pick
  exact (dss_one (ds_ret (de_item (de_var (i := 1) rfl (by first | exact .inl rfl | exact .inr (.inl rfl) | exact .inr (.inr rfl))) (de_call (fd__law_draw T) (hr.mono (by decide)) (takes_of rfl rfl rfl rfl) rfl (da_cons (de_var (i := 0) rfl (by first | exact .inl rfl | exact .inr (.inl rfl) | exact .inr (.inr rfl))) (da_cons (de_b call_lenA v_len rfl T.z_len bb_len (da_cons (de_var (i := 1) rfl (by first | exact .inl rfl | exact .inr (.inl rfl) | exact .inr (.inr rfl))) da_nil)) da_nil))) (fun _ _ => rfl))))
theorem fd__law_pick (T : Txt K mg base A) : Fd P w K mg base (flv tb n) 2 "_law_pick" 2 m__law_pick := ⟨⟨_, _, _, fn__law_pick T, T.g__law_pick, T.F__law_pick.kp, T.b__law_pick⟩⟩
noncomputable def b__law_passed (m__law_pick : List D → M D) : List D → M D := fn 2
 (sRet (eCall 2 m__law_pick (aCons (eVar 0) (aCons (eLst (aCons (eN fTuple (aCons (eVar 1) aNil)) (aCons (eN fList (aCons (eVar 1) aNil)) aNil))) aNil))))
noncomputable def m__law_passed : List D → M D := b__law_passed m__law_pick
theorem fn__law_passed (T : Txt K mg base A) : FnG P w K mg base 3 A.a__law_passed A.d__law_passed ["pen", "row"] (spD ⟨K, mg, flv tb n⟩ 2 m__law_passed) :=
 fnok_of T.F__law_passed sc__law_passed fun cdv A outer s H E hr => by
  have sc := sc__law_passed
  exact (dss_one (ds_ret (de_call (fd__law_pick T) (hr.mono (by decide)) (takes_of rfl rfl rfl rfl) rfl (da_cons (de_var (i := 0) rfl (by first | exact .inl rfl | exact .inr (.inl rfl) | exact .inr (.inr rfl))) (da_cons (de_lst (da_cons (de_ty call_tuple_of v_tuple rfl T.z_tuple bb_tuple (da_cons (de_var (i := 1) rfl (by first | exact .inl rfl | exact .inr (.inl rfl) | exact .inr (.inr rfl))) da_nil)) (da_cons (de_ty call_list_of v_list rfl T.z_list bb_list (da_cons (de_var (i := 1) rfl (by first | exact .inl rfl | exact .inr (.inl rfl) | exact .inr (.inr rfl))) da_nil)) da_nil))) da_nil)))))
theorem fd__law_passed (T : Txt K mg base A) : Fd P w K mg base (flv tb n) 3 "_law_passed" 2 m__law_passed := ⟨⟨_, _, _, fn__law_passed T, T.g__law_passed, T.F__law_passed.kp, T.b__law_passed⟩⟩
noncomputable def b__law_all_counts : List D → M D := fn 7
 (sSeq (sSet 2 (eLst (aCons (eTup aNil) aNil)))
 (sSeq (sFor (itRange1 (eVar 0)) (gSet 3)
 (sSeq (sSet 4 (eLst aNil))
 (sSeq (sFor (itSeq (eVar 2)) (gSet 5)
 (sSet 4 (e2 fPlus (eVar 4) (eComp [6] (itRange1 (e2 fSub (e2 fPlus (eVar 1) (eC (.int 1))) (eN fSum (aCons (eVar 5) aNil)))) (gSet 6) tYesM (e2 fPlus (eVar 5) (eTup (aCons (eVar 6) aNil)))))))
 (sSet 2 (eVar 4)))))
 (sRet (eVar 2))))
noncomputable def m__law_all_counts : List D → M D := b__law_all_counts
theorem fn__law_all_counts (T : Txt K mg base A) : FnG P w K mg base 1 A.a__law_all_counts A.d__law_all_counts ["letters", "order"] (spD ⟨K, mg, flv tb n⟩ 2 m__law_all_counts) :=
 fnok_of T.F__law_all_counts sc__law_all_counts fun cdv A outer s H E hr => by
  have sc := sc__law_all_counts
  exact (dss_cons (ds_set (i := 2) sc.nd rfl (by first | exact .inl rfl | exact .inr rfl) (de_lst (da_cons (de_tup da_nil) da_nil)))
 (dss_cons (ds_for PassesOwn.leaving rfl (di_range1 rfl T.z_range (de_var (i := 0) rfl (by first | exact .inl rfl | exact .inr (.inl rfl) | exact .inr (.inr rfl)))) (dg_name (vs := [3]) (i := 3) sc.nd rfl (by first | exact .inl rfl | exact .inr rfl) (by decide))
 (dss_cons (ds_set (i := 4) sc.nd rfl (by first | exact .inl rfl | exact .inr rfl) (de_lst da_nil))
 (dss_cons (ds_for PassesOwn.leaving rfl (di_seq (de_var (i := 2) rfl (by first | exact .inl rfl | exact .inr (.inl rfl) | exact .inr (.inr rfl)))) (dg_name (vs := [5]) (i := 5) sc.nd rfl (by first | exact .inl rfl | exact .inr rfl) (by decide))
 (dss_one (ds_set (i := 4) sc.nd rfl (by first | exact .inl rfl | exact .inr rfl) (de_op op_plus v_plus (de_var (i := 4) rfl (by first | exact .inl rfl | exact .inr (.inl rfl) | exact .inr (.inr rfl))) (de_lc rfl sc.nd (di_range1 rfl T.z_range (de_op op_sub v_sub (de_op op_plus v_plus (de_var (i := 1) rfl (by first | exact .inl rfl | exact .inr (.inl rfl) | exact .inr (.inr rfl))) de_int) (de_b (cr_sumA rfl) v_sum rfl T.z_sum bb_sum (da_cons (de_var (i := 5) rfl (by first | exact .inl rfl | exact .inr (.inl rfl) | exact .inr (.inr rfl))) da_nil)))) (blkOk_by (own := [("many", 6)]) rfl) rfl (fun _ _ _ _ _ => (dg_name (vs := [6]) (i := 6) sc.nd rfl (by first | exact .inl rfl | exact .inr rfl) (by decide))) (fun _ _ _ _ _ => dts_nil) (fun _ _ _ _ _ => (de_op op_plus v_plus (de_var (i := 5) rfl (by first | exact .inl rfl | exact .inr (.inl rfl) | exact .inr (.inr rfl))) (de_tup (da_cons (de_var (i := 6) rfl (by first | exact .inl rfl | exact .inr (.inl rfl) | exact .inr (.inr rfl))) da_nil)))))))))
 (dss_one (ds_set (i := 2) sc.nd rfl (by first | exact .inl rfl | exact .inr rfl) (de_var (i := 4) rfl (by first | exact .inl rfl | exact .inr (.inl rfl) | exact .inr (.inr rfl))))))))
 (dss_one (ds_ret (de_var (i := 2) rfl (by first | exact .inl rfl | exact .inr (.inl rfl) | exact .inr (.inr rfl)))))))
theorem fd__law_all_counts (T : Txt K mg base A) : Fd P w K mg base (flv tb n) 1 "_law_all_counts" 2 m__law_all_counts := ⟨⟨_, _, _, fn__law_all_counts T, T.g__law_all_counts, T.F__law_all_counts.kp, T.b__law_all_counts⟩⟩
noncomputable def b__law_fault (lams : List EM) : List D → M D := fn 2
 (sSeq (sTryF flT 1 (eCallV 0 lams) [⟨"BadForm", "form", ["value"]⟩, ⟨"BadNumber", "number", ["what", "number"]⟩, ⟨"BadOp", "op", ["value"]⟩, ⟨"BadPoly", "poly", ["value"]⟩, ⟨"BadRow", "row", ["row"]⟩, ⟨"BadTable", "table", ["table"]⟩, ⟨"BadText", "text", ["line", "column"]⟩, ⟨"TooMany", "many", ["what", "many", "limit"]⟩, ⟨"Unlike", "unlike", ["what"]⟩])
 (sRet (eC .non)))
noncomputable def m__law_fault : List D → M D := b__law_fault lams
theorem fn__law_fault (T : Txt K mg base A) : FnG P w K mg base 10 A.a__law_fault A.d__law_fault ["work"] (spD ⟨K, mg, flv tb n⟩ 1 m__law_fault) :=
 fnok_of T.F__law_fault sc__law_fault fun cdv A outer s H E hr => by
  have sc := sc__law_fault
  exact (dss_cons (ds_tryF (i := 1) (n := "fault") rfl rfl sc.nd rfl rfl (takes_of rfl rfl rfl rfl) (.inl rfl) (ftab_of T.ft) (.cons rfl T.g_BadForm (.cons .nil) (.cons rfl T.g_BadNumber (.cons (.cons .nil)) (.cons rfl T.g_BadOp (.cons .nil) (.cons rfl T.g_BadPoly (.cons .nil) (.cons rfl T.g_BadRow (.cons .nil) (.cons rfl T.g_BadTable (.cons .nil) (.cons rfl T.g_BadText (.cons (.cons .nil)) (.cons rfl T.g_TooMany (.cons (.cons (.cons .nil))) (.cons rfl T.g_Unlike (.cons .nil) .nil))))))))) (fun W pn xe tk ps => (de_callV (i := 0) (a := "work") tk hr FO (LO T) rfl (.inl rfl))))
 (dss_one (ds_ret de_non)))
theorem fd__law_fault (T : Txt K mg base A) : Fd P w K mg base (flv tb n) 10 "_law_fault" 1 m__law_fault := ⟨⟨_, _, _, fn__law_fault T, T.g__law_fault, T.F__law_fault.kp, T.b__law_fault⟩⟩
noncomputable def b__law_are_due (m__law_fault : List D → M D) : List D → M D := fn 3
 (sRet (eN fAll (aCons (eComp [1, 2] (itSeq (eVar 0)) (gTupD 2 (gsCons (gSet 1) (gsCons (gSet 2) gsNil))) tYesM (e2 fEqD (eN fRepr (aCons (eCall 1 m__law_fault (aCons (eVar 1) aNil)) aNil)) (eN fRepr (aCons (eVar 2) aNil)))) aNil)))
noncomputable def m__law_are_due : List D → M D := b__law_are_due m__law_fault
theorem fn__law_are_due (T : Txt K mg base A) : FnG P w K mg base 11 A.a__law_are_due A.d__law_are_due ["tries"] (spD ⟨K, mg, flv tb n⟩ 1 m__law_are_due) :=
 fnok_of T.F__law_are_due sc__law_are_due fun cdv A outer s H E hr => by
  have sc := sc__law_are_due
  exact (dss_one (ds_ret (de_b (cr_all rfl) v_all rfl T.z_all bb_all (da_cons (de_lc rfl sc.nd (di_seq (de_var (i := 0) rfl (by first | exact .inl rfl | exact .inr (.inl rfl) | exact .inr (.inr rfl)))) (blkOk_by (own := [("work", 1), ("due", 2)]) rfl) rfl (fun _ _ _ _ _ => (dg_tup (n := 2) rfl (dgs_cons (dg_name (vs := [1, 2]) (i := 1) sc.nd rfl (by first | exact .inl rfl | exact .inr rfl) (by decide)) (dgs_cons (dg_name (vs := [1, 2]) (i := 2) sc.nd rfl (by first | exact .inl rfl | exact .inr rfl) (by decide)) dgs_nil)))) (fun _ _ _ _ _ => dts_nil) (fun _ _ _ _ _ => (de_cmp (op_eqD hr T.sys) v_eqD (de_b (call_repr hr T.sys) v_repr rfl T.z_repr bb_repr (da_cons (de_call (fd__law_fault T) (hr.mono (by decide)) takes0 rfl (da_cons (de_var (i := 1) rfl (by first | exact .inl rfl | exact .inr (.inl rfl) | exact .inr (.inr rfl))) da_nil)) da_nil)) (de_b (call_repr hr T.sys) v_repr rfl T.z_repr bb_repr (da_cons (de_var (i := 2) rfl (by first | exact .inl rfl | exact .inr (.inl rfl) | exact .inr (.inr rfl))) da_nil)) rfl))) da_nil))))
theorem fd__law_are_due (T : Txt K mg base A) : Fd P w K mg base (flv tb n) 11 "_law_are_due" 1 m__law_are_due := ⟨⟨_, _, _, fn__law_are_due T, T.g__law_are_due, T.F__law_are_due.kp, T.b__law_are_due⟩⟩
noncomputable def b__law_is_under : List D → M D := fn 4
 (sRet (eAnd (e2 fEqD (e2 fItem (eVar 0) (eC (.int 0))) (e2 fItem (eVar 1) (eC (.int 0)))) (eN fAll (aCons (eComp [2, 3] (itZip (aCons (e2 fItem (eVar 0) (eC (.int 1))) (aCons (e2 fItem (eVar 1) (eC (.int 1))) aNil))) (gTupD 2 (gsCons (gSet 2) (gsCons (gSet 3) gsNil))) tYesM (e2 (fCmp fun i j => decide (i ≤ j)) (eVar 2) (eVar 3))) aNil))))
noncomputable def m__law_is_under : List D → M D := b__law_is_under
theorem fn__law_is_under (T : Txt K mg base A) : FnG P w K mg base 1 A.a__law_is_under A.d__law_is_under ["one", "other"] (spD ⟨K, mg, flv tb n⟩ 2 m__law_is_under) :=
 fnok_of T.F__law_is_under sc__law_is_under fun cdv A outer s H E hr => by
  have sc := sc__law_is_under
  exact (dss_one (ds_ret (de_and (de_cmp (op_eqD hr T.sys) v_eqD (de_item (de_var (i := 0) rfl (by first | exact .inl rfl | exact .inr (.inl rfl) | exact .inr (.inr rfl))) de_int (fun _ _ => rfl)) (de_item (de_var (i := 1) rfl (by first | exact .inl rfl | exact .inr (.inl rfl) | exact .inr (.inr rfl))) de_int (fun _ _ => rfl)) rfl) (de_one (de_b (cr_all rfl) v_all rfl T.z_all bb_all (da_cons (de_lc rfl sc.nd (di_zip rfl T.z_zip (da_cons (de_item (de_var (i := 0) rfl (by first | exact .inl rfl | exact .inr (.inl rfl) | exact .inr (.inr rfl))) de_int (fun _ _ => rfl)) (da_cons (de_item (de_var (i := 1) rfl (by first | exact .inl rfl | exact .inr (.inl rfl) | exact .inr (.inr rfl))) de_int (fun _ _ => rfl)) da_nil))) (blkOk_by (own := [("a", 2), ("b", 3)]) rfl) rfl (fun _ _ _ _ _ => (dg_tup (n := 2) rfl (dgs_cons (dg_name (vs := [2, 3]) (i := 2) sc.nd rfl (by first | exact .inl rfl | exact .inr rfl) (by decide)) (dgs_cons (dg_name (vs := [2, 3]) (i := 3) sc.nd rfl (by first | exact .inl rfl | exact .inr rfl) (by decide)) dgs_nil)))) (fun _ _ _ _ _ => dts_nil) (fun _ _ _ _ _ => (de_cmp op_le v_cmp (de_var (i := 2) rfl (by first | exact .inl rfl | exact .inr (.inl rfl) | exact .inr (.inr rfl))) (de_var (i := 3) rfl (by first | exact .inl rfl | exact .inr (.inl rfl) | exact .inr (.inr rfl))) rfl))) da_nil))))))
theorem fd__law_is_under (T : Txt K mg base A) : Fd P w K mg base (flv tb n) 1 "_law_is_under" 2 m__law_is_under := ⟨⟨_, _, _, fn__law_is_under T, T.g__law_is_under, T.F__law_is_under.kp, T.b__law_is_under⟩⟩
noncomputable def b__law_is_open (m__law_is_under : List D → M D) : List D → M D := fn 3
 (sRet (eNot (eN fAny (aCons (eComp [2] (itSeq (eVar 0)) (gSet 2) tYesM (eCall 2 m__law_is_under (aCons (eVar 2) (aCons (eVar 1) aNil)))) aNil))))
noncomputable def m__law_is_open : List D → M D := b__law_is_open m__law_is_under
theorem fn__law_is_open (T : Txt K mg base A) : FnG P w K mg base 2 A.a__law_is_open A.d__law_is_open ["heads", "derivative"] (spD ⟨K, mg, flv tb n⟩ 2 m__law_is_open) :=
 fnok_of T.F__law_is_open sc__law_is_open fun cdv A outer s H E hr => by
  have sc := sc__law_is_open
  exact (dss_one (ds_ret (de_not (de_b (cr_any rfl) v_any rfl T.z_any bb_any (da_cons (de_lc rfl sc.nd (di_seq (de_var (i := 0) rfl (by first | exact .inl rfl | exact .inr (.inl rfl) | exact .inr (.inr rfl)))) (blkOk_by (own := [("head", 2)]) rfl) rfl (fun _ _ _ _ _ => (dg_name (vs := [2]) (i := 2) sc.nd rfl (by first | exact .inl rfl | exact .inr rfl) (by decide))) (fun _ _ _ _ _ => dts_nil) (fun _ _ _ _ _ => (de_call (fd__law_is_under T) (hr.mono (by decide)) takes0 rfl (da_cons (de_var (i := 2) rfl (by first | exact .inl rfl | exact .inr (.inl rfl) | exact .inr (.inr rfl))) (da_cons (de_var (i := 1) rfl (by first | exact .inl rfl | exact .inr (.inl rfl) | exact .inr (.inr rfl))) da_nil))))) da_nil)))))
theorem fd__law_is_open (T : Txt K mg base A) : Fd P w K mg base (flv tb n) 2 "_law_is_open" 2 m__law_is_open := ⟨⟨_, _, _, fn__law_is_open T, T.g__law_is_open, T.F__law_is_open.kp, T.b__law_is_open⟩⟩
noncomputable def b__law_antichain (m__law_draw : List D → M D) : List D → M D := fn 11
 (sSeq (sSet 4 (eComp [5] (itRange1 (eCall 2 m__law_draw (aCons (eVar 0) (aCons (e2 fPlus (eVar 3) (eC (.int 1))) aNil)))) (gSet 5) tYesM (eN fTuple (aCons (eComp [6] (itRange1 (eVar 1)) (gSet 6) tYesM (eCall 2 m__law_draw (aCons (eVar 0) (aCons (e2 fPlus (eVar 2) (eC (.int 1))) aNil)))) aNil))))
 (sSeq (sSet 4 (e1 fSortS (eVar 4)))
 (sRet (eN fTuple (aCons (eComp [7] (itSeq (eVar 4)) (gSet 7) (tNotM (tOf (eN fAny (aCons (eComp [8] (itSeq (eVar 4)) (gSet 8) tYesM (eAnd (e2 fNe (eVar 7) (eVar 8)) (eN fAll (aCons (eComp [9, 10] (itZip (aCons (eVar 7) (aCons (eVar 8) aNil))) (gTupD 2 (gsCons (gSet 9) (gsCons (gSet 10) gsNil))) tYesM (e2 (fCmp fun i j => decide (j ≤ i)) (eVar 9) (eVar 10))) aNil)))) aNil)))) (eVar 7)) aNil)))))
noncomputable def m__law_antichain : List D → M D := b__law_antichain m__law_draw
theorem fn__law_antichain (T : Txt K mg base A) : FnG P w K mg base 2 A.a__law_antichain A.d__law_antichain ["pen", "letters", "most", "many"] (spD ⟨K, mg, flv tb n⟩ 4 m__law_antichain) :=
 fnok_of T.F__law_antichain sc__law_antichain fun cdv A outer s H E hr => by
  have sc := sc__law_antichain
  exact (dss_cons (ds_set (i := 4) sc.nd rfl (by first | exact .inl rfl | exact .inr rfl) (de_lc rfl sc.nd (di_range1 rfl T.z_range (de_call (fd__law_draw T) (hr.mono (by decide)) (takes_of rfl rfl rfl rfl) rfl (da_cons (de_var (i := 0) rfl (by first | exact .inl rfl | exact .inr (.inl rfl) | exact .inr (.inr rfl))) (da_cons (de_op op_plus v_plus (de_var (i := 3) rfl (by first | exact .inl rfl | exact .inr (.inl rfl) | exact .inr (.inr rfl))) de_int) da_nil)))) (blkOk_by (own := [("n", 5)]) rfl) rfl (fun _ _ _ _ _ => (dg_name (vs := [5]) (i := 5) sc.nd rfl (by first | exact .inl rfl | exact .inr rfl) (by decide))) (fun _ _ _ _ _ => dts_nil) (fun _ _ _ _ _ => (de_ty call_tuple_of v_tuple rfl T.z_tuple bb_tuple (da_cons (de_lc rfl sc.nd (di_range1 rfl T.z_range (de_var (i := 1) rfl (by first | exact .inl rfl | exact .inr (.inl rfl) | exact .inr (.inr rfl)))) (blkOk_by (own := [("k", 6)]) rfl) rfl (fun _ _ _ _ _ => (dg_name (vs := [6]) (i := 6) sc.nd rfl (by first | exact .inl rfl | exact .inr rfl) (by decide))) (fun _ _ _ _ _ => dts_nil) (fun _ _ _ _ _ => (de_call (fd__law_draw T) (hr.mono (by decide)) takes0 rfl (da_cons (de_var (i := 0) rfl (by first | exact .inl rfl | exact .inr (.inl rfl) | exact .inr (.inr rfl))) (da_cons (de_op op_plus v_plus (de_var (i := 2) rfl (by first | exact .inl rfl | exact .inr (.inl rfl) | exact .inr (.inr rfl))) de_int) da_nil))))) da_nil)))))
 (dss_cons (ds_set (i := 4) sc.nd rfl (by first | exact .inl rfl | exact .inr rfl) (de_sortSet hr rfl rfl T.z_sorted rfl T.z_set (de_var (i := 4) rfl (by first | exact .inl rfl | exact .inr (.inl rfl) | exact .inr (.inr rfl)))))
 (dss_one (ds_ret (de_ty call_tuple_of v_tuple rfl T.z_tuple bb_tuple (da_cons (de_lc rfl sc.nd (di_seq (de_var (i := 4) rfl (by first | exact .inl rfl | exact .inr (.inl rfl) | exact .inr (.inr rfl)))) (blkOk_by (own := [("one", 7)]) rfl) rfl (fun _ _ _ _ _ => (dg_name (vs := [7]) (i := 7) sc.nd rfl (by first | exact .inl rfl | exact .inr rfl) (by decide))) (fun _ _ _ _ _ => (dts_one (dt_not (dt_val (de_b (cr_any rfl) v_any rfl T.z_any bb_any (da_cons (de_lc rfl sc.nd (di_seq (de_var (i := 4) rfl (by first | exact .inl rfl | exact .inr (.inl rfl) | exact .inr (.inr rfl)))) (blkOk_by (own := [("other", 8)]) rfl) rfl (fun _ _ _ _ _ => (dg_name (vs := [8]) (i := 8) sc.nd rfl (by first | exact .inl rfl | exact .inr rfl) (by decide))) (fun _ _ _ _ _ => dts_nil) (fun _ _ _ _ _ => (de_and (de_cmp (op_neA hr T.sys) v_ne (de_var (i := 7) rfl (by first | exact .inl rfl | exact .inr (.inl rfl) | exact .inr (.inr rfl))) (de_var (i := 8) rfl (by first | exact .inl rfl | exact .inr (.inl rfl) | exact .inr (.inr rfl))) rfl) (de_one (de_b (cr_all rfl) v_all rfl T.z_all bb_all (da_cons (de_lc rfl sc.nd (di_zip rfl T.z_zip (da_cons (de_var (i := 7) rfl (by first | exact .inl rfl | exact .inr (.inl rfl) | exact .inr (.inr rfl))) (da_cons (de_var (i := 8) rfl (by first | exact .inl rfl | exact .inr (.inl rfl) | exact .inr (.inr rfl))) da_nil))) (blkOk_by (own := [("a", 9), ("b", 10)]) rfl) rfl (fun _ _ _ _ _ => (dg_tup (n := 2) rfl (dgs_cons (dg_name (vs := [9, 10]) (i := 9) sc.nd rfl (by first | exact .inl rfl | exact .inr rfl) (by decide)) (dgs_cons (dg_name (vs := [9, 10]) (i := 10) sc.nd rfl (by first | exact .inl rfl | exact .inr rfl) (by decide)) dgs_nil)))) (fun _ _ _ _ _ => dts_nil) (fun _ _ _ _ _ => (de_cmp op_ge v_cmp (de_var (i := 9) rfl (by first | exact .inl rfl | exact .inr (.inl rfl) | exact .inr (.inr rfl))) (de_var (i := 10) rfl (by first | exact .inl rfl | exact .inr (.inl rfl) | exact .inr (.inr rfl))) rfl))) da_nil)))))) da_nil)))))) (fun _ _ _ _ _ => (de_var (i := 7) rfl (by first | exact .inl rfl | exact .inr (.inl rfl) | exact .inr (.inr rfl))))) da_nil))))))
theorem fd__law_antichain (T : Txt K mg base A) : Fd P w K mg base (flv tb n) 2 "_law_antichain" 4 m__law_antichain := ⟨⟨_, _, _, fn__law_antichain T, T.g__law_antichain, T.F__law_antichain.kp, T.b__law_antichain⟩⟩
noncomputable def b__law_corners (m__law_draw : List D → M D) (m__law_antichain : List D → M D) : List D → M D := fn 5
 (sRet (eN fTuple (aCons (eComp [4] (itRange1 (e2 fPlus (eC (.int 1)) (eCall 2 m__law_draw (aCons (eVar 0) (aCons (eC (.int 3)) aNil))))) (gSet 4) tYesM (eCall 4 m__law_antichain (aCons (eVar 0) (aCons (eVar 1) (aCons (eVar 2) (aCons (eVar 3) aNil)))))) aNil)))
noncomputable def m__law_corners : List D → M D := b__law_corners m__law_draw m__law_antichain
theorem fn__law_corners (T : Txt K mg base A) : FnG P w K mg base 3 A.a__law_corners A.d__law_corners ["pen", "letters", "most", "many"] (spD ⟨K, mg, flv tb n⟩ 4 m__law_corners) :=
 fnok_of T.F__law_corners sc__law_corners fun cdv A outer s H E hr => by
  have sc := sc__law_corners
  exact (dss_one (ds_ret (de_ty call_tuple_of v_tuple rfl T.z_tuple bb_tuple (da_cons (de_lc rfl sc.nd (di_range1 rfl T.z_range (de_op op_plus v_plus de_int (de_call (fd__law_draw T) (hr.mono (by decide)) (takes_of rfl rfl rfl rfl) rfl (da_cons (de_var (i := 0) rfl (by first | exact .inl rfl | exact .inr (.inl rfl) | exact .inr (.inr rfl))) (da_cons de_int da_nil))))) (blkOk_by (own := [("k", 4)]) rfl) rfl (fun _ _ _ _ _ => (dg_name (vs := [4]) (i := 4) sc.nd rfl (by first | exact .inl rfl | exact .inr rfl) (by decide))) (fun _ _ _ _ _ => dts_nil) (fun _ _ _ _ _ => (de_call (fd__law_antichain T) (hr.mono (by decide)) takes0 rfl (da_cons (de_var (i := 0) rfl (by first | exact .inl rfl | exact .inr (.inl rfl) | exact .inr (.inr rfl))) (da_cons (de_var (i := 1) rfl (by first | exact .inl rfl | exact .inr (.inl rfl) | exact .inr (.inr rfl))) (da_cons (de_var (i := 2) rfl (by first | exact .inl rfl | exact .inr (.inl rfl) | exact .inr (.inr rfl))) (da_cons (de_var (i := 3) rfl (by first | exact .inl rfl | exact .inr (.inl rfl) | exact .inr (.inr rfl))) da_nil))))))) da_nil))))
theorem fd__law_corners (T : Txt K mg base A) : Fd P w K mg base (flv tb n) 3 "_law_corners" 4 m__law_corners := ⟨⟨_, _, _, fn__law_corners T, T.g__law_corners, T.F__law_corners.kp, T.b__law_corners⟩⟩
noncomputable def b__law_heads_of : List D → M D := fn 5
 (sSeq (sSet 1 (eLst aNil))
 (sSeq (sFor (itEnum (aCons (eVar 0) aNil)) (gTupD 2 (gsCons (gSet 2) (gsCons (gSet 3) gsNil)))
 (sSet 1 (e2 fPlus (eVar 1) (eComp [4] (itSeq (eVar 3)) (gSet 4) tYesM (eTup (aCons (eVar 2) (aCons (eVar 4) aNil)))))))
 (sRet (eVar 1))))
noncomputable def m__law_heads_of : List D → M D := b__law_heads_of
theorem fn__law_heads_of (T : Txt K mg base A) : FnG P w K mg base 1 A.a__law_heads_of A.d__law_heads_of ["corners"] (spD ⟨K, mg, flv tb n⟩ 1 m__law_heads_of) :=
 fnok_of T.F__law_heads_of sc__law_heads_of fun cdv A outer s H E hr => by
  have sc := sc__law_heads_of
  exact (dss_cons (ds_set (i := 1) sc.nd rfl (by first | exact .inl rfl | exact .inr rfl) (de_lst da_nil))
 (dss_cons (ds_for PassesOwn.leaving rfl (di_enum rfl T.z_enumerate (da_cons (de_var (i := 0) rfl (by first | exact .inl rfl | exact .inr (.inl rfl) | exact .inr (.inr rfl))) da_nil)) (dg_tup (n := 2) rfl (dgs_cons (dg_name (vs := [2, 3]) (i := 2) sc.nd rfl (by first | exact .inl rfl | exact .inr rfl) (by decide)) (dgs_cons (dg_name (vs := [2, 3]) (i := 3) sc.nd rfl (by first | exact .inl rfl | exact .inr rfl) (by decide)) dgs_nil)))
 (dss_one (ds_set (i := 1) sc.nd rfl (by first | exact .inl rfl | exact .inr rfl) (de_op op_plus v_plus (de_var (i := 1) rfl (by first | exact .inl rfl | exact .inr (.inl rfl) | exact .inr (.inr rfl))) (de_lc rfl sc.nd (di_seq (de_var (i := 3) rfl (by first | exact .inl rfl | exact .inr (.inl rfl) | exact .inr (.inr rfl)))) (blkOk_by (own := [("row", 4)]) rfl) rfl (fun _ _ _ _ _ => (dg_name (vs := [4]) (i := 4) sc.nd rfl (by first | exact .inl rfl | exact .inr rfl) (by decide))) (fun _ _ _ _ _ => dts_nil) (fun _ _ _ _ _ => (de_tup (da_cons (de_var (i := 2) rfl (by first | exact .inl rfl | exact .inr (.inl rfl) | exact .inr (.inr rfl))) (da_cons (de_var (i := 4) rfl (by first | exact .inl rfl | exact .inr (.inl rfl) | exact .inr (.inr rfl))) da_nil)))))))))
 (dss_one (ds_ret (de_var (i := 1) rfl (by first | exact .inl rfl | exact .inr (.inl rfl) | exact .inr (.inr rfl)))))))
theorem fd__law_heads_of (T : Txt K mg base A) : Fd P w K mg base (flv tb n) 1 "_law_heads_of" 1 m__law_heads_of := ⟨⟨_, _, _, fn__law_heads_of T, T.g__law_heads_of, T.F__law_heads_of.kp, T.b__law_heads_of⟩⟩
noncomputable def b__law_open_list (m__law_all_counts : List D → M D) (m__law_is_open : List D → M D) (m__law_heads_of : List D → M D) : List D → M D := fn 7
 (sSeq (sSet 3 (eLst aNil))
 (sSeq (sFor (itRange1 (eN fLen (aCons (eVar 1) aNil))) (gSet 4)
 (sSeq (sSet 5 (eN fSortT (aCons (eCall 2 m__law_all_counts (aCons (eVar 0) (aCons (eVar 2) aNil))) aNil)))
 (sSet 3 (e2 fPlus (eVar 3) (eComp [6] (itSeq (eVar 5)) (gSet 6) (tOf (eCall 2 m__law_is_open (aCons (eCall 1 m__law_heads_of (aCons (eVar 1) aNil)) (aCons (eTup (aCons (eVar 4) (aCons (eVar 6) aNil))) aNil)))) (eTup (aCons (eVar 4) (aCons (eVar 6) aNil))))))))
 (sRet (eVar 3))))
noncomputable def m__law_open_list : List D → M D := b__law_open_list m__law_all_counts m__law_is_open m__law_heads_of
theorem fn__law_open_list (T : Txt K mg base A) : FnG P w K mg base 3 A.a__law_open_list A.d__law_open_list ["letters", "corners", "order"] (spD ⟨K, mg, flv tb n⟩ 3 m__law_open_list) :=
 fnok_of T.F__law_open_list sc__law_open_list fun cdv A outer s H E hr => by
  have sc := sc__law_open_list
  exact (dss_cons (ds_set (i := 3) sc.nd rfl (by first | exact .inl rfl | exact .inr rfl) (de_lst da_nil))
 (dss_cons (ds_for PassesOwn.leaving rfl (di_range1 rfl T.z_range (de_b call_lenA v_len rfl T.z_len bb_len (da_cons (de_var (i := 1) rfl (by first | exact .inl rfl | exact .inr (.inl rfl) | exact .inr (.inr rfl))) da_nil))) (dg_name (vs := [4]) (i := 4) sc.nd rfl (by first | exact .inl rfl | exact .inr rfl) (by decide))
 (dss_cons (ds_set (i := 5) sc.nd rfl (by first | exact .inl rfl | exact .inr rfl) (de_b cr_sortTD v_sortTD rfl T.z_sorted bb_sorted (da_cons (de_call (fd__law_all_counts T) (hr.mono (by decide)) (takes_of rfl rfl rfl rfl) rfl (da_cons (de_var (i := 0) rfl (by first | exact .inl rfl | exact .inr (.inl rfl) | exact .inr (.inr rfl))) (da_cons (de_var (i := 2) rfl (by first | exact .inl rfl | exact .inr (.inl rfl) | exact .inr (.inr rfl))) da_nil))) da_nil)))
 (dss_one (ds_set (i := 3) sc.nd rfl (by first | exact .inl rfl | exact .inr rfl) (de_op op_plus v_plus (de_var (i := 3) rfl (by first | exact .inl rfl | exact .inr (.inl rfl) | exact .inr (.inr rfl))) (de_lc rfl sc.nd (di_seq (de_var (i := 5) rfl (by first | exact .inl rfl | exact .inr (.inl rfl) | exact .inr (.inr rfl)))) (blkOk_by (own := [("row", 6)]) rfl) rfl (fun _ _ _ _ _ => (dg_name (vs := [6]) (i := 6) sc.nd rfl (by first | exact .inl rfl | exact .inr rfl) (by decide))) (fun _ _ _ _ _ => (dts_one (dt_val (de_call (fd__law_is_open T) (hr.mono (by decide)) takes0 rfl (da_cons (de_call (fd__law_heads_of T) (hr.mono (by decide)) takes0 rfl (da_cons (de_var (i := 1) rfl (by first | exact .inl rfl | exact .inr (.inl rfl) | exact .inr (.inr rfl))) da_nil)) (da_cons (de_tup (da_cons (de_var (i := 4) rfl (by first | exact .inl rfl | exact .inr (.inl rfl) | exact .inr (.inr rfl))) (da_cons (de_var (i := 6) rfl (by first | exact .inl rfl | exact .inr (.inl rfl) | exact .inr (.inr rfl))) da_nil))) da_nil)))))) (fun _ _ _ _ _ => (de_tup (da_cons (de_var (i := 4) rfl (by first | exact .inl rfl | exact .inr (.inl rfl) | exact .inr (.inr rfl))) (da_cons (de_var (i := 6) rfl (by first | exact .inl rfl | exact .inr (.inl rfl) | exact .inr (.inr rfl))) da_nil))))))))))
 (dss_one (ds_ret (de_var (i := 3) rfl (by first | exact .inl rfl | exact .inr (.inl rfl) | exact .inr (.inr rfl)))))))
theorem fd__law_open_list (T : Txt K mg base A) : Fd P w K mg base (flv tb n) 3 "_law_open_list" 3 m__law_open_list := ⟨⟨_, _, _, fn__law_open_list T, T.g__law_open_list, T.F__law_open_list.kp, T.b__law_open_list⟩⟩
noncomputable def b__law_handed_corners (m__law_passed : List D → M D) : List D → M D := fn 4
 (sRet (eCall 2 m__law_passed (aCons (eVar 0) (aCons (eComp [2] (itSeq (eVar 1)) (gSet 2) tYesM (eCall 2 m__law_passed (aCons (eVar 0) (aCons (eComp [3] (itSeq (eVar 2)) (gSet 3) tYesM (eCall 2 m__law_passed (aCons (eVar 0) (aCons (eN fList (aCons (eVar 3) aNil)) aNil)))) aNil)))) aNil))))
noncomputable def m__law_handed_corners : List D → M D := b__law_handed_corners m__law_passed
theorem fn__law_handed_corners (T : Txt K mg base A) : FnG P w K mg base 4 A.a__law_handed_corners A.d__law_handed_corners ["pen", "corners"] (spD ⟨K, mg, flv tb n⟩ 2 m__law_handed_corners) :=
 fnok_of T.F__law_handed_corners sc__law_handed_corners fun cdv A outer s H E hr => by
  have sc := sc__law_handed_corners
  exact (dss_one (ds_ret (de_call (fd__law_passed T) (hr.mono (by decide)) (takes_of rfl rfl rfl rfl) rfl (da_cons (de_var (i := 0) rfl (by first | exact .inl rfl | exact .inr (.inl rfl) | exact .inr (.inr rfl))) (da_cons (de_lc rfl sc.nd (di_seq (de_var (i := 1) rfl (by first | exact .inl rfl | exact .inr (.inl rfl) | exact .inr (.inr rfl)))) (blkOk_by (own := [("rows", 2)]) rfl) rfl (fun _ _ _ _ _ => (dg_name (vs := [2]) (i := 2) sc.nd rfl (by first | exact .inl rfl | exact .inr rfl) (by decide))) (fun _ _ _ _ _ => dts_nil) (fun _ _ _ _ _ => (de_call (fd__law_passed T) (hr.mono (by decide)) takes0 rfl (da_cons (de_var (i := 0) rfl (by first | exact .inl rfl | exact .inr (.inl rfl) | exact .inr (.inr rfl))) (da_cons (de_lc rfl sc.nd (di_seq (de_var (i := 2) rfl (by first | exact .inl rfl | exact .inr (.inl rfl) | exact .inr (.inr rfl)))) (blkOk_by (own := [("row", 3)]) rfl) rfl (fun _ _ _ _ _ => (dg_name (vs := [3]) (i := 3) sc.nd rfl (by first | exact .inl rfl | exact .inr rfl) (by decide))) (fun _ _ _ _ _ => dts_nil) (fun _ _ _ _ _ => (de_call (fd__law_passed T) (hr.mono (by decide)) takes0 rfl (da_cons (de_var (i := 0) rfl (by first | exact .inl rfl | exact .inr (.inl rfl) | exact .inr (.inr rfl))) (da_cons (de_ty call_list_of v_list rfl T.z_list bb_list (da_cons (de_var (i := 3) rfl (by first | exact .inl rfl | exact .inr (.inl rfl) | exact .inr (.inr rfl))) da_nil)) da_nil))))) da_nil))))) da_nil)))))
theorem fd__law_handed_corners (T : Txt K mg base A) : Fd P w K mg base (flv tb n) 4 "_law_handed_corners" 2 m__law_handed_corners := ⟨⟨_, _, _, fn__law_handed_corners T, T.g__law_handed_corners, T.F__law_handed_corners.kp, T.b__law_handed_corners⟩⟩
noncomputable def b__law_case (m__law_draw : List D → M D) (m__law_corners : List D → M D) (m__law_open_list : List D → M D) (m_open_derivatives : List D → M D) (m__law_handed_corners : List D → M D) (m__law_passed : List D → M D) (m_open_at : List D → M D) (m__law_is_open : List D → M D) (m__law_heads_of : List D → M D) (m_least_corners : List D → M D) : List D → M D := fn 19
 (sSeq (sSet 1 (e2 fPlus (eC (.int 1)) (eCall 2 m__law_draw (aCons (eVar 0) (aCons (eC (.int 3)) aNil)))))
 (sSeq (sPar [2, 3] (aCons (eCall 4 m__law_corners (aCons (eVar 0) (aCons (eVar 1) (aCons (eC (.int 3)) (aCons (eC (.int 3)) aNil))))) (aCons (eCall 2 m__law_draw (aCons (eVar 0) (aCons (eC (.int 5)) aNil))) aNil)))
 (sSeq (sSet 4 (eCall 3 m__law_open_list (aCons (eVar 1) (aCons (eVar 2) (aCons (eVar 3) aNil)))))
 (sSeq (sIf (tOf (e2 fNe (eN fRepr (aCons (eCall 3 m_open_derivatives (aCons (eVar 1) (aCons (eCall 2 m__law_handed_corners (aCons (eVar 0) (aCons (eVar 2) aNil))) (aCons (eVar 3) aNil)))) aNil)) (eN fRepr (aCons (eN fTuple (aCons (eVar 4) aNil)) aNil))))
 (sRet (eC (.bl false)))
 sNil)
 (sSeq (sFor (itRange1 (eC (.int 6))) (gSet 5)
 (sSeq (sSet 6 (eTup (aCons (eCall 2 m__law_draw (aCons (eVar 0) (aCons (eN fLen (aCons (eVar 2) aNil)) aNil))) (aCons (eN fTuple (aCons (eComp [13] (itRange1 (eVar 1)) (gSet 13) tYesM (eCall 2 m__law_draw (aCons (eVar 0) (aCons (eC (.int 6)) aNil)))) aNil)) aNil))))
 (sSeq (sSet 7 (eCall 2 m__law_passed (aCons (eVar 0) (aCons (eLst (aCons (e2 fItem (eVar 6) (eC (.int 0))) (aCons (eCall 2 m__law_passed (aCons (eVar 0) (aCons (eN fList (aCons (e2 fItem (eVar 6) (eC (.int 1))) aNil)) aNil))) aNil))) aNil))))
 (sIf (tOf (e2 fNe (eN fRepr (aCons (eCall 3 m_open_at (aCons (eVar 1) (aCons (eCall 2 m__law_handed_corners (aCons (eVar 0) (aCons (eVar 2) aNil))) (aCons (eVar 7) aNil)))) aNil)) (eN fRepr (aCons (eCall 2 m__law_is_open (aCons (eCall 1 m__law_heads_of (aCons (eVar 2) aNil)) (aCons (eVar 6) aNil))) aNil))))
 (sRet (eC (.bl false)))
 sNil))))
 (sSeq (sSet 8 (eN fTuple (aCons (eComp [14] (itRange1 (e2 fPlus (eC (.int 1)) (eCall 2 m__law_draw (aCons (eVar 0) (aCons (eC (.int 2)) aNil))))) (gSet 14) tYesM (eN fTuple (aCons (eComp [15] (itRange1 (eCall 2 m__law_draw (aCons (eVar 0) (aCons (eC (.int 5)) aNil)))) (gSet 15) tYesM (eN fTuple (aCons (eComp [13] (itRange1 (eVar 1)) (gSet 13) tYesM (eCall 2 m__law_draw (aCons (eVar 0) (aCons (eC (.int 4)) aNil)))) aNil))) aNil))) aNil)))
 (sSeq (sSet 9 (eCall 2 m_least_corners (aCons (eVar 1) (aCons (eCall 2 m__law_handed_corners (aCons (eVar 0) (aCons (eVar 8) aNil))) aNil))))
 (sSeq (sFor (itZip (aCons (eVar 9) (aCons (eVar 8) aNil))) (gTupD 2 (gsCons (gSet 10) (gsCons (gSet 11) gsNil)))
 (sSeq (sSet 12 (eN fTuple (aCons (e1 fSortS (eComp [6] (itSeq (eVar 11)) (gSet 6) (tNotM (tOf (eN fAny (aCons (eComp [16] (itSeq (eVar 11)) (gSet 16) tYesM (eAnd (e2 fNe (eVar 6) (eVar 16)) (eN fAll (aCons (eComp [17, 18] (itZip (aCons (eVar 6) (aCons (eVar 16) aNil))) (gTupD 2 (gsCons (gSet 17) (gsCons (gSet 18) gsNil))) tYesM (e2 (fCmp fun i j => decide (j ≤ i)) (eVar 17) (eVar 18))) aNil)))) aNil)))) (eVar 6))) aNil)))
 (sIf (tOf (e2 fNe (eN fRepr (aCons (eVar 10) aNil)) (eN fRepr (aCons (eVar 12) aNil))))
 (sRet (eC (.bl false)))
 sNil)))
 (sRet (eAnd (e2 fEqD (eN fLen (aCons (eVar 9) aNil)) (eN fLen (aCons (eVar 8) aNil))) (e2 fEqD (eCall 3 m_open_derivatives (aCons (eVar 1) (aCons (eVar 9) (aCons (eC (.int 4)) aNil)))) (eN fTuple (aCons (eCall 3 m__law_open_list (aCons (eVar 1) (aCons (eVar 8) (aCons (eC (.int 4)) aNil)))) aNil)))))))))))))
noncomputable def m__law_case : List D → M D := b__law_case m__law_draw m__law_corners m__law_open_list m_open_derivatives m__law_handed_corners m__law_passed m_open_at m__law_is_open m__law_heads_of m_least_corners
theorem fn__law_case (T : Txt K mg base A) : FnG P w K mg base 9 A.a__law_case A.d__law_case ["pen"] (spD ⟨K, mg, flv tb n⟩ 1 m__law_case) :=
 fnok_of T.F__law_case sc__law_case fun cdv A outer s H E hr => by
  have sc := sc__law_case
  exact (dss_cons (ds_set (i := 1) sc.nd rfl (by first | exact .inl rfl | exact .inr rfl) (de_op op_plus v_plus de_int (de_call (fd__law_draw T) (hr.mono (by decide)) (takes_of rfl rfl rfl rfl) rfl (da_cons (de_var (i := 0) rfl (by first | exact .inl rfl | exact .inr (.inl rfl) | exact .inr (.inr rfl))) (da_cons de_int da_nil)))))
 (dss_cons (ds_par (i := 2) (j := 3) rfl sc.nd rfl rfl (by decide) rfl rfl (da_cons (de_call (fd__law_corners T) (hr.mono (by decide)) (takes_of rfl rfl rfl rfl) rfl (da_cons (de_var (i := 0) rfl (by first | exact .inl rfl | exact .inr (.inl rfl) | exact .inr (.inr rfl))) (da_cons (de_var (i := 1) rfl (by first | exact .inl rfl | exact .inr (.inl rfl) | exact .inr (.inr rfl))) (da_cons de_int (da_cons de_int da_nil))))) (da_cons (de_call (fd__law_draw T) (hr.mono (by decide)) (takes_of rfl rfl rfl rfl) rfl (da_cons (de_var (i := 0) rfl (by first | exact .inl rfl | exact .inr (.inl rfl) | exact .inr (.inr rfl))) (da_cons de_int da_nil))) da_nil)) (by rfl))
 (dss_cons (ds_set (i := 4) sc.nd rfl (by first | exact .inl rfl | exact .inr rfl) (de_call (fd__law_open_list T) (hr.mono (by decide)) (takes_of rfl rfl rfl rfl) rfl (da_cons (de_var (i := 1) rfl (by first | exact .inl rfl | exact .inr (.inl rfl) | exact .inr (.inr rfl))) (da_cons (de_var (i := 2) rfl (by first | exact .inl rfl | exact .inr (.inl rfl) | exact .inr (.inr rfl))) (da_cons (de_var (i := 3) rfl (by first | exact .inl rfl | exact .inr (.inl rfl) | exact .inr (.inr rfl))) da_nil)))))
 (dss_cons (ds_if (dt_cmp (op_neA hr T.sys) v_ne (de_b (call_repr hr T.sys) v_repr rfl T.z_repr bb_repr (da_cons (de_call (fd_open_derivatives T) (hr.mono (by decide)) (takes_of rfl rfl rfl rfl) rfl (da_cons (de_var (i := 1) rfl (by first | exact .inl rfl | exact .inr (.inl rfl) | exact .inr (.inr rfl))) (da_cons (de_call (fd__law_handed_corners T) (hr.mono (by decide)) (takes_of rfl rfl rfl rfl) rfl (da_cons (de_var (i := 0) rfl (by first | exact .inl rfl | exact .inr (.inl rfl) | exact .inr (.inr rfl))) (da_cons (de_var (i := 2) rfl (by first | exact .inl rfl | exact .inr (.inl rfl) | exact .inr (.inr rfl))) da_nil))) (da_cons (de_var (i := 3) rfl (by first | exact .inl rfl | exact .inr (.inl rfl) | exact .inr (.inr rfl))) da_nil)))) da_nil)) (de_b (call_repr hr T.sys) v_repr rfl T.z_repr bb_repr (da_cons (de_ty call_tuple_of v_tuple rfl T.z_tuple bb_tuple (da_cons (de_var (i := 4) rfl (by first | exact .inl rfl | exact .inr (.inl rfl) | exact .inr (.inr rfl))) da_nil)) da_nil)) rfl)
 (dss_one (ds_ret de_bl))
 dss_nil)
 (dss_cons (ds_for PassesOwn.leaving rfl (di_range1 rfl T.z_range de_int) (dg_name (vs := [5]) (i := 5) sc.nd rfl (by first | exact .inl rfl | exact .inr rfl) (by decide))
 (dss_cons (ds_set (i := 6) sc.nd rfl (by first | exact .inl rfl | exact .inr rfl) (de_tup (da_cons (de_call (fd__law_draw T) (hr.mono (by decide)) (takes_of rfl rfl rfl rfl) rfl (da_cons (de_var (i := 0) rfl (by first | exact .inl rfl | exact .inr (.inl rfl) | exact .inr (.inr rfl))) (da_cons (de_b call_lenA v_len rfl T.z_len bb_len (da_cons (de_var (i := 2) rfl (by first | exact .inl rfl | exact .inr (.inl rfl) | exact .inr (.inr rfl))) da_nil)) da_nil))) (da_cons (de_ty call_tuple_of v_tuple rfl T.z_tuple bb_tuple (da_cons (de_lc rfl sc.nd (di_range1 rfl T.z_range (de_var (i := 1) rfl (by first | exact .inl rfl | exact .inr (.inl rfl) | exact .inr (.inr rfl)))) (blkOk_by (own := [("k", 13)]) rfl) rfl (fun _ _ _ _ _ => (dg_name (vs := [13]) (i := 13) sc.nd rfl (by first | exact .inl rfl | exact .inr rfl) (by decide))) (fun _ _ _ _ _ => dts_nil) (fun _ _ _ _ _ => (de_call (fd__law_draw T) (hr.mono (by decide)) takes0 rfl (da_cons (de_var (i := 0) rfl (by first | exact .inl rfl | exact .inr (.inl rfl) | exact .inr (.inr rfl))) (da_cons de_int da_nil))))) da_nil)) da_nil))))
 (dss_cons (ds_set (i := 7) sc.nd rfl (by first | exact .inl rfl | exact .inr rfl) (de_call (fd__law_passed T) (hr.mono (by decide)) (takes_of rfl rfl rfl rfl) rfl (da_cons (de_var (i := 0) rfl (by first | exact .inl rfl | exact .inr (.inl rfl) | exact .inr (.inr rfl))) (da_cons (de_lst (da_cons (de_item (de_var (i := 6) rfl (by first | exact .inl rfl | exact .inr (.inl rfl) | exact .inr (.inr rfl))) de_int (fun _ _ => rfl)) (da_cons (de_call (fd__law_passed T) (hr.mono (by decide)) (takes_of rfl rfl rfl rfl) rfl (da_cons (de_var (i := 0) rfl (by first | exact .inl rfl | exact .inr (.inl rfl) | exact .inr (.inr rfl))) (da_cons (de_ty call_list_of v_list rfl T.z_list bb_list (da_cons (de_item (de_var (i := 6) rfl (by first | exact .inl rfl | exact .inr (.inl rfl) | exact .inr (.inr rfl))) de_int (fun _ _ => rfl)) da_nil)) da_nil))) da_nil))) da_nil))))
 (dss_one (ds_if (dt_cmp (op_neA hr T.sys) v_ne (de_b (call_repr hr T.sys) v_repr rfl T.z_repr bb_repr (da_cons (de_call (fd_open_at T) (hr.mono (by decide)) (takes_of rfl rfl rfl rfl) rfl (da_cons (de_var (i := 1) rfl (by first | exact .inl rfl | exact .inr (.inl rfl) | exact .inr (.inr rfl))) (da_cons (de_call (fd__law_handed_corners T) (hr.mono (by decide)) (takes_of rfl rfl rfl rfl) rfl (da_cons (de_var (i := 0) rfl (by first | exact .inl rfl | exact .inr (.inl rfl) | exact .inr (.inr rfl))) (da_cons (de_var (i := 2) rfl (by first | exact .inl rfl | exact .inr (.inl rfl) | exact .inr (.inr rfl))) da_nil))) (da_cons (de_var (i := 7) rfl (by first | exact .inl rfl | exact .inr (.inl rfl) | exact .inr (.inr rfl))) da_nil)))) da_nil)) (de_b (call_repr hr T.sys) v_repr rfl T.z_repr bb_repr (da_cons (de_call (fd__law_is_open T) (hr.mono (by decide)) (takes_of rfl rfl rfl rfl) rfl (da_cons (de_call (fd__law_heads_of T) (hr.mono (by decide)) (takes_of rfl rfl rfl rfl) rfl (da_cons (de_var (i := 2) rfl (by first | exact .inl rfl | exact .inr (.inl rfl) | exact .inr (.inr rfl))) da_nil)) (da_cons (de_var (i := 6) rfl (by first | exact .inl rfl | exact .inr (.inl rfl) | exact .inr (.inr rfl))) da_nil))) da_nil)) rfl)
 (dss_one (ds_ret de_bl))
 dss_nil)))))
 (dss_cons (ds_set (i := 8) sc.nd rfl (by first | exact .inl rfl | exact .inr rfl) (de_ty call_tuple_of v_tuple rfl T.z_tuple bb_tuple (da_cons (de_lc rfl sc.nd (di_range1 rfl T.z_range (de_op op_plus v_plus de_int (de_call (fd__law_draw T) (hr.mono (by decide)) (takes_of rfl rfl rfl rfl) rfl (da_cons (de_var (i := 0) rfl (by first | exact .inl rfl | exact .inr (.inl rfl) | exact .inr (.inr rfl))) (da_cons de_int da_nil))))) (blkOk_by (own := [("u", 14)]) rfl) rfl (fun _ _ _ _ _ => (dg_name (vs := [14]) (i := 14) sc.nd rfl (by first | exact .inl rfl | exact .inr rfl) (by decide))) (fun _ _ _ _ _ => dts_nil) (fun _ _ _ _ _ => (de_ty call_tuple_of v_tuple rfl T.z_tuple bb_tuple (da_cons (de_lc rfl sc.nd (di_range1 rfl T.z_range (de_call (fd__law_draw T) (hr.mono (by decide)) takes0 rfl (da_cons (de_var (i := 0) rfl (by first | exact .inl rfl | exact .inr (.inl rfl) | exact .inr (.inr rfl))) (da_cons de_int da_nil)))) (blkOk_by (own := [("n", 15)]) rfl) rfl (fun _ _ _ _ _ => (dg_name (vs := [15]) (i := 15) sc.nd rfl (by first | exact .inl rfl | exact .inr rfl) (by decide))) (fun _ _ _ _ _ => dts_nil) (fun _ _ _ _ _ => (de_ty call_tuple_of v_tuple rfl T.z_tuple bb_tuple (da_cons (de_lc rfl sc.nd (di_range1 rfl T.z_range (de_var (i := 1) rfl (by first | exact .inl rfl | exact .inr (.inl rfl) | exact .inr (.inr rfl)))) (blkOk_by (own := [("k", 13)]) rfl) rfl (fun _ _ _ _ _ => (dg_name (vs := [13]) (i := 13) sc.nd rfl (by first | exact .inl rfl | exact .inr rfl) (by decide))) (fun _ _ _ _ _ => dts_nil) (fun _ _ _ _ _ => (de_call (fd__law_draw T) (hr.mono (by decide)) takes0 rfl (da_cons (de_var (i := 0) rfl (by first | exact .inl rfl | exact .inr (.inl rfl) | exact .inr (.inr rfl))) (da_cons de_int da_nil))))) da_nil)))) da_nil)))) da_nil)))
 (dss_cons (ds_set (i := 9) sc.nd rfl (by first | exact .inl rfl | exact .inr rfl) (de_call (fd_least_corners T) (hr.mono (by decide)) (takes_of rfl rfl rfl rfl) rfl (da_cons (de_var (i := 1) rfl (by first | exact .inl rfl | exact .inr (.inl rfl) | exact .inr (.inr rfl))) (da_cons (de_call (fd__law_handed_corners T) (hr.mono (by decide)) (takes_of rfl rfl rfl rfl) rfl (da_cons (de_var (i := 0) rfl (by first | exact .inl rfl | exact .inr (.inl rfl) | exact .inr (.inr rfl))) (da_cons (de_var (i := 8) rfl (by first | exact .inl rfl | exact .inr (.inl rfl) | exact .inr (.inr rfl))) da_nil))) da_nil))))
 (dss_cons (ds_for PassesOwn.leaving rfl (di_zip rfl T.z_zip (da_cons (de_var (i := 9) rfl (by first | exact .inl rfl | exact .inr (.inl rfl) | exact .inr (.inr rfl))) (da_cons (de_var (i := 8) rfl (by first | exact .inl rfl | exact .inr (.inl rfl) | exact .inr (.inr rfl))) da_nil))) (dg_tup (n := 2) rfl (dgs_cons (dg_name (vs := [10, 11]) (i := 10) sc.nd rfl (by first | exact .inl rfl | exact .inr rfl) (by decide)) (dgs_cons (dg_name (vs := [10, 11]) (i := 11) sc.nd rfl (by first | exact .inl rfl | exact .inr rfl) (by decide)) dgs_nil)))
 (dss_cons (ds_set (i := 12) sc.nd rfl (by first | exact .inl rfl | exact .inr rfl) (de_ty call_tuple_of v_tuple rfl T.z_tuple bb_tuple (da_cons (de_sortSet hr rfl rfl T.z_sorted rfl T.z_set (de_lc rfl sc.nd (di_seq (de_var (i := 11) rfl (by first | exact .inl rfl | exact .inr (.inl rfl) | exact .inr (.inr rfl)))) (blkOk_by (own := [("one", 6)]) rfl) rfl (fun _ _ _ _ _ => (dg_name (vs := [6]) (i := 6) sc.nd rfl (by first | exact .inl rfl | exact .inr rfl) (by decide))) (fun _ _ _ _ _ => (dts_one (dt_not (dt_val (de_b (cr_any rfl) v_any rfl T.z_any bb_any (da_cons (de_lc rfl sc.nd (di_seq (de_var (i := 11) rfl (by first | exact .inl rfl | exact .inr (.inl rfl) | exact .inr (.inr rfl)))) (blkOk_by (own := [("other", 16)]) rfl) rfl (fun _ _ _ _ _ => (dg_name (vs := [16]) (i := 16) sc.nd rfl (by first | exact .inl rfl | exact .inr rfl) (by decide))) (fun _ _ _ _ _ => dts_nil) (fun _ _ _ _ _ => (de_and (de_cmp (op_neA hr T.sys) v_ne (de_var (i := 6) rfl (by first | exact .inl rfl | exact .inr (.inl rfl) | exact .inr (.inr rfl))) (de_var (i := 16) rfl (by first | exact .inl rfl | exact .inr (.inl rfl) | exact .inr (.inr rfl))) rfl) (de_one (de_b (cr_all rfl) v_all rfl T.z_all bb_all (da_cons (de_lc rfl sc.nd (di_zip rfl T.z_zip (da_cons (de_var (i := 6) rfl (by first | exact .inl rfl | exact .inr (.inl rfl) | exact .inr (.inr rfl))) (da_cons (de_var (i := 16) rfl (by first | exact .inl rfl | exact .inr (.inl rfl) | exact .inr (.inr rfl))) da_nil))) (blkOk_by (own := [("a", 17), ("b", 18)]) rfl) rfl (fun _ _ _ _ _ => (dg_tup (n := 2) rfl (dgs_cons (dg_name (vs := [17, 18]) (i := 17) sc.nd rfl (by first | exact .inl rfl | exact .inr rfl) (by decide)) (dgs_cons (dg_name (vs := [17, 18]) (i := 18) sc.nd rfl (by first | exact .inl rfl | exact .inr rfl) (by decide)) dgs_nil)))) (fun _ _ _ _ _ => dts_nil) (fun _ _ _ _ _ => (de_cmp op_ge v_cmp (de_var (i := 17) rfl (by first | exact .inl rfl | exact .inr (.inl rfl) | exact .inr (.inr rfl))) (de_var (i := 18) rfl (by first | exact .inl rfl | exact .inr (.inl rfl) | exact .inr (.inr rfl))) rfl))) da_nil)))))) da_nil)))))) (fun _ _ _ _ _ => (de_var (i := 6) rfl (by first | exact .inl rfl | exact .inr (.inl rfl) | exact .inr (.inr rfl)))))) da_nil)))
 (dss_one (ds_if (dt_cmp (op_neA hr T.sys) v_ne (de_b (call_repr hr T.sys) v_repr rfl T.z_repr bb_repr (da_cons (de_var (i := 10) rfl (by first | exact .inl rfl | exact .inr (.inl rfl) | exact .inr (.inr rfl))) da_nil)) (de_b (call_repr hr T.sys) v_repr rfl T.z_repr bb_repr (da_cons (de_var (i := 12) rfl (by first | exact .inl rfl | exact .inr (.inl rfl) | exact .inr (.inr rfl))) da_nil)) rfl)
 (dss_one (ds_ret de_bl))
 dss_nil))))
 (dss_one (ds_ret (de_and (de_cmp (op_eqD hr T.sys) v_eqD (de_b call_lenA v_len rfl T.z_len bb_len (da_cons (de_var (i := 9) rfl (by first | exact .inl rfl | exact .inr (.inl rfl) | exact .inr (.inr rfl))) da_nil)) (de_b call_lenA v_len rfl T.z_len bb_len (da_cons (de_var (i := 8) rfl (by first | exact .inl rfl | exact .inr (.inl rfl) | exact .inr (.inr rfl))) da_nil)) rfl) (de_one (de_cmp (op_eqD hr T.sys) v_eqD (de_call (fd_open_derivatives T) (hr.mono (by decide)) (takes_of rfl rfl rfl rfl) rfl (da_cons (de_var (i := 1) rfl (by first | exact .inl rfl | exact .inr (.inl rfl) | exact .inr (.inr rfl))) (da_cons (de_var (i := 9) rfl (by first | exact .inl rfl | exact .inr (.inl rfl) | exact .inr (.inr rfl))) (da_cons de_int da_nil)))) (de_ty call_tuple_of v_tuple rfl T.z_tuple bb_tuple (da_cons (de_call (fd__law_open_list T) (hr.mono (by decide)) (takes_of rfl rfl rfl rfl) rfl (da_cons (de_var (i := 1) rfl (by first | exact .inl rfl | exact .inr (.inl rfl) | exact .inr (.inr rfl))) (da_cons (de_var (i := 8) rfl (by first | exact .inl rfl | exact .inr (.inl rfl) | exact .inr (.inr rfl))) (da_cons de_int da_nil)))) da_nil)) rfl)))))))))))))
theorem fd__law_case (T : Txt K mg base A) : Fd P w K mg base (flv tb n) 9 "_law_case" 1 m__law_case := ⟨⟨_, _, _, fn__law_case T, T.g__law_case, T.F__law_case.kp, T.b__law_case⟩⟩
noncomputable def r_law_1_t_0 : SM := (sRet (eC (.bl false)))
noncomputable def r_law_14 (m__law_are_due : List D → M D) : SM := (sRet (eCallL [7, 5, 2, 3, 6, 4, 1] 1 m__law_are_due (aCons (eVar 8) aNil)))
noncomputable def r_law_13 (m__law_are_due : List D → M D) : SM := (sSeq (sEx (eApp (eVar 8) (eTup (aCons (eLam 7) (aCons (eTup (aCons (eC (.str "table")) (aCons (eVar 7) aNil))) aNil)))))
 (r_law_14 m__law_are_due))
noncomputable def r_law_12 (m__law_are_due : List D → M D) : SM := (sSeq (sEx (eApp (eVar 8) (eTup (aCons (eLam 6) (aCons (eTup (aCons (eC (.str "number")) (aCons (eC (.str "letters")) (aCons (eVar 2) aNil)))) aNil)))))
 (r_law_13 m__law_are_due))
noncomputable def r_law_11 (m__law_are_due : List D → M D) : SM := (sSeq (sEx (eApp (eVar 8) (eTup (aCons (eLam 5) (aCons (eTup (aCons (eC (.str "number")) (aCons (eC (.str "order")) (aCons (eVar 6) aNil)))) aNil)))))
 (r_law_12 m__law_are_due))
noncomputable def r_law_10 (m__law_are_due : List D → M D) : SM := (sSeq (sEx (eApp (eVar 8) (eTup (aCons (eLam 4) (aCons (eTup (aCons (eC (.str "table")) (aCons (eVar 4) aNil))) aNil)))))
 (r_law_11 m__law_are_due))
noncomputable def r_law_9 (m__law_are_due : List D → M D) : SM := (sSeq (sEx (eApp (eVar 8) (eTup (aCons (eLam 3) (aCons (eTup (aCons (eC (.str "number")) (aCons (eC (.str "letters")) (aCons (eVar 2) aNil)))) aNil)))))
 (r_law_10 m__law_are_due))
noncomputable def r_law_8 (m__law_are_due : List D → M D) : SM := (sSeq (sEx (eApp (eVar 8) (eTup (aCons (eLam 2) (aCons (eTup (aCons (eC (.str "row")) (aCons (eVar 5) aNil))) aNil)))))
 (r_law_9 m__law_are_due))
noncomputable def r_law_7 (m__law_are_due : List D → M D) : SM := (sSeq (sEx (eApp (eVar 8) (eTup (aCons (eLam 1) (aCons (eTup (aCons (eC (.str "table")) (aCons (eVar 4) aNil))) aNil)))))
 (r_law_8 m__law_are_due))
noncomputable def r_law_6 (m__law_are_due : List D → M D) : SM := (sSeq (sSet 8 (eNew (aCons (eTup (aCons (eLam 0) (aCons (eTup (aCons (eC (.str "number")) (aCons (eC (.str "letters")) (aCons (eVar 2) aNil)))) aNil))) aNil)))
 (r_law_7 m__law_are_due))
noncomputable def r_law_5 (m__law_pick : List D → M D) (m__law_are_due : List D → M D) : SM := (sSeq (sSet 7 (eCall 2 m__law_pick (aCons (eVar 1) (aCons (eLst (aCons (eC .non) (aCons (eC (.int 5)) (aCons (eTup aNil) (aCons (e2 fTimes (eTup (aCons (eTup aNil) aNil)) (eC (.int 4))) (aCons (eTup (aCons (eTup (aCons (eC (.int 1)) (aCons (eC (.int 1)) aNil))) aNil)) (aCons (eTup (aCons (eTup (aCons (eTup (aCons (eC (.int 1)) aNil)) aNil)) aNil)) (aCons (eTup (aCons (eTup (aCons (eTup (aCons (eC (.int 1)) (aCons (e1 fNeg (eC (.int 1))) aNil))) aNil)) aNil)) (aCons (eTup (aCons (eTup (aCons (eTup (aCons (eC (.bl true)) (aCons (eC (.int 1)) aNil))) aNil)) aNil)) (aCons (eC (.str "ab")) aNil)))))))))) aNil))))
 (r_law_6 m__law_are_due))
noncomputable def r_law_4 (m__law_pick : List D → M D) (m__law_are_due : List D → M D) : SM := (sSeq (sAsg (gTupD 2 (gsCons (gSet 5) (gsCons (gSet 6) gsNil))) (eTup (aCons (eCall 2 m__law_pick (aCons (eVar 1) (aCons (eLst (aCons (eC .non) (aCons (eC (.int 5)) (aCons (eTup (aCons (eC (.int 0)) aNil)) (aCons (eTup (aCons (eC (.int 1)) (aCons (eTup (aCons (eC (.int 0)) (aCons (eC (.int 0)) aNil))) aNil))) (aCons (eTup (aCons (eC (.int 0)) (aCons (eTup (aCons (eC (.int 0)) aNil)) aNil))) (aCons (eTup (aCons (eC (.int 0)) (aCons (eTup (aCons (e1 fNeg (eC (.int 1))) (aCons (eC (.int 0)) aNil))) aNil))) (aCons (eTup (aCons (eC (.bl true)) (aCons (eTup (aCons (eC (.int 0)) (aCons (eC (.int 0)) aNil))) aNil))) (aCons (eC (.str "ab")) aNil))))))))) aNil))) (aCons (eCall 2 m__law_pick (aCons (eVar 1) (aCons (eLst (aCons (e1 fNeg (eC (.int 1))) (aCons (eC (.int 9)) (aCons (eC .non) (aCons (eC (.bl true)) (aCons (eC (.str "1")) aNil)))))) aNil))) aNil))))
 (r_law_5 m__law_pick m__law_are_due))
noncomputable def r_law_3 (m__law_pick : List D → M D) (m__law_are_due : List D → M D) : SM := (sSeq (sSet 4 (eCall 2 m__law_pick (aCons (eVar 1) (aCons (eLst (aCons (eC .non) (aCons (eC (.int 5)) (aCons (eTup aNil) (aCons (e2 fTimes (eTup (aCons (eTup aNil) aNil)) (eC (.int 4))) (aCons (eTup (aCons (eTup (aCons (eC (.int 1)) (aCons (eC (.int 1)) aNil))) aNil)) (aCons (eTup (aCons (eTup (aCons (eTup (aCons (eC (.int 1)) aNil)) aNil)) aNil)) (aCons (eTup (aCons (eTup (aCons (eTup (aCons (eC (.int 1)) (aCons (e1 fNeg (eC (.int 1))) aNil))) aNil)) aNil)) (aCons (eTup (aCons (eTup (aCons (eTup (aCons (eC (.int 1)) (aCons (eC (.int 1)) aNil))) (aCons (eTup (aCons (eC (.int 1)) (aCons (eC (.int 1)) aNil))) aNil))) aNil)) (aCons (eTup (aCons (eTup (aCons (eTup (aCons (eC (.int 1)) (aCons (eC (.int 1)) aNil))) (aCons (eTup (aCons (eC (.int 0)) (aCons (eC (.int 2)) aNil))) aNil))) aNil)) (aCons (eTup (aCons (eTup (aCons (eTup (aCons (eC (.int 1)) (aCons (eC (.int 1)) aNil))) (aCons (eTup (aCons (eC (.int 2)) (aCons (eC (.int 1)) aNil))) aNil))) aNil)) (aCons (eTup (aCons (eTup (aCons (eTup (aCons (eC (.bl true)) (aCons (eC (.int 1)) aNil))) aNil)) aNil)) (aCons (eC (.str "ab")) aNil))))))))))))) aNil))))
 (r_law_4 m__law_pick m__law_are_due))
noncomputable def r_law_2 (m__law_pick : List D → M D) (m__law_are_due : List D → M D) : SM := (sSeq (sAsg (gTupD 2 (gsCons (gSet 2) (gsCons (gSet 3) gsNil))) (eTup (aCons (eCall 2 m__law_pick (aCons (eVar 1) (aCons (eLst (aCons (eC (.int 0)) (aCons (eC (.int 4)) (aCons (eC .non) (aCons (eC (.bl true)) (aCons (eC (.str "2")) aNil)))))) aNil))) (aCons (eTup (aCons (eTup (aCons (eTup (aCons (eC (.int 1)) (aCons (eC (.int 1)) aNil))) aNil)) aNil)) aNil))))
 (r_law_3 m__law_pick m__law_are_due))
noncomputable def r_law_1 (m__law_case : List D → M D) (m__law_pick : List D → M D) (m__law_are_due : List D → M D) : SM := (sSeq (sIf (tNotM (tOf (eN fAll (aCons (eComp [9] (itRange1 (eC (.int 4))) (gSet 9) tYesM (eCall 1 m__law_case (aCons (eVar 1) aNil))) aNil))))
 r_law_1_t_0
 sNil)
 (r_law_2 m__law_pick m__law_are_due))
noncomputable def r_law_0 (m__law_pen : List D → M D) (m__law_case : List D → M D) (m__law_pick : List D → M D) (m__law_are_due : List D → M D) : SM := (sSeq (sSet 1 (eCall 1 m__law_pen (aCons (eVar 0) aNil)))
 (r_law_1 m__law_case m__law_pick m__law_are_due))
noncomputable def mm_law : SM := (r_law_0 m__law_pen m__law_case m__law_pick m__law_are_due)
theorem fn_law {c : Addr} (T : Txt K mg base A) (hc : A.d_law.code = .ref c) (TB : LamX.TabB base mg c tb) {ns : List Int} (hm : ∃ st', fn 10 mm_law [.scr ns] [.fr none] = .ok (.bl true) st') : FnG P w K mg base 12 A.a_law A.d_law ["script"] (spLaw K tb ns) :=
  fnL_of (flT := flT) (qn := "law.<locals>.<lambda>") (lm := LM) T.F_law sc_law hc (fun Ar outer s H E hr => by
  have sc := sc_law
  have O : LawC (cxOf (L2.CX P w) P w K mg base ["script", "pen", "letters", "good", "bad", "odd", "far", "rows", "tries", "lap"] "law" (defScope s_law) A.a_law (.ref c) Ar outer s H E) (flv tb s.heap.objs.size).cs := lawC_at (by decide +kernel)
  have CP : Caps (cxOf (L2.CX P w) P w K mg base ["script", "pen", "letters", "good", "bad", "odd", "far", "rows", "tries", "lap"] "law" (defScope s_law) A.a_law (.ref c) Ar outer s H E) (flv tb s.heap.objs.size).cs [7, 5, 2, 3, 6, 4, 1] := caps_atL (by decide +kernel)
  exact (dss_cons (ds_set (i := 1) sc.nd rfl (by first | exact .inl rfl | exact .inr rfl) (de_call (fd__law_pen T) (hr.mono (by decide)) (takes_of rfl rfl rfl rfl) rfl (da_cons (de_var (i := 0) rfl (by first | exact .inl rfl | exact .inr (.inl rfl) | exact .inr (.inr rfl))) da_nil)))
 (dss_cons (ds_if (dt_not (dt_val (de_b (cr_all rfl) v_all rfl T.z_all bb_all (da_cons (de_lc rfl sc.nd (di_range1 rfl T.z_range de_int) (blkOk_by (own := [("lap", 9)]) rfl) rfl (fun _ _ _ _ _ => (dg_name (vs := [9]) (i := 9) sc.nd rfl (by first | exact .inl rfl | exact .inr rfl) (by decide))) (fun _ _ _ _ _ => dts_nil) (fun _ _ _ _ _ => (de_call (fd__law_case T) (hr.mono (by decide)) takes0 rfl (da_cons (de_var (i := 1) rfl (by first | exact .inl rfl | exact .inr (.inl rfl) | exact .inr (.inr rfl))) da_nil)))) da_nil))))
 (dss_one (ds_ret de_bl))
 dss_nil)
 (dss_cons (ds_asg (de_tup (da_cons (de_call (fd__law_pick T) (hr.mono (by decide)) (takes_of rfl rfl rfl rfl) rfl (da_cons (de_var (i := 1) rfl (by first | exact .inl rfl | exact .inr (.inl rfl) | exact .inr (.inr rfl))) (da_cons (de_lst (da_cons de_int (da_cons de_int (da_cons de_non (da_cons de_bl (da_cons de_str da_nil)))))) da_nil))) (da_cons (de_tup (da_cons (de_tup (da_cons (de_tup (da_cons de_int (da_cons de_int da_nil))) da_nil)) da_nil)) da_nil))) (dg_tup (n := 2) rfl (dgs_cons (dg_name (vs := [2, 3]) (i := 2) sc.nd rfl (by first | exact .inl rfl | exact .inr rfl) (by decide)) (dgs_cons (dg_name (vs := [2, 3]) (i := 3) sc.nd rfl (by first | exact .inl rfl | exact .inr rfl) (by decide)) dgs_nil))))
 (dss_cons (ds_set (i := 4) sc.nd rfl (by first | exact .inl rfl | exact .inr rfl) (de_call (fd__law_pick T) (hr.mono (by decide)) (takes_of rfl rfl rfl rfl) rfl (da_cons (de_var (i := 1) rfl (by first | exact .inl rfl | exact .inr (.inl rfl) | exact .inr (.inr rfl))) (da_cons (de_lst (da_cons de_non (da_cons de_int (da_cons (de_tup da_nil) (da_cons (de_op op_times v_times (de_tup (da_cons (de_tup da_nil) da_nil)) de_int) (da_cons (de_tup (da_cons (de_tup (da_cons de_int (da_cons de_int da_nil))) da_nil)) (da_cons (de_tup (da_cons (de_tup (da_cons (de_tup (da_cons de_int da_nil)) da_nil)) da_nil)) (da_cons (de_tup (da_cons (de_tup (da_cons (de_tup (da_cons de_int (da_cons (de_un un_neg v_neg de_int) da_nil))) da_nil)) da_nil)) (da_cons (de_tup (da_cons (de_tup (da_cons (de_tup (da_cons de_int (da_cons de_int da_nil))) (da_cons (de_tup (da_cons de_int (da_cons de_int da_nil))) da_nil))) da_nil)) (da_cons (de_tup (da_cons (de_tup (da_cons (de_tup (da_cons de_int (da_cons de_int da_nil))) (da_cons (de_tup (da_cons de_int (da_cons de_int da_nil))) da_nil))) da_nil)) (da_cons (de_tup (da_cons (de_tup (da_cons (de_tup (da_cons de_int (da_cons de_int da_nil))) (da_cons (de_tup (da_cons de_int (da_cons de_int da_nil))) da_nil))) da_nil)) (da_cons (de_tup (da_cons (de_tup (da_cons (de_tup (da_cons de_bl (da_cons de_int da_nil))) da_nil)) da_nil)) (da_cons de_str da_nil))))))))))))) da_nil))))
 (dss_cons (ds_asg (de_tup (da_cons (de_call (fd__law_pick T) (hr.mono (by decide)) (takes_of rfl rfl rfl rfl) rfl (da_cons (de_var (i := 1) rfl (by first | exact .inl rfl | exact .inr (.inl rfl) | exact .inr (.inr rfl))) (da_cons (de_lst (da_cons de_non (da_cons de_int (da_cons (de_tup (da_cons de_int da_nil)) (da_cons (de_tup (da_cons de_int (da_cons (de_tup (da_cons de_int (da_cons de_int da_nil))) da_nil))) (da_cons (de_tup (da_cons de_int (da_cons (de_tup (da_cons de_int da_nil)) da_nil))) (da_cons (de_tup (da_cons de_int (da_cons (de_tup (da_cons (de_un un_neg v_neg de_int) (da_cons de_int da_nil))) da_nil))) (da_cons (de_tup (da_cons de_bl (da_cons (de_tup (da_cons de_int (da_cons de_int da_nil))) da_nil))) (da_cons de_str da_nil))))))))) da_nil))) (da_cons (de_call (fd__law_pick T) (hr.mono (by decide)) (takes_of rfl rfl rfl rfl) rfl (da_cons (de_var (i := 1) rfl (by first | exact .inl rfl | exact .inr (.inl rfl) | exact .inr (.inr rfl))) (da_cons (de_lst (da_cons (de_un un_neg v_neg de_int) (da_cons de_int (da_cons de_non (da_cons de_bl (da_cons de_str da_nil)))))) da_nil))) da_nil))) (dg_tup (n := 2) rfl (dgs_cons (dg_name (vs := [5, 6]) (i := 5) sc.nd rfl (by first | exact .inl rfl | exact .inr rfl) (by decide)) (dgs_cons (dg_name (vs := [5, 6]) (i := 6) sc.nd rfl (by first | exact .inl rfl | exact .inr rfl) (by decide)) dgs_nil))))
 (dss_cons (ds_set (i := 7) sc.nd rfl (by first | exact .inl rfl | exact .inr rfl) (de_call (fd__law_pick T) (hr.mono (by decide)) (takes_of rfl rfl rfl rfl) rfl (da_cons (de_var (i := 1) rfl (by first | exact .inl rfl | exact .inr (.inl rfl) | exact .inr (.inr rfl))) (da_cons (de_lst (da_cons de_non (da_cons de_int (da_cons (de_tup da_nil) (da_cons (de_op op_times v_times (de_tup (da_cons (de_tup da_nil) da_nil)) de_int) (da_cons (de_tup (da_cons (de_tup (da_cons de_int (da_cons de_int da_nil))) da_nil)) (da_cons (de_tup (da_cons (de_tup (da_cons (de_tup (da_cons de_int da_nil)) da_nil)) da_nil)) (da_cons (de_tup (da_cons (de_tup (da_cons (de_tup (da_cons de_int (da_cons (de_un un_neg v_neg de_int) da_nil))) da_nil)) da_nil)) (da_cons (de_tup (da_cons (de_tup (da_cons (de_tup (da_cons de_bl (da_cons de_int da_nil))) da_nil)) da_nil)) (da_cons de_str da_nil)))))))))) da_nil))))
 (dss_cons (ds_set (i := 8) sc.nd rfl (by first | exact .inl rfl | exact .inr rfl) (de_new (da_cons (de_tup (da_cons (de_lam TB rfl rfl rfl rfl rfl (free_of FO (by decide))) (da_cons (de_tup (da_cons de_str (da_cons de_str (da_cons (de_var (i := 2) rfl (by first | exact .inl rfl | exact .inr (.inl rfl) | exact .inr (.inr rfl))) da_nil)))) da_nil))) da_nil)))
 (dss_cons (ds_expr (de_app (de_var (i := 8) rfl (by first | exact .inl rfl | exact .inr (.inl rfl) | exact .inr (.inr rfl))) (de_tup (da_cons (de_lam TB rfl rfl rfl rfl rfl (free_of FO (by decide))) (da_cons (de_tup (da_cons de_str (da_cons (de_var (i := 4) rfl (by first | exact .inl rfl | exact .inr (.inl rfl) | exact .inr (.inr rfl))) da_nil))) da_nil)))))
 (dss_cons (ds_expr (de_app (de_var (i := 8) rfl (by first | exact .inl rfl | exact .inr (.inl rfl) | exact .inr (.inr rfl))) (de_tup (da_cons (de_lam TB rfl rfl rfl rfl rfl (free_of FO (by decide))) (da_cons (de_tup (da_cons de_str (da_cons (de_var (i := 5) rfl (by first | exact .inl rfl | exact .inr (.inl rfl) | exact .inr (.inr rfl))) da_nil))) da_nil)))))
 (dss_cons (ds_expr (de_app (de_var (i := 8) rfl (by first | exact .inl rfl | exact .inr (.inl rfl) | exact .inr (.inr rfl))) (de_tup (da_cons (de_lam TB rfl rfl rfl rfl rfl (free_of FO (by decide))) (da_cons (de_tup (da_cons de_str (da_cons de_str (da_cons (de_var (i := 2) rfl (by first | exact .inl rfl | exact .inr (.inl rfl) | exact .inr (.inr rfl))) da_nil)))) da_nil)))))
 (dss_cons (ds_expr (de_app (de_var (i := 8) rfl (by first | exact .inl rfl | exact .inr (.inl rfl) | exact .inr (.inr rfl))) (de_tup (da_cons (de_lam TB rfl rfl rfl rfl rfl (free_of FO (by decide))) (da_cons (de_tup (da_cons de_str (da_cons (de_var (i := 4) rfl (by first | exact .inl rfl | exact .inr (.inl rfl) | exact .inr (.inr rfl))) da_nil))) da_nil)))))
 (dss_cons (ds_expr (de_app (de_var (i := 8) rfl (by first | exact .inl rfl | exact .inr (.inl rfl) | exact .inr (.inr rfl))) (de_tup (da_cons (de_lam TB rfl rfl rfl rfl rfl (free_of FO (by decide))) (da_cons (de_tup (da_cons de_str (da_cons de_str (da_cons (de_var (i := 6) rfl (by first | exact .inl rfl | exact .inr (.inl rfl) | exact .inr (.inr rfl))) da_nil)))) da_nil)))))
 (dss_cons (ds_expr (de_app (de_var (i := 8) rfl (by first | exact .inl rfl | exact .inr (.inl rfl) | exact .inr (.inr rfl))) (de_tup (da_cons (de_lam TB rfl rfl rfl rfl rfl (free_of FO (by decide))) (da_cons (de_tup (da_cons de_str (da_cons de_str (da_cons (de_var (i := 2) rfl (by first | exact .inl rfl | exact .inr (.inl rfl) | exact .inr (.inr rfl))) da_nil)))) da_nil)))))
 (dss_cons (ds_expr (de_app (de_var (i := 8) rfl (by first | exact .inl rfl | exact .inr (.inl rfl) | exact .inr (.inr rfl))) (de_tup (da_cons (de_lam TB rfl rfl rfl rfl rfl (free_of FO (by decide))) (da_cons (de_tup (da_cons de_str (da_cons (de_var (i := 7) rfl (by first | exact .inl rfl | exact .inr (.inl rfl) | exact .inr (.inr rfl))) da_nil))) da_nil)))))
 (dss_one (ds_ret (de_callL O CP (fd__law_are_due T) (hr.mono (by decide)) rfl (da_cons (de_var (i := 8) rfl (by first | exact .inl rfl | exact .inr (.inl rfl) | exact .inr (.inr rfl))) da_nil))))))))))))))))))) hm
end
end K63
/-! k63: the plain law: corners -/
namespace K63
open PySem PySem.Spec PyProof.Rows L2 DL
abbrev rD (rows : List (List Int)) : D := .tup (rows.map tI)
abbrev cD (cs : List (List (List Int))) : D := .tup (cs.map rD)
abbrev dv (q : Int × List Int) : D := .tup [.int q.1, tI q.2]
def isW : D → Bool
  | .int _ => true
  | _ => false
def smp : D → Bool
  | .non => true
  | .bl _ => true
  | .int _ => true
  | .str _ => true
  | .tup _ => true
  | .lst _ => true
  | _ => false
theorem whole_run {d : D} {st : Store} (h : smp d = true) : m_is_whole [d] st = .ok (.bl (isW d)) st := by
  cases d <;> first | rfl | exact absurd h Bool.false_ne_true
def tupOf (v : D) (k : Int) : Bool := match v with
  | .tup ds => (ds.length : Int) == k
  | _ => false
theorem tupof_run {v : D} {k : Int} {st : Store} (h : smp v = true) : m_is_tuple_of [v, .int k] st = .ok (.bl (tupOf v k)) st := by
  cases v <;> first | rfl | exact absurd h Bool.false_ne_true
def nnOk : D → Bool
  | .int n => decide (0 ≤ n)
  | _ => false
def acP (L : Int) (v : D) : Bool := match v with
  | .tup ds => ((ds.length : Int) == L) && ds.all nnOk
  | _ => false
def smp2 (v : D) : Bool := match v with
  | .tup ds => ds.all smp && decide (ds.length ≤ 1000)
  | .lst _ => true
  | .non => true
  | .bl _ => true
  | .int _ => true
  | .str _ => true
  | _ => false
theorem smp_of2 {v : D} (h : smp2 v = true) : smp v = true := by
  cases v <;> first | rfl | exact h
theorem nn_run {d : D} {st : Store} {δ : DEnv} {i : Nat} (hd : δ[i]? = some (some d)) (h : smp d = true) : eAnd (eCall 1 m_is_whole (aCons (eVar i) aNil)) (e2 (fCmp fun i j => decide (j ≤ i)) (eVar i) (eC (.int 0))) δ st = .ok (.bl (nnOk d)) st := by
  have hw := whole_run (st := st) h
  cases d with
  | int n => exact (eAnd_yes (call_run (one_run (var_run hd)) rfl hw)).trans (e2_run (var_run hd) c_run x_cmp)
  | _ => first
    | exact eAnd_not (call_run (one_run (var_run hd)) rfl hw)
    | exact absurd h Bool.false_ne_true
theorem smp2_tup {ds : List D} (h : smp2 (.tup ds) = true) : (∀ d ∈ ds, smp d = true) ∧ ds.length ≤ 1000 := by
  have h : (ds.all smp && decide (ds.length ≤ 1000)) = true := h
  rw [Bool.and_eq_true, List.all_eq_true] at h
  exact ⟨h.1, of_decide_eq_true h.2⟩
theorem acounts_run {v : D} {L : Int} {st : Store} (h : smp2 v = true) : m_are_counts [.int L, v] st = .ok (.bl (acP L v)) st := by
  have ht := tupof_run (k := L) (st := st) (smp_of2 h)
  have hc : eCall 2 m_is_tuple_of (aCons (eVar 1) (aCons (eVar 0) aNil)) [some (.int L), some v, none] st = .ok (.bl (tupOf v L)) st := call_run (cons_run (var_run rfl) (one_run (var_run rfl))) rfl ht
  unfold m_are_counts b_are_counts
  refine fn_ret (δ := [some (.int L), some v, none]) (ret_run ?_)
  cases v with
  | tup ds =>
    obtain ⟨h1, h2⟩ := smp2_tup h
    by_cases hl : ((ds.length : Int) == L) = true
    · have hc : eCall 2 m_is_tuple_of (aCons (eVar 1) (aCons (eVar 0) aNil)) [some (.int L), some (.tup ds), none] st = .ok (.bl true) st := by rw [hc, show tupOf (.tup ds) L = true from hl]
      refine (eAnd_yes hc).trans ?_
      have hx := comp_map (vs := [2]) (it := itSeq (eVar 1)) (g := gSet 2) (δ := [some (.int L), some (.tup ds), none]) (f := fun d => .bl (nnOk d)) (seqT_run (st := st) (var_run rfl)) h2 (fun d hd => ⟨[some (.int L), some (.tup ds), some d], rfl, nn_run (i := 2) rfl (h1 d hd)⟩)
      refine eN_run (one_run hx) ?_
      rw [all_map]
      show some (D.bl (ds.all nnOk)) = some (D.bl (((ds.length : Int) == L) && ds.all nnOk))
      rw [hl]
      rfl
    · have hl : ((ds.length : Int) == L) = false := by simpa using hl
      have hc : eCall 2 m_is_tuple_of (aCons (eVar 1) (aCons (eVar 0) aNil)) [some (.int L), some (.tup ds), none] st = .ok (.bl false) st := by rw [hc, show tupOf (.tup ds) L = false from hl]
      refine (eAnd_not hc).trans ?_
      show _ = Res.ok (D.bl (((ds.length : Int) == L) && ds.all nnOk)) st
      rw [hl]
      rfl
  | _ => first
    | exact eAnd_not hc
    | exact absurd h Bool.false_ne_true
/-- a row of counts -/
structure Rw (L : Int) (r : List Int) : Prop where
  len : (r.length : Int) = L
  lo : ∀ n ∈ r, 0 ≤ n
  hi : ∀ n ∈ r, n ≤ 100
theorem Rw.le {L : Int} {r : List Int} (h : Rw L r) (h3 : L ≤ 3) : r.length ≤ 3 := by have := h.len; omega
theorem smp2_ints {ns : List Int} (h : ns.length ≤ 1000) : smp2 (tI ns) = true := by
  show ((ns.map D.int).all smp && decide ((ns.map D.int).length ≤ 1000)) = true
  rw [Bool.and_eq_true, List.all_eq_true]
  refine ⟨fun x hx => ?_, by simpa using h⟩
  obtain ⟨n, _, rfl⟩ := List.mem_map.mp hx
  rfl
theorem ac_row {L : Int} {r : List Int} (h : Rw L r) : acP L (tI r) = true := by
  show (((r.map D.int).length : Int) == L && (r.map D.int).all nnOk) = true
  rw [List.length_map, Bool.and_eq_true, beq_iff_eq, List.all_eq_true]
  refine ⟨h.len, fun x hx => ?_⟩
  obtain ⟨n, hn, rfl⟩ := List.mem_map.mp hx
  exact decide_eq_true (h.lo n hn)
theorem acrow_run {L : Int} {r : List Int} {st : Store} (h : Rw L r) (h3 : L ≤ 3) : m_are_counts [.int L, tI r] st = .ok (.bl true) st := by
  rw [acounts_run (smp2_ints (by have := h.le h3; omega)), ac_row h]
/-! ### one over the other -/
theorem comp_zipG {A : AM} {f : Int → Int → Bool} {i j : Nat} {δ : DEnv} {xs ys : List Int} {st : Store} (hA : A δ st = .ok [tI xs, tI ys] st) (hx : xs.length ≤ 1000) (hi : i < δ.length) (hj : j < δ.length) (hij : i ≠ j) :
    eN fAll (aCons (eComp [i, j] (itZip A) (gTupD 2 (gsCons (gSet i) (gsCons (gSet j) gsNil))) tYesM (e2 (fCmp f) (eVar i) (eVar j))) aNil) δ st = .ok (.bl ((xs.zip ys).all fun p => f p.1 p.2)) st := by
  have hz := zip_run hA
  rw [zipI] at hz
  refine eN_run (one_run (comp_mapK (k := fun p : Int × Int => D.tup [.int p.1, .int p.2]) (f := fun p : Int × Int => .bl (f p.1 p.2)) hz (by rw [List.length_zip]; omega) fun p _ => ⟨((wipeD δ [i, j]).set i (some (.int p.1))).set j (some (.int p.2)), rfl, ?_⟩)) all_map
  have l : (wipeD δ [i, j]).length = δ.length := by simp only [wipeD, List.length_set]
  have q1 : (((wipeD δ [i, j]).set i (some (D.int p.1))).set j (some (D.int p.2)))[i]? = some (some (D.int p.1)) := by
    rw [List.getElem?_set_ne (Ne.symm hij)]
    exact List.getElem?_set_self (by rw [l]; exact hi)
  have q2 : (((wipeD δ [i, j]).set i (some (D.int p.1))).set j (some (D.int p.2)))[j]? = some (some (D.int p.2)) := List.getElem?_set_self (by rw [List.length_set, l]; exact hj)
  exact e2_run (var_run q1) (var_run q2) x_cmp
def cov (a b : List Int) : Bool := (a.zip b).all fun p => decide (p.2 ≤ p.1)
theorem covers_run {a b : List Int} {st : Store} (hl : a.length ≤ 1000) : m_covers [tI a, tI b] st = .ok (.bl (cov a b)) st := by
  unfold m_covers b_covers
  exact fn_ret (δ := [some (tI a), some (tI b), none, none]) (ret_run (comp_zipG (f := fun i j => decide (j ≤ i)) (cons_run (var_run rfl) (one_run (var_run rfl))) hl (Nat.le_of_ble_eq_true rfl) (Nat.le_of_ble_eq_true rfl) (by decide)))
/-! ### handed in -/
def Nest : Nat → D → D → Prop
  | 0, _, _ => False
  | n + 1, v, w => (∃ i, v = .int i ∧ w = .int i) ∨ ∃ ds es, (v = .tup ds ∨ v = .lst ds) ∧ ds.length ≤ 1000 ∧ Rel2 (Nest n) ds es ∧ w = .tup es
theorem Nest.int {n : Nat} {i : Int} : Nest (n + 1) (.int i) (.int i) := .inl ⟨i, rfl, rfl⟩
theorem Nest.seq {n : Nat} {v : D} {ds es : List D} (hv : v = .tup ds ∨ v = .lst ds) (hl : ds.length ≤ 1000) (h : Rel2 (Nest n) ds es) : Nest (n + 1) v (.tup es) := .inr ⟨ds, es, hv, hl, h, rfl⟩
theorem int_int {m : List D → M D} {i : Int} {st : Store} : b_in_tuples m [.int i] st = .ok (.int i) st := rfl
theorem int_step {m : List D → M D} {ds es : List D} {v : D} {st : Store} (hv : v = .tup ds ∨ v = .lst ds) (hl : ds.length ≤ 1000) (h : Rel2 (fun d e => m [d] st = .ok e st) ds es) : b_in_tuples m [v] st = .ok (.tup es) st := by
  have hk : (kdOf st v).bind isi_tupleList = some true := by rcases hv with rfl | rfl <;> rfl
  have hs : itSeq (eVar 0) [some v, none] st = .ok (ds, none) st := by
    rcases hv with rfl | rfl
    · exact seqT_run (var_run rfl)
    · exact seq_run (var_run rfl)
  unfold b_in_tuples
  refine fn_ret (δ := [some v, none]) ((seq_next ((if_not (not_run (tOf_run (isi_run (var_run rfl) hk)))).trans rfl)).trans (ret_run (eN_run (one_run (comp_run hs hl (compL_rel (h.imp fun d e q => ⟨[some v, some d], rfl, call_run (one_run (var_run rfl)) rfl q⟩)))) rfl)))
theorem nest_run {st : Store} : ∀ {n : Nat} {v w : D}, Nest n v w → mN_in_tuples n [v] st = .ok w st
  | 0, _, _, h => False.elim h
  | n + 1, v, w, h => by
    rcases h with ⟨i, rfl, rfl⟩ | ⟨ds, es, hv, hl, h, rfl⟩
    · exact int_int
    · exact int_step (m := mN_in_tuples n) hv hl (h.imp fun _ _ q => nest_run q)
theorem in_run {v w : D} {st : Store} (h : Nest 6 v w) : m_in_tuples [v] st = .ok w st := nest_run h
theorem nest_ints {n : Nat} : ∀ {ns : List Int}, Rel2 (Nest (n + 1)) (ns.map D.int) (ns.map D.int)
  | [] => .nil
  | i :: ns => .cons Nest.int (nest_ints (ns := ns))
theorem nest_row {n : Nat} {ns : List Int} {v : D} (hl : ns.length ≤ 1000) (hv : v = tI ns ∨ v = .lst (ns.map D.int)) : Nest (n + 2) v (tI ns) := Nest.seq hv (by simpa using hl) nest_ints
theorem rel_map {α : Type} {r : D → D → Prop} {f g : α → D} : ∀ {xs : List α}, (∀ x ∈ xs, r (f x) (g x)) → Rel2 r (xs.map f) (xs.map g)
  | [], _ => .nil
  | x :: xs, h => .cons (h x List.mem_cons_self) (rel_map fun y hy => h y (List.mem_cons_of_mem _ hy))
/-- corners that are such -/
structure Rows (L : Int) (rows : List (List Int)) : Prop where
  few : rows.length ≤ 60
  rw : ∀ r ∈ rows, Rw L r
structure Anti (rows : List (List Int)) : Prop where
  asc : Asc rows
  anti : ∀ a ∈ rows, ∀ b ∈ rows, a ≠ b → cov a b = false
structure Tb (L : Int) (cs : List (List (List Int))) : Prop where
  l1 : 1 ≤ L
  l3 : L ≤ 3
  c1 : 1 ≤ cs.length
  c3 : cs.length ≤ 3
  rows : ∀ rows ∈ cs, Rows L rows
theorem nest_self {L : Int} {cs : List (List (List Int))} (h : Tb L cs) : Nest 6 (cD cs) (cD cs) := by
  refine Nest.seq (.inl rfl) (by rw [List.length_map]; have := h.c3; omega) (rel_map fun rows hr => ?_)
  have hR := h.rows rows hr
  refine Nest.seq (.inl rfl) (by rw [List.length_map]; have := hR.few; omega) (rel_map fun r hr' => ?_)
  exact nest_row (by have := (hR.rw r hr').le h.l3; omega) (.inl rfl)
section
variable {L : Int} {cs : List (List (List Int))} {rows : List (List Int)} {v : D} {st : Store}
theorem x_ltI {a b : List Int} : fLtT st (tI a) (tI b) = some (.bl (HT.lexLt a b)) := by
  unfold fLtT
  dsimp only
  rw [intsOf_map', intsOf_map']
theorem asc_get (h : Asc rows) {i : Nat} {a b : List Int} (h1 : rows[i]? = some a) (h2 : rows[i + 1]? = some b) : HT.lexLt a b = true := by
  obtain ⟨l1, e1⟩ := List.getElem?_eq_some_iff.mp h1
  obtain ⟨l2, e2⟩ := List.getElem?_eq_some_iff.mp h2
  have := List.pairwise_iff_getElem.mp h i (i + 1) l1 l2 (by omega)
  rw [e1, e2] at this
  exact this
theorem crows_run (h3 : L ≤ 3) (hR : Rows L rows) (hA : Anti rows) : m_are_corner_rows [.int L, rD rows] st = .ok (.bl true) st := by
  unfold m_are_corner_rows b_are_corner_rows
  have len : (rows.map tI).length = rows.length := List.length_map ..
  have few := hR.few
  have t1 : eN fAll (aCons (eComp [3] (itSeq (eVar 1)) (gSet 3) tYesM (eCall 2 m_are_counts (aCons (eVar 0) (aCons (eVar 3) aNil)))) aNil) [some (.int L), some (rD rows), none, none, none, none] st = .ok (.bl true) st := by
    refine eN_run (one_run (comp_mapK (k := tI) (f := fun _ => .bl true) (seqT_run (var_run rfl)) (by omega) fun r hr => ⟨[some (.int L), some (rD rows), none, some (tI r), none, none], rfl, call_run (cons_run (var_run rfl) (one_run (var_run rfl))) rfl (acrow_run (hR.rw r hr) h3)⟩)) ?_
    rw [all_map (p := fun _ => true)]
    simp
  have t2 : eN fAll (aCons (eComp [4] (itRange1 (e2 fSub (eN fLen (aCons (eVar 1) aNil)) (eC (.int 1)))) (gSet 4) tYesM (e2 fLtT (e2 fItem (eVar 1) (eVar 4)) (e2 fItem (eVar 1) (e2 fPlus (eVar 4) (eC (.int 1)))))) aNil) [some (.int L), some (rD rows), none, none, none, none] st = .ok (.bl true) st := by
    have hi : itRange1 (e2 fSub (eN fLen (aCons (eVar 1) aNil)) (eC (.int 1))) [some (.int L), some (rD rows), none, none, none, none] st = .ok (rangeD 0 ((rows.length : Int) - 1).toNat, none) st := by
      refine rng_run (e2_run (eN_run (one_run (var_run rfl)) x_lenT) c_run ?_) (by omega) (by omega)
      rw [len]
      rfl
    refine eN_run (one_run (comp_mapK (xs := List.range ((rows.length : Int) - 1).toNat) (k := fun (i : Nat) => D.int (0 + (i : Int))) (f := fun _ => .bl true) hi (by rw [List.length_range]; omega) fun i hi => ⟨[some (.int L), some (rD rows), none, none, some (.int (0 + (i : Int))), none], rfl, ?_⟩)) ?_
    · have hi := List.mem_range.mp hi
      have l1 : i < rows.length := by omega
      have l2 : i + 1 < rows.length := by omega
      have g1 : rows[i]? = some rows[i] := List.getElem?_eq_getElem l1
      have g2 : rows[i + 1]? = some rows[i + 1] := List.getElem?_eq_getElem l2
      have := asc_get hA.asc g1 g2
      refine e2_run (e2_run (x := rD rows) (var_run rfl) (var_run rfl) (item_run (xs := rows.map tI) (x := tI rows[i]) rfl (by omega) ?_)) (e2_run (x := rD rows) (var_run rfl) (e2_run (var_run rfl) c_run x_plus) (item_run (xs := rows.map tI) (x := tI rows[i + 1]) rfl (by omega) ?_)) (by rw [x_ltI, this])
      · rw [show (0 + (i : Int)).toNat = i by omega, List.getElem?_map, g1]
        rfl
      · rw [show (0 + (i : Int) + 1).toNat = i + 1 by omega, List.getElem?_map, g2]
        rfl
    · rw [all_map (p := fun _ => true)]
      simp
  obtain ⟨δ', g1, g2⟩ := for_mem (P := fun δ => ∃ y2, δ = [some (.int L), some (rD rows), y2, none, none, none]) (g := gSet 2) (st := st) (all := rows.map tI) (ds := rows.map tI) (δ := [some (.int L), some (rD rows), none, none, none, none])
    (body := sIf (tOf (eN fAny (aCons (eComp [5] (itSeq (eVar 1)) (gSet 5) tYesM (eAnd (e2 fNe (eVar 2) (eVar 5)) (eCall 2 m_covers (aCons (eVar 2) (aCons (eVar 5) aNil))))) aNil))) (sRet (eC (.bl false))) sNil) (fun d hd δ hP => by
      obtain ⟨y2, rfl⟩ := hP
      obtain ⟨a, ha, rfl⟩ := List.mem_map.mp hd
      refine ⟨[some (.int L), some (rD rows), some (tI a), none, none, none], [some (.int L), some (rD rows), some (tI a), none, none, none], rfl, ?_, _, rfl⟩
      have hal := (hR.rw a ha).le h3
      have t : eN fAny (aCons (eComp [5] (itSeq (eVar 1)) (gSet 5) tYesM (eAnd (e2 fNe (eVar 2) (eVar 5)) (eCall 2 m_covers (aCons (eVar 2) (aCons (eVar 5) aNil))))) aNil) [some (.int L), some (rD rows), some (tI a), none, none, none] st = .ok (.bl false) st := by
        refine eN_run (one_run (comp_mapK (k := tI) (f := fun _ => .bl false) (seqT_run (var_run rfl)) (by omega) fun b hb => ⟨[some (.int L), some (rD rows), some (tI a), none, none, some (tI b)], rfl, ?_⟩)) ?_
        · have hne : e2 fNe (eVar 2) (eVar 5) [some (.int L), some (rD rows), some (tI a), none, none, some (tI b)] st = .ok (.bl (!(a == b))) st := e2_run (var_run rfl) (var_run rfl) ne_tI
          by_cases e : a = b
          · rw [beq_iff_eq.mpr e] at hne
            exact eAnd_not hne
          · rw [beq_eq_false_iff_ne.mpr e] at hne
            refine (eAnd_yes hne).trans (call_run (cons_run (var_run rfl) (one_run (var_run rfl))) rfl ?_)
            rw [covers_run (by omega), hA.anti a ha b hb e]
        · rw [any_map (p := fun _ => false)]
          simp
      exact (if_not (tOf_run t)).trans rfl) ⟨none, rfl⟩
  have t0 : tNotM (tOf (eIsi isi_tuple (eVar 1))) [some (.int L), some (rD rows), none, none, none, none] st = .ok false st := not_run (tOf_run (isi_run (b := true) (var_run rfl) rfl))
  refine fn_ret (δ := δ') ((seq_next ((if_not ((or_not t0).trans (not_run (tOf_run t1)))).trans rfl)).trans ?_)
  refine (seq_next ((if_not (not_run (tOf_run t2))).trans rfl)).trans ?_
  exact (seq_next (for_run (seqT_run (var_run rfl)) g1)).trans (ret_run c_run)
theorem between_run {w : Str} {x lo hi : Int} (h1 : lo ≤ x) (h2 : x ≤ hi) : m_need_between [.str w, .int x, .int lo, .int hi] st = .ok .non st := by
  unfold m_need_between b_need_between
  have a1 : decide (x < lo) = false := decide_eq_false (by omega)
  have a2 : decide (hi < x) = false := decide_eq_false (by omega)
  have t1 : tOf (eCall 1 m_is_whole (aCons (eVar 1) aNil)) [some (.str w), some (.int x), some (.int lo), some (.int hi)] st = .ok true st := tOf_run (call_run (one_run (var_run rfl)) rfl (whole_run (d := .int x) rfl))
  have t2 : tOf (e2 (fCmp fun i j => decide (i < j)) (eVar 1) (eVar 2)) [some (.str w), some (.int x), some (.int lo), some (.int hi)] st = .ok false st := tOf_run (e2_run (var_run rfl) (var_run rfl) (by rw [x_cmp, a1]))
  have t3 : tOf (e2 (fCmp fun i j => decide (j < i)) (eVar 1) (eVar 3)) [some (.str w), some (.int x), some (.int lo), some (.int hi)] st = .ok false st := tOf_run (e2_run (var_run rfl) (var_run rfl) (by rw [x_cmp, a2]))
  have t4 : tOf (e2 fNotN (eVar 2) (eC .non)) [some (.str w), some (.int x), some (.int lo), some (.int hi)] st = .ok true st := tOf_run (e2_run (var_run rfl) c_run rfl)
  have t5 : tOf (e2 fNotN (eVar 3) (eC .non)) [some (.str w), some (.int x), some (.int lo), some (.int hi)] st = .ok true st := tOf_run (e2_run (var_run rfl) c_run rfl)
  refine fn_next (δ := [some (.str w), some (.int x), some (.int lo), some (.int hi)]) ((seq_next ((if_not (not_run t1)).trans rfl)).trans ?_)
  exact (if_not ((or_not ((and_yes t4).trans t2)).trans ((and_yes t5).trans t3))).trans rfl
/-- the head of corners_from and of least_corners: a table of one to three -/
theorem size_run {δ : DEnv} (h : Tb L cs) (h2 : δ[2]? = some (some (cD cs))) : tOrM (tNotM (tOf (eIsi isi_tuple (eVar 2)))) (tNotM (tOf (eChain (fun i j => decide (i ≤ j)) (fun i j => decide (i ≤ j)) (eC (.int 1)) (eN fLen (aCons (eVar 2) aNil)) (eC (.int 3))))) δ st = .ok false st := by
  have t0 : tNotM (tOf (eIsi isi_tuple (eVar 2))) δ st = .ok false st := not_run (tOf_run (isi_run (b := true) (var_run h2) rfl))
  have hc := chain_run (f := fun i j => decide (i ≤ j)) (g := fun i j => decide (i ≤ j)) (a := eC (.int 1)) (b := eN fLen (aCons (eVar 2) aNil)) (c := eC (.int 3)) (δ := δ) (st := st) c_run (eN_run (one_run (var_run h2)) x_lenT) c_run
  have c1 := h.c1
  have c3 := h.c3
  rw [List.length_map, decide_eq_true (by omega), decide_eq_true (by omega)] at hc
  exact (or_not t0).trans (not_run (tOf_run hc))
theorem cfrom_run (h : Tb L cs) (hA : ∀ rows ∈ cs, Anti rows) (hv : Nest 6 v (cD cs)) : m_corners_from [.int L, v] st = .ok (cD cs) st := by
  unfold m_corners_from b_corners_from
  have t1 : eN fAll (aCons (eComp [3] (itSeq (eVar 2)) (gSet 3) tYesM (eCall 2 m_are_corner_rows (aCons (eVar 0) (aCons (eVar 3) aNil)))) aNil) [some (.int L), some v, some (cD cs), none] st = .ok (.bl true) st := by
    refine eN_run (one_run (comp_mapK (k := rD) (f := fun _ => .bl true) (seqT_run (var_run rfl)) (by have := h.c3; omega) fun r hr => ⟨[some (.int L), some v, some (cD cs), some (rD r)], rfl, call_run (cons_run (var_run rfl) (one_run (var_run rfl))) rfl (crows_run h.l3 (h.rows r hr) (hA r hr))⟩)) ?_
    rw [all_map (p := fun _ => true)]
    simp
  refine fn_ret (δ := [some (.int L), some v, some (cD cs), none]) ((seq_next (ex_run (call_run (cons_run c_run (cons_run (var_run rfl) (cons_run c_run (one_run c_run)))) rfl (between_run h.l1 h.l3)))).trans ?_)
  refine (seq_next (set_run (call_run (one_run (var_run rfl)) rfl (in_run hv)))).trans ?_
  refine (seq_next ((if_not (size_run h rfl)).trans rfl)).trans ?_
  exact (seq_next ((if_not (not_run (tOf_run t1))).trans rfl)).trans (ret_run (var_run rfl))
/-! ### what is open -/
def opn (cs : List (List (List Int))) (q : Int × List Int) : Bool := !((cs[q.1.toNat]?.getD []).any fun c => cov q.2 c)
theorem openby_run {q : Int × List Int} (h : Tb L cs) (h0 : 0 ≤ q.1) (h1 : q.1 < cs.length) (hq : q.2.length ≤ 1000) : m_open_by [cD cs, dv q] st = .ok (.bl (opn cs q)) st := by
  have hl : q.1.toNat < cs.length := by omega
  have g : cs[q.1.toNat]? = some cs[q.1.toNat] := List.getElem?_eq_getElem hl
  have few := (h.rows _ (List.getElem_mem hl)).few
  have hit : itSeq (e2 fItem (eVar 0) (eVar 2)) [some (cD cs), some (dv q), some (.int q.1), some (tI q.2), none] st = .ok ((cs[q.1.toNat]).map tI, none) st := by
    refine seqT_run (e2_run (x := cD cs) (var_run rfl) (var_run rfl) (item_run (xs := cs.map rD) rfl h0 ?_))
    rw [List.getElem?_map, g]
    rfl
  have t : eN fAny (aCons (eComp [4] (itSeq (e2 fItem (eVar 0) (eVar 2))) (gSet 4) tYesM (eCall 2 m_covers (aCons (eVar 3) (aCons (eVar 4) aNil)))) aNil) [some (cD cs), some (dv q), some (.int q.1), some (tI q.2), none] st = .ok (.bl ((cs[q.1.toNat]).any fun c => cov q.2 c)) st := by
    refine eN_run (one_run (comp_mapK (k := tI) (f := fun c => .bl (cov q.2 c)) hit (by omega) fun c hc => ⟨[some (cD cs), some (dv q), some (.int q.1), some (tI q.2), some (tI c)], rfl, call_run (cons_run (var_run rfl) (one_run (var_run rfl))) rfl (covers_run hq)⟩)) any_map
  unfold m_open_by b_open_by opn
  rw [g]
  exact fn_ret (δ := [some (cD cs), some (dv q), some (.int q.1), some (tI q.2), none]) ((seq_next (asg_run (var_run rfl) rfl)).trans (ret_run (eNot_run t)))
theorem dfrom_run {q : Int × List Int} {v : D} (h : Tb L cs) (h0 : 0 ≤ q.1) (h1 : q.1 < cs.length) (hq : Rw L q.2) (hv : Nest 6 v (dv q)) : m_derivative_from [.int L, cD cs, v] st = .ok (dv q) st := by
  unfold m_derivative_from b_derivative_from
  have l3 := h.l3
  have c1 : tNotM (tOf (eCall 2 m_is_tuple_of (aCons (eVar 3) (aCons (eC (.int 2)) aNil)))) [some (.int L), some (cD cs), some v, some (dv q)] st = .ok false st := not_run (tOf_run (call_run (cons_run (var_run rfl) (one_run c_run)) rfl (tupof_run (v := dv q) (k := 2) rfl)))
  have c2 : tNotM (tOf (eCall 1 m_is_whole (aCons (e2 fItem (eVar 3) (eC (.int 0))) aNil))) [some (.int L), some (cD cs), some v, some (dv q)] st = .ok false st := not_run (tOf_run (call_run (one_run (e2_run (var_run rfl) c_run x_item0)) rfl (whole_run (d := .int q.1) rfl)))
  have c3 : tNotM (tOf (eCall 2 m_are_counts (aCons (eVar 0) (aCons (e2 fItem (eVar 3) (eC (.int 1))) aNil)))) [some (.int L), some (cD cs), some v, some (dv q)] st = .ok false st := not_run (tOf_run (call_run (cons_run (var_run rfl) (one_run (e2_run (var_run rfl) c_run x_item1))) rfl (acrow_run hq l3)))
  have hc := chain_run (f := fun i j => decide (i ≤ j)) (g := fun i j => decide (i < j)) (a := eC (.int 0)) (b := e2 fItem (eVar 3) (eC (.int 0))) (c := eN fLen (aCons (eVar 1) aNil)) (δ := [some (.int L), some (cD cs), some v, some (dv q)]) (st := st) c_run (e2_run (var_run rfl) c_run x_item0) (eN_run (one_run (var_run rfl)) x_lenT)
  rw [List.length_map, decide_eq_true h0, decide_eq_true h1] at hc
  refine fn_ret (δ := [some (.int L), some (cD cs), some v, some (dv q)]) ((seq_next (set_run (call_run (one_run (var_run rfl)) rfl (in_run hv)))).trans ?_)
  refine (seq_next ((if_not ((or_not c1).trans ((or_not c2).trans c3))).trans rfl)).trans ?_
  exact (seq_next ((if_not (not_run (tOf_run hc))).trans rfl)).trans (ret_run (var_run rfl))
theorem openat_run {q : Int × List Int} {v v2 : D} (h : Tb L cs) (hA : ∀ rows ∈ cs, Anti rows) (hv : Nest 6 v (cD cs)) (h0 : 0 ≤ q.1) (h1 : q.1 < cs.length) (hq : Rw L q.2) (hv2 : Nest 6 v2 (dv q)) : m_open_at [.int L, v, v2] st = .ok (.bl (opn cs q)) st := by
  unfold m_open_at b_open_at
  refine fn_ret (δ := [some (.int L), some v, some v2, some (cD cs)]) ((seq_next (set_run (call_run (cons_run (var_run rfl) (one_run (var_run rfl))) rfl (cfrom_run h hA hv)))).trans ?_)
  refine ret_run (call_run (cons_run (var_run rfl) (one_run (call_run (cons_run (var_run rfl) (cons_run (var_run rfl) (one_run (var_run rfl)))) rfl (dfrom_run h h0 h1 hq hv2)))) rfl (openby_run h h0 h1 ?_))
  have := hq.le h.l3
  omega
theorem orows_run {Ln : Nat} {O : Int} (hL : Ln ≤ 3) (ok : okG O Ln = true) : m_order_rows [.int Ln, .int O] st = .ok (.lst ((rowsP O Ln).map tI)) st := by
  unfold m_order_rows b_order_rows
  obtain ⟨δ', g1, g2, g3⟩ := rowsG_for (fs := [(0, .int Ln), (1, .int O)]) (N := 7) (s0 := 0) (so := 1) (sr := 2) (sk := 3) (sm := 4) (sw := 5) (sn := 6) (O := O) (L := Ln) (st := st) (rg := e2 fPlus (e2 fSub (eVar 1) (eN fSum (aCons (eVar 5) aNil))) (eC (.int 1))) (δ := [some (.int Ln), some (.int O), some (.lst [tI []]), none, none, none, none]) (by simp)
    (fun δ row hF hw => e2_run (e2_run (var_run (hF.2 (1, .int O) (by simp))) (eN_run (one_run (var_run hw)) x_sumT) rfl) c_run rfl) (by simp) (by decide) (by decide) (by decide) (by decide) (by decide) (by decide) (by decide) (by decide) (by decide) (by decide) hL ok ⟨rfl, by
    intro p hp
    simp only [List.mem_cons, List.not_mem_nil, or_false] at hp
    rcases hp with rfl | rfl <;> rfl⟩ rfl
  refine fn_ret (δ := δ') ((seq_next (set_run (lst_run (one_run (tup_run nil_run (Nat.le_of_ble_eq_true rfl))) (Nat.le_of_ble_eq_true rfl)))).trans ?_)
  exact (seq_next g1).trans (ret_run (var_run g3))
theorem lrows_run {Ln : Nat} {O : Int} (hL : Ln ≤ 3) (ok : okG O Ln = true) : m__law_all_counts [.int Ln, .int O] st = .ok (.lst ((rowsP O Ln).map tI)) st := by
  unfold m__law_all_counts b__law_all_counts
  obtain ⟨δ', g1, g2, g3⟩ := rowsG_for (fs := [(0, .int Ln), (1, .int O)]) (N := 7) (s0 := 0) (so := 1) (sr := 2) (sk := 3) (sm := 4) (sw := 5) (sn := 6) (O := O) (L := Ln) (st := st) (rg := e2 fSub (e2 fPlus (eVar 1) (eC (.int 1))) (eN fSum (aCons (eVar 5) aNil))) (δ := [some (.int Ln), some (.int O), some (.lst [tI []]), none, none, none, none]) (by simp)
    (fun δ row hF hw => by
      have := e2_run (st := st) (st1 := st) (st2 := st) (f := fSub) (e2_run (f := fPlus) (var_run (hF.2 (1, .int O) (by simp))) (c_run (d := .int 1)) rfl) (eN_run (one_run (var_run hw)) x_sumT) x_sub
      rw [show O + 1 - row.sum = O - row.sum + 1 by omega] at this
      exact this) (by simp) (by decide) (by decide) (by decide) (by decide) (by decide) (by decide) (by decide) (by decide) (by decide) (by decide) hL ok ⟨rfl, by
    intro p hp
    simp only [List.mem_cons, List.not_mem_nil, or_false] at hp
    rcases hp with rfl | rfl <;> rfl⟩ rfl
  refine fn_ret (δ := δ') ((seq_next (set_run (lst_run (one_run (tup_run nil_run (Nat.le_of_ble_eq_true rfl))) (Nat.le_of_ble_eq_true rfl)))).trans ?_)
  exact (seq_next g1).trans (ret_run (var_run g3))
end
end K63
/-! k63: the plain law: what is open, the least -/
namespace K63
open PySem PySem.Spec PyProof.Rows L2 DL
/-! ### pure -/
theorem cov_trans : ∀ {a b c : List Int}, a.length = b.length → b.length = c.length → cov a b = true → cov b c = true → cov a c = true
  | [], [], [], _, _, _, _ => rfl
  | x :: a, y :: b, z :: c, h1, h2, q1, q2 => by
    unfold cov at q1 q2 ⊢
    simp only [List.zip_cons_cons, List.all_cons, Bool.and_eq_true, decide_eq_true_eq] at q1 q2 ⊢
    exact ⟨by omega, cov_trans (by simpa using h1) (by simpa using h2) q1.2 q2.2⟩
  | [], _ :: _, _, h, _, _, _ => by simp at h
  | _ :: _, [], _, h, _, _, _ => by simp at h
  | _, [], _ :: _, _, h, _, _ => by simp at h
  | _, _ :: _, [], _, h, _, _ => by simp at h
theorem cov_sum : ∀ {a b : List Int}, a.length = b.length → cov a b = true → b.sum ≤ a.sum ∧ (b.sum = a.sum → a = b)
  | [], [], _, _ => ⟨Int.le_refl _, fun _ => rfl⟩
  | x :: a, y :: b, h, q => by
    unfold cov at q
    simp only [List.zip_cons_cons, List.all_cons, Bool.and_eq_true, decide_eq_true_eq] at q
    obtain ⟨i1, i2⟩ := cov_sum (a := a) (b := b) (by simpa using h) q.2
    simp only [List.sum_cons]
    refine ⟨by omega, fun e => ?_⟩
    rw [show x = y by omega, i2 (by omega)]
  | [], _ :: _, h, _ => by simp at h
  | _ :: _, [], h, _ => by simp at h
theorem sum_nn : ∀ {a : List Int}, (∀ n ∈ a, 0 ≤ n) → 0 ≤ a.sum
  | [], _ => Int.le_refl _
  | x :: a, h => by
    have := sum_nn (a := a) fun n hn => h n (List.mem_cons_of_mem _ hn)
    have := h x List.mem_cons_self
    simp only [List.sum_cons]
    omega
def minQ (S : List (List Int)) (one : List Int) : Bool := !(S.any fun other => !(one == other) && cov one other)
theorem minQ_iff {S : List (List Int)} {one : List Int} : minQ S one = true ↔ ∀ b ∈ S, one ≠ b → cov one b = false := by
  unfold minQ
  rw [Bool.not_eq_true', List.any_eq_false]
  constructor
  · intro h b hb hne
    have := h b hb
    rw [beq_eq_false_iff_ne.mpr hne] at this
    simpa using this
  · intro h b hb
    by_cases e : one = b
    · rw [beq_iff_eq.mpr e]
      simp
    · rw [beq_eq_false_iff_ne.mpr e, h b hb e]
      simp
theorem minQ_congr {S S' : List (List Int)} (h : ∀ x, x ∈ S ↔ x ∈ S') (one : List Int) : minQ S one = minQ S' one := by
  have : minQ S one = true ↔ minQ S' one = true := by
    rw [minQ_iff, minQ_iff]
    exact ⟨fun q b hb => q b ((h b).mpr hb), fun q b hb => q b ((h b).mp hb)⟩
  exact Bool.eq_iff_iff.mpr this
def leastP (rs : List (List Int)) : List (List Int) := (sortU rs).filter (minQ (sortU rs))
theorem least_mem {rs : List (List Int)} {x : List Int} : x ∈ leastP rs ↔ x ∈ rs ∧ minQ rs x = true := by
  unfold leastP
  rw [List.mem_filter, sortU_mem, minQ_congr (fun x => sortU_mem) x]
theorem least_anti (rs : List (List Int)) : Anti (leastP rs) := by
  refine ⟨List.Pairwise.filter _ (sortU_asc rs), fun a ha b hb hne => ?_⟩
  obtain ⟨_, h2⟩ := least_mem.mp ha
  exact minQ_iff.mp h2 b (least_mem.mp hb).1 hne
theorem least_rows {L : Int} {rs : List (List Int)} (h : Rows L rs) : Rows L (leastP rs) := by
  refine ⟨?_, fun r hr => h.rw r (least_mem.mp hr).1⟩
  have h1 := List.length_filter_le (minQ (sortU rs)) (sortU rs)
  have h2 := sortU_len rs
  have := h.few
  unfold leastP
  omega
theorem mine_eq (own : List (List Int)) : sortU (own.filter (minQ own)) = leastP own := by
  refine asc_uniq (sortU_asc _) (least_anti own).asc fun x => ?_
  rw [sortU_mem, least_mem, List.mem_filter]
theorem least_below {L : Int} {rs : List (List Int)} (h : Rows L rs) : ∀ (n : Nat) (c : List Int), c ∈ rs → c.sum ≤ n → ∃ m ∈ leastP rs, m = c ∨ cov c m = true := by
  intro n
  induction n with
  | zero =>
    intro c hc hs
    by_cases q : minQ rs c = true
    · exact ⟨c, least_mem.mpr ⟨hc, q⟩, .inl rfl⟩
    · exfalso
      apply q
      rw [minQ_iff]
      intro b hb hne
      by_cases e : cov c b = true
      · have l : c.length = b.length := by have := (h.rw c hc).len; have := (h.rw b hb).len; omega
        obtain ⟨s1, s2⟩ := cov_sum l e
        have := sum_nn (h.rw b hb).lo
        exact absurd (s2 (by omega)) hne
      · simpa using e
  | succ n ih =>
    intro c hc hs
    by_cases q : minQ rs c = true
    · exact ⟨c, least_mem.mpr ⟨hc, q⟩, .inl rfl⟩
    · have q' : ∃ b ∈ rs, c ≠ b ∧ cov c b = true := by
        refine Classical.byContradiction fun z => q (minQ_iff.mpr fun b hb hne => ?_)
        by_cases e : cov c b = true
        · exact absurd ⟨b, hb, hne, e⟩ z
        · simpa using e
      obtain ⟨b, hb, hne, e⟩ := q'
      have l : c.length = b.length := by have := (h.rw c hc).len; have := (h.rw b hb).len; omega
      obtain ⟨s1, s2⟩ := cov_sum l e
      have hlt : b.sum ≤ n := by
        by_cases z : b.sum = c.sum
        · exact absurd (s2 z) hne
        · omega
      obtain ⟨m, hm, hmb⟩ := ih b hb hlt
      refine ⟨m, hm, .inr ?_⟩
      rcases hmb with rfl | hmb
      · exact e
      · have l2 : b.length = m.length := by have := (h.rw b hb).len; have := (h.rw m (least_mem.mp hm).1).len; omega
        exact cov_trans l l2 e hmb
theorem least_any {L : Int} {rs : List (List Int)} (h : Rows L rs) {row : List Int} (hr : (row.length : Int) = L) : (leastP rs).any (fun c => cov row c) = rs.any fun c => cov row c := by
  refine Bool.eq_iff_iff.mpr ?_
  rw [List.any_eq_true, List.any_eq_true]
  constructor
  · rintro ⟨c, hc, e⟩
    exact ⟨c, (least_mem.mp hc).1, e⟩
  · rintro ⟨c, hc, e⟩
    obtain ⟨m, hm, hmc⟩ := least_below h c.sum.toNat c hc (by omega)
    refine ⟨m, hm, ?_⟩
    rcases hmc with rfl | hmc
    · exact e
    · have l1 : row.length = c.length := by have := (h.rw c hc).len; omega
      have l2 : c.length = m.length := by have := (h.rw c hc).len; have := (h.rw m (least_mem.mp hm).1).len; omega
      exact cov_trans l1 l2 e hmc
theorem opn_least {L : Int} {rss : List (List (List Int))} (h : ∀ rs ∈ rss, Rows L rs) {q : Int × List Int} (hr : (q.2.length : Int) = L) : opn (rss.map leastP) q = opn rss q := by
  unfold opn
  rw [List.getElem?_map]
  cases e : rss[q.1.toNat]? with
  | none => rfl
  | some rs =>
    show (!((leastP rs).any fun c => cov q.2 c)) = !(rs.any fun c => cov q.2 c)
    rw [least_any (h rs (List.mem_of_getElem? e)) hr]
/-! ### the law's own -/
def unP (h q : Int × List Int) : Bool := h.1 == q.1 && (h.2.zip q.2).all fun p => decide (p.1 ≤ p.2)
theorem zip_swap : ∀ (a b : List Int), (a.zip b).all (fun p => decide (p.1 ≤ p.2)) = cov b a
  | [], b => by cases b <;> rfl
  | x :: a, [] => rfl
  | x :: a, y :: b => by
    have ih := zip_swap a b
    unfold cov at ih ⊢
    simp only [List.zip_cons_cons, List.all_cons, ih]
def headsP (cs : List (List (List Int))) : List (Int × List Int) := cs.zipIdx.flatMap fun p => p.1.map fun r => ((p.2 : Nat), r)
theorem heads_opn {cs : List (List (List Int))} {q : Int × List Int} (h0 : 0 ≤ q.1) : (!((headsP cs).any fun h => unP h q)) = opn cs q := by
  unfold opn
  congr 1
  refine Bool.eq_iff_iff.mpr ?_
  rw [List.any_eq_true, List.any_eq_true]
  constructor
  · rintro ⟨h, hh, e⟩
    obtain ⟨p, hp, hr0⟩ := List.mem_flatMap.mp hh
    obtain ⟨r, hr, rfl⟩ := List.mem_map.mp hr0
    unfold unP at e
    rw [Bool.and_eq_true, beq_iff_eq, zip_swap] at e
    have g := List.mem_zipIdx_iff_getElem?.mp hp
    have e1 : ((p.2 : Nat) : Int) = q.1 := e.1
    rw [show q.1.toNat = p.2 by omega, g]
    exact ⟨r, hr, e.2⟩
  · rintro ⟨r, hr, e⟩
    cases g : cs[q.1.toNat]? with
    | none => rw [g] at hr; cases hr
    | some rows =>
      rw [g] at hr
      refine ⟨((q.1.toNat : Nat), r), List.mem_flatMap.mpr ⟨(rows, q.1.toNat), List.mem_zipIdx_iff_getElem?.mpr g, List.mem_map.mpr ⟨r, hr, rfl⟩⟩, ?_⟩
      unfold unP
      rw [Bool.and_eq_true, beq_iff_eq, zip_swap]
      exact ⟨by show ((q.1.toNat : Nat) : Int) = q.1; omega, e⟩
section
variable {L : Int} {cs : List (List (List Int))} {st : Store}
theorem lunder_run {a b : Int × List Int} (hl : a.2.length ≤ 1000) : m__law_is_under [dv a, dv b] st = .ok (.bl (unP a b)) st := by
  have hi0 : e2 fEqD (e2 fItem (eVar 0) (eC (.int 0))) (e2 fItem (eVar 1) (eC (.int 0))) [some (dv a), some (dv b), none, none] st = .ok (.bl (a.1 == b.1)) st := e2_run (e2_run (var_run rfl) c_run x_item0) (e2_run (var_run rfl) c_run x_item0) rfl
  unfold m__law_is_under b__law_is_under unP
  refine fn_ret (δ := [some (dv a), some (dv b), none, none]) (ret_run ?_)
  by_cases h : (a.1 == b.1) = true
  · rw [h] at hi0 ⊢
    exact (eAnd_yes hi0).trans (comp_zipG (f := fun i j => decide (i ≤ j)) (cons_run (e2_run (var_run rfl) c_run x_item1) (one_run (e2_run (var_run rfl) c_run x_item1))) hl (Nat.le_of_ble_eq_true rfl) (Nat.le_of_ble_eq_true rfl) (by decide))
  · have h : (a.1 == b.1) = false := by simpa only [Bool.not_eq_true] using h
    rw [h] at hi0 ⊢
    exact eAnd_not hi0
theorem heads_small (h : Tb L cs) : (headsP cs).length ≤ 1000 := by
  have : ∀ (l : List (List (List Int) × Nat)), (∀ p ∈ l, p.1.length ≤ 60) → (l.flatMap fun p => p.1.map fun r => (((p.2 : Nat) : Int), r)).length ≤ 60 * l.length := by
    intro l hl
    induction l with
    | nil => simp
    | cons p l ih =>
      have := ih fun q hq => hl q (List.mem_cons_of_mem _ hq)
      have := hl p List.mem_cons_self
      simp only [List.flatMap_cons, List.length_append, List.length_map, List.length_cons] at *
      omega
  have h2 := this cs.zipIdx fun p hp => (h.rows p.1 (by
    have := List.mem_zipIdx_iff_getElem?.mp hp
    exact List.mem_of_getElem? this)).few
  rw [List.length_zipIdx] at h2
  have := h.c3
  unfold headsP
  omega
theorem heads_run (h : Tb L cs) : m__law_heads_of [cD cs] st = .ok (.lst ((headsP cs).map dv)) st := by
  unfold m__law_heads_of b__law_heads_of
  have hen : enumD (cs.map rD) = cs.zipIdx.map fun p => .tup [.int (p.2 : Nat), rD p.1] := by
    unfold enumD
    rw [List.zipIdx_map, List.map_map]
    rfl
  have hit : itEnum (aCons (eVar 0) aNil) [some (cD cs), some (.lst []), none, none, none] st = .ok (cs.zipIdx.map fun p => D.tup [.int (p.2 : Nat), rD p.1], none) st := by
    rw [← hen]
    unfold itEnum
    rw [M.ok_bind (one_run (var_run (d := cD cs) rfl))]
    rfl
  have hfl : (cs.zipIdx.flatMap fun p => (p.1.map fun r => (((p.2 : Nat) : Int), r)).map dv) = (headsP cs).map dv := by
    unfold headsP
    rw [List.map_flatMap]
  obtain ⟨δ', g1, y2, y3, rfl⟩ := for_fold (k := fun p : List (List Int) × Nat => D.tup [.int (p.2 : Nat), rD p.1]) (F := fun p => (p.1.map fun r => (((p.2 : Nat) : Int), r)).map dv) (P := fun acc δ => ∃ y2 y3, δ = [some (cD cs), some (.lst acc), y2, y3, none])
    (g := gTupD 2 (gsCons (gSet 2) (gsCons (gSet 3) gsNil))) (body := sSet 1 (e2 fPlus (eVar 1) (eComp [4] (itSeq (eVar 3)) (gSet 4) tYesM (eTup (aCons (eVar 2) (aCons (eVar 4) aNil)))))) (st := st) (all := cs.zipIdx.map fun p => D.tup [.int (p.2 : Nat), rD p.1]) (xs := cs.zipIdx) (acc := []) (δ := [some (cD cs), some (.lst []), none, none, none])
    (fun p hp acc δ hn hP => by
      obtain ⟨y2, y3, rfl⟩ := hP
      have few := (h.rows p.1 (List.mem_of_getElem? (List.mem_zipIdx_iff_getElem?.mp hp))).few
      refine ⟨[some (cD cs), some (.lst acc), some (.int (p.2 : Nat)), some (rD p.1), none], _, rfl, set_run (e2_run (var_run rfl) (comp_mapK (k := tI) (f := fun r => dv (((p.2 : Nat) : Int), r)) (seqT_run (var_run rfl)) (by omega) fun r hr => ⟨[some (cD cs), some (.lst acc), some (.int (p.2 : Nat)), some (rD p.1), some (tI r)], rfl, tup_run (cons_run (var_run rfl) (one_run (var_run rfl))) (Nat.le_of_ble_eq_true rfl)⟩) (x_plusL (by simpa using hn))), some (.int (p.2 : Nat)), some (rD p.1), ?_⟩
      rw [List.map_map]
      rfl) (by rw [hfl, List.length_map]; have := heads_small h; simp; omega) ⟨none, none, rfl⟩
  rw [hfl, List.nil_append] at g1
  refine fn_ret (δ := [some (cD cs), some (.lst ((headsP cs).map dv)), y2, y3, none]) ((seq_next (set_run (lst_run nil_run (Nat.le_of_ble_eq_true rfl)))).trans ?_)
  exact (seq_next (for_run hit g1)).trans (ret_run (var_run rfl))
theorem isopen_run {q : Int × List Int} (h : Tb L cs) (h0 : 0 ≤ q.1) : m__law_is_open [.lst ((headsP cs).map dv), dv q] st = .ok (.bl (opn cs q)) st := by
  unfold m__law_is_open b__law_is_open
  rw [← heads_opn h0]
  have hs := heads_small h
  have l3 := h.l3
  refine fn_ret (δ := [some (.lst ((headsP cs).map dv)), some (dv q), none]) (ret_run (eNot_run (eN_run (one_run (comp_mapK (k := dv) (f := fun a => .bl (unP a q)) (seq_run (var_run rfl)) hs fun a ha => ⟨[some (.lst ((headsP cs).map dv)), some (dv q), some (dv a)], rfl, call_run (cons_run (var_run rfl) (one_run (var_run rfl))) rfl (lunder_run ?_)⟩)) any_map)))
  obtain ⟨p, hp, hr0⟩ := List.mem_flatMap.mp ha
  obtain ⟨r, hr, rfl⟩ := List.mem_map.mp hr0
  have := ((h.rows p.1 (List.mem_of_getElem? (List.mem_zipIdx_iff_getElem?.mp hp))).rw r hr).le l3
  show r.length ≤ 1000
  omega
/-! ### all that is open -/
def outP (cs : List (List (List Int))) (Ln : Nat) (O : Int) : List (Int × List Int) := (List.range cs.length).flatMap fun (u : Nat) => ((rowsP O Ln).filter fun row => opn cs (0 + (u : Int), row)).map fun row => (0 + (u : Int), row)
/-- all is small, and stands in order -/
def okR (O : Int) (Ln : Nat) : Bool := okG O Ln && decide ((rowsP O Ln).length ≤ 60) && (rowsP O Ln).all (fun r => decide (r.length = Ln) && r.all fun n => decide (0 ≤ n) && decide (n ≤ 100)) && (sortU (rowsP O Ln) == rowsP O Ln)
theorem okR_all : ∀ Ln ∈ [1, 2, 3], ∀ O ∈ [0, 1, 2, 3, 4], okR (O : Nat) Ln = true := by decide +kernel
structure OkR (O : Int) (Ln : Nat) : Prop where
  g : okG O Ln = true
  few : (rowsP O Ln).length ≤ 60
  rw : ∀ r ∈ rowsP O Ln, Rw Ln r
  srt : sortU (rowsP O Ln) = rowsP O Ln
theorem okR_ok {O : Int} {Ln : Nat} (h : okR O Ln = true) : OkR O Ln := by
  unfold okR at h
  simp only [Bool.and_eq_true, decide_eq_true_eq, List.all_eq_true, beq_iff_eq] at h
  obtain ⟨⟨⟨h1, h2⟩, h3⟩, h4⟩ := h
  exact ⟨h1, h2, fun r hr => ⟨by rw [(h3 r hr).1], fun n hn => ((h3 r hr).2 n hn).1, fun n hn => ((h3 r hr).2 n hn).2⟩, h4⟩
theorem bdd_of {L : Int} {rows : List (List Int)} (l1 : 1 ≤ L) (h : ∀ r ∈ rows, Rw L r) : bdd rows = true := by
  cases rows with
  | nil => rfl
  | cons n r =>
    show (decide (1 ≤ n.length) && (n :: r).all (fun m => decide (m.length = n.length) && m.all fun i => decide (0 ≤ i) && decide (i < 1000000))) = true
    have hn := (h n List.mem_cons_self).len
    rw [Bool.and_eq_true, List.all_eq_true]
    refine ⟨decide_eq_true (by omega), fun m hm => ?_⟩
    have q := h m hm
    rw [Bool.and_eq_true, List.all_eq_true]
    refine ⟨decide_eq_true (by have := q.len; omega), fun i hi => ?_⟩
    have := q.lo i hi
    have := q.hi i hi
    rw [Bool.and_eq_true]
    exact ⟨decide_eq_true (by omega), decide_eq_true (by omega)⟩
theorem out_small {Ln : Nat} {O : Int} (h : Tb L cs) (ok : OkR O Ln) : (outP cs Ln O).length ≤ 1000 := by
  have : ∀ l : List Nat, (l.flatMap fun (u : Nat) => ((rowsP O Ln).filter fun row => opn cs (0 + (u : Int), row)).map fun row => (0 + (u : Int), row)).length ≤ 60 * l.length := by
    intro l
    induction l with
    | nil => simp
    | cons u l ih =>
      have h1 := List.length_filter_le (fun row => opn cs (0 + (u : Int), row)) (rowsP O Ln)
      have h2 := ok.few
      simp only [List.flatMap_cons, List.length_append, List.length_map, List.length_cons] at *
      omega
  have h2 := this (List.range cs.length)
  rw [List.length_range] at h2
  have := h.c3
  unfold outP
  omega
theorem out_D {Ln : Nat} {O : Int} : ((List.range cs.length).flatMap fun (u : Nat) => (((rowsP O Ln).filter fun row => opn cs (0 + (u : Int), row)).map fun row => (0 + (u : Int), row)).map dv) = (outP cs Ln O).map dv := by
  unfold outP
  rw [List.map_flatMap]
theorem opend_run {Ln : Nat} {O : Int} {v : D} (h : Tb Ln cs) (hA : ∀ rows ∈ cs, Anti rows) (hv : Nest 6 v (cD cs)) (o0 : 0 ≤ O) (o8 : O ≤ 8) (ok : OkR O Ln) : m_open_derivatives [.int Ln, v, .int O] st = .ok (.tup ((outP cs Ln O).map dv)) st := by
  unfold m_open_derivatives b_open_derivatives
  have l3 := h.l3
  have t0 : tNotM (tOf (eCall 1 m_is_whole (aCons (eVar 2) aNil))) [some (.int Ln), some v, some (.int O), some (cD cs), none, none, none] st = .ok false st := not_run (tOf_run (call_run (one_run (var_run rfl)) rfl (whole_run (d := .int O) rfl)))
  have hc := chain_run (f := fun i j => decide (i ≤ j)) (g := fun i j => decide (i ≤ j)) (a := eC (.int 0)) (b := eVar 2) (c := eC (.int 8)) (δ := [some (.int Ln), some v, some (.int O), some (cD cs), none, none, none]) (st := st) c_run (var_run rfl) c_run
  rw [decide_eq_true o0, decide_eq_true o8] at hc
  have hit : itRange1 (eN fLen (aCons (eVar 3) aNil)) [some (.int Ln), some v, some (.int O), some (cD cs), some (.lst []), none, none] st = .ok ((List.range cs.length).map fun (u : Nat) => D.int (0 + (u : Int)), none) st := by
    have c3 := h.c3
    have := rng_run (m := eN fLen (aCons (eVar 3) aNil)) (δ := [some (.int Ln), some v, some (.int O), some (cD cs), some (.lst []), none, none]) (st := st) (eN_run (one_run (var_run rfl)) x_lenT) (by omega) (by rw [List.length_map]; omega)
    rw [List.length_map, Int.toNat_natCast] at this
    exact this
  obtain ⟨δ', g1, y5, rfl⟩ := for_fold (k := fun (u : Nat) => D.int (0 + (u : Int))) (F := fun (u : Nat) => (((rowsP O Ln).filter fun row => opn cs (0 + (u : Int), row)).map fun row => (0 + (u : Int), row)).map dv) (P := fun acc δ => ∃ y5, δ = [some (.int Ln), some v, some (.int O), some (cD cs), some (.lst acc), y5, none])
    (g := gSet 5) (body := sSet 4 (e2 fPlus (eVar 4) (eComp [6] (itSeq (eCall 2 m_order_rows (aCons (eVar 0) (aCons (eVar 2) aNil)))) (gSet 6) (tOf (eCall 2 m_open_by (aCons (eVar 3) (aCons (eTup (aCons (eVar 5) (aCons (eVar 6) aNil))) aNil)))) (eTup (aCons (eVar 5) (aCons (eVar 6) aNil)))))) (st := st) (all := (List.range cs.length).map fun (u : Nat) => D.int (0 + (u : Int))) (xs := List.range cs.length) (acc := []) (δ := [some (.int Ln), some v, some (.int O), some (cD cs), some (.lst []), none, none])
    (fun u hu acc δ hn hP => by
      obtain ⟨y5, rfl⟩ := hP
      have hu := List.mem_range.mp hu
      have tp : ∀ row, eTup (aCons (eVar 5) (aCons (eVar 6) aNil)) [some (.int Ln), some v, some (.int O), some (cD cs), some (.lst acc), some (.int (0 + (u : Int))), some (tI row)] st = .ok (dv (0 + (u : Int), row)) st := fun row => tup_run (cons_run (var_run rfl) (one_run (var_run rfl))) (Nat.le_of_ble_eq_true rfl)
      refine ⟨[some (.int Ln), some v, some (.int O), some (cD cs), some (.lst acc), some (.int (0 + (u : Int))), none], _, rfl, set_run (e2_run (var_run rfl) (comp_filter (k := tI) (f := fun row => dv (0 + (u : Int), row)) (p := fun row => opn cs (0 + (u : Int), row)) (seq_run (call_run (cons_run (var_run rfl) (one_run (var_run rfl))) rfl (orows_run (by omega) ok.g))) (by have := ok.few; omega) fun row hrow => ⟨[some (.int Ln), some v, some (.int O), some (cD cs), some (.lst acc), some (.int (0 + (u : Int))), some (tI row)], rfl, tOf_run (call_run (cons_run (var_run rfl) (one_run (tp row))) rfl (openby_run h (by show 0 ≤ 0 + (u : Int); omega) (by show 0 + (u : Int) < _; omega) (by have := (ok.rw row hrow).le l3; show row.length ≤ 1000; omega))), fun _ => tp row⟩) (x_plusL (by simpa using hn))), some (.int (0 + (u : Int))), ?_⟩
      rw [List.map_map]
      rfl) (by rw [out_D, List.length_map]; have := out_small h ok; simp; omega) ⟨none, rfl⟩
  rw [out_D, List.nil_append] at g1
  refine fn_ret (δ := [some (.int Ln), some v, some (.int O), some (cD cs), some (.lst ((outP cs Ln O).map dv)), y5, none]) ((seq_next (set_run (call_run (cons_run (var_run rfl) (one_run (var_run rfl))) rfl (cfrom_run h hA hv)))).trans ?_)
  refine (seq_next ((if_not ((or_not t0).trans (not_run (tOf_run hc)))).trans rfl)).trans ?_
  refine (seq_next (set_run (lst_run nil_run (Nat.le_of_ble_eq_true rfl)))).trans ?_
  exact (seq_next (for_run hit g1)).trans (ret_run (eN_run (one_run (var_run rfl)) rfl))
theorem lopen_run {Ln : Nat} {O : Int} (h : Tb Ln cs) (ok : OkR O Ln) : m__law_open_list [.int Ln, cD cs, .int O] st = .ok (.lst ((outP cs Ln O).map dv)) st := by
  unfold m__law_open_list b__law_open_list
  have l3 := h.l3
  have hit : itRange1 (eN fLen (aCons (eVar 1) aNil)) [some (.int Ln), some (cD cs), some (.int O), some (.lst []), none, none, none] st = .ok ((List.range cs.length).map fun (u : Nat) => D.int (0 + (u : Int)), none) st := by
    have c3 := h.c3
    have := rng_run (m := eN fLen (aCons (eVar 1) aNil)) (δ := [some (.int Ln), some (cD cs), some (.int O), some (.lst []), none, none, none]) (st := st) (eN_run (one_run (var_run rfl)) x_lenT) (by omega) (by rw [List.length_map]; omega)
    rw [List.length_map, Int.toNat_natCast] at this
    exact this
  have hsrt : fSortT st [.lst ((rowsP O Ln).map tI)] = some (.lst ((rowsP O Ln).map tI)) := by
    have few := ok.few
    have nd : (rowsP O Ln).Nodup := by
      have := asc_nodup (sortU_asc (rowsP O Ln))
      rw [ok.srt] at this
      exact this
    unfold fSortT
    dsimp only
    rw [intsT_map]
    dsimp only
    rw [if_pos ⟨bdd_of h.l1 ok.rw, by omega, nd⟩, ok.srt]
  obtain ⟨δ', g1, y4, y5, rfl⟩ := for_fold (k := fun (u : Nat) => D.int (0 + (u : Int))) (F := fun (u : Nat) => (((rowsP O Ln).filter fun row => opn cs (0 + (u : Int), row)).map fun row => (0 + (u : Int), row)).map dv) (P := fun acc δ => ∃ y4 y5, δ = [some (.int Ln), some (cD cs), some (.int O), some (.lst acc), y4, y5, none])
    (g := gSet 4) (body := sSeq (sSet 5 (eN fSortT (aCons (eCall 2 m__law_all_counts (aCons (eVar 0) (aCons (eVar 2) aNil))) aNil))) (sSet 3 (e2 fPlus (eVar 3) (eComp [6] (itSeq (eVar 5)) (gSet 6) (tOf (eCall 2 m__law_is_open (aCons (eCall 1 m__law_heads_of (aCons (eVar 1) aNil)) (aCons (eTup (aCons (eVar 4) (aCons (eVar 6) aNil))) aNil)))) (eTup (aCons (eVar 4) (aCons (eVar 6) aNil))))))) (st := st) (all := (List.range cs.length).map fun (u : Nat) => D.int (0 + (u : Int))) (xs := List.range cs.length) (acc := []) (δ := [some (.int Ln), some (cD cs), some (.int O), some (.lst []), none, none, none])
    (fun u hu acc δ hn hP => by
      obtain ⟨y4, y5, rfl⟩ := hP
      have tp : ∀ row, eTup (aCons (eVar 4) (aCons (eVar 6) aNil)) [some (.int Ln), some (cD cs), some (.int O), some (.lst acc), some (.int (0 + (u : Int))), some (.lst ((rowsP O Ln).map tI)), some (tI row)] st = .ok (dv (0 + (u : Int), row)) st := fun row => tup_run (cons_run (var_run rfl) (one_run (var_run rfl))) (Nat.le_of_ble_eq_true rfl)
      refine ⟨[some (.int Ln), some (cD cs), some (.int O), some (.lst acc), some (.int (0 + (u : Int))), y5, none], _, rfl, (seq_next (set_run (eN_run (one_run (call_run (cons_run (var_run rfl) (one_run (var_run rfl))) rfl (lrows_run (by omega) ok.g))) hsrt))).trans (set_run (e2_run (var_run rfl) (comp_filter (k := tI) (f := fun row => dv (0 + (u : Int), row)) (p := fun row => opn cs (0 + (u : Int), row)) (seq_run (var_run rfl)) (by have := ok.few; omega) fun row hrow => ⟨[some (.int Ln), some (cD cs), some (.int O), some (.lst acc), some (.int (0 + (u : Int))), some (.lst ((rowsP O Ln).map tI)), some (tI row)], rfl, tOf_run (call_run (cons_run (call_run (one_run (var_run rfl)) rfl (heads_run h)) (one_run (tp row))) rfl (isopen_run h (by show 0 ≤ 0 + (u : Int); omega))), fun _ => tp row⟩) (x_plusL (by simpa using hn)))), some (.int (0 + (u : Int))), some (.lst ((rowsP O Ln).map tI)), ?_⟩
      rw [List.map_map]
      rfl) (by rw [out_D, List.length_map]; have := out_small h ok; simp; omega) ⟨none, none, rfl⟩
  rw [out_D, List.nil_append] at g1
  refine fn_ret (δ := [some (.int Ln), some (cD cs), some (.int O), some (.lst ((outP cs Ln O).map dv)), y4, y5, none]) ((seq_next (set_run (lst_run nil_run (Nat.le_of_ble_eq_true rfl)))).trans ?_)
  exact (seq_next (for_run hit g1)).trans (ret_run (var_run rfl))
theorem out_least {Ln : Nat} {O : Int} {rss : List (List (List Int))} (h : ∀ rs ∈ rss, Rows Ln rs) (ok : OkR O Ln) : outP (rss.map leastP) Ln O = outP rss Ln O := by
  unfold outP
  rw [List.length_map]
  congr 1
  funext u
  congr 1
  exact List.filter_congr fun row hrow => opn_least h (ok.rw row hrow).len
/-! ### the least -/
theorem any_eq {X : EM} {δ : DEnv} {one other : List Int} {i j : Nat} (hi : δ[i]? = some (some (tI one))) (hj : δ[j]? = some (some (tI other))) (hX : X δ st = .ok (.bl (cov one other)) st) : eAnd (e2 fNe (eVar i) (eVar j)) X δ st = .ok (.bl (!(one == other) && cov one other)) st := by
  have hne : e2 fNe (eVar i) (eVar j) δ st = .ok (.bl (!(one == other))) st := e2_run (var_run hi) (var_run hj) ne_tI
  cases e : (one == other)
  · rw [e] at hne
    exact (eAnd_yes hne).trans hX
  · rw [e] at hne
    exact eAnd_not hne
theorem lrow_run {rs : List (List Int)} (l1 : 1 ≤ L) (l3 : L ≤ 3) (h : Rows L rs) : m_least_rows [rD rs] st = .ok (rD (leastP rs)) st := by
  unfold m_least_rows b_least_rows
  have few := h.few
  have hs : fSortSt st (rD rs) = some (.lst ((sortU rs).map tI)) := by
    unfold fSortSt
    dsimp only
    rw [intsT_map]
    dsimp only
    rw [if_pos ⟨bdd_of l1 h.rw, by omega⟩]
  have hlen := sortU_len rs
  have hfil := comp_filter (vs := [2]) (it := itSeq (eVar 1)) (g := gSet 2) (t := tNotM (tOf (eN fAny (aCons (eComp [3] (itSeq (eVar 1)) (gSet 3) tYesM (eAnd (e2 fNe (eVar 2) (eVar 3)) (eCall 2 m_covers (aCons (eVar 2) (aCons (eVar 3) aNil))))) aNil)))) (e := eVar 2) (δ := [some (rD rs), some (.lst ((sortU rs).map tI)), none, none]) (st := st) (k := tI) (f := tI) (p := minQ (sortU rs)) (xs := sortU rs) (seq_run (var_run rfl)) (by omega) fun one hone => by
    refine ⟨[some (rD rs), some (.lst ((sortU rs).map tI)), some (tI one), none], rfl, ?_, fun _ => var_run rfl⟩
    have hol := (h.rw one (sortU_mem.mp hone)).le l3
    exact not_run (tOf_run (eN_run (one_run (comp_mapK (k := tI) (f := fun other => .bl (!(one == other) && cov one other)) (seq_run (var_run rfl)) (by omega) fun other _ => ⟨[some (rD rs), some (.lst ((sortU rs).map tI)), some (tI one), some (tI other)], rfl, any_eq rfl rfl (call_run (cons_run (var_run rfl) (one_run (var_run rfl))) rfl (covers_run (by omega)))⟩)) any_map))
  refine fn_ret (δ := [some (rD rs), some (.lst ((sortU rs).map tI)), none, none]) ((seq_next (set_run (e1_run (var_run rfl) hs))).trans ?_)
  exact ret_run (eN_run (one_run hfil) rfl)
theorem lcorn_run {rss : List (List (List Int))} {v : D} (h : Tb L rss) (hv : Nest 6 v (cD rss)) : m_least_corners [.int L, v] st = .ok (cD (rss.map leastP)) st := by
  unfold m_least_corners b_least_corners
  have c3 := h.c3
  have l3 := h.l3
  obtain ⟨δ', g1, y3, rfl⟩ := for_mem (P := fun δ => ∃ y3, δ = [some (.int L), some v, some (cD rss), y3, none]) (g := gSet 3) (st := st) (all := rss.map rD) (ds := rss.map rD) (δ := [some (.int L), some v, some (cD rss), none, none])
    (body := sIf (tOrM (tNotM (tOf (eIsi isi_tuple (eVar 3)))) (tNotM (tOf (eN fAll (aCons (eComp [4] (itSeq (eVar 3)) (gSet 4) tYesM (eCall 2 m_are_counts (aCons (eVar 0) (aCons (eVar 4) aNil)))) aNil))))) (sRaise "BadTable" 1 (aCons (eVar 1) aNil)) sNil) (fun d hd δ hP => by
      obtain ⟨y3, rfl⟩ := hP
      obtain ⟨rs, hrs, rfl⟩ := List.mem_map.mp hd
      have hR := h.rows rs hrs
      have few := hR.few
      refine ⟨[some (.int L), some v, some (cD rss), some (rD rs), none], [some (.int L), some v, some (cD rss), some (rD rs), none], rfl, ?_, _, rfl⟩
      have t0 : tNotM (tOf (eIsi isi_tuple (eVar 3))) [some (.int L), some v, some (cD rss), some (rD rs), none] st = .ok false st := not_run (tOf_run (isi_run (b := true) (var_run rfl) rfl))
      have t1 : eN fAll (aCons (eComp [4] (itSeq (eVar 3)) (gSet 4) tYesM (eCall 2 m_are_counts (aCons (eVar 0) (aCons (eVar 4) aNil)))) aNil) [some (.int L), some v, some (cD rss), some (rD rs), none] st = .ok (.bl true) st := by
        refine eN_run (one_run (comp_mapK (k := tI) (f := fun _ => .bl true) (seqT_run (var_run rfl)) (by omega) fun r hr => ⟨[some (.int L), some v, some (cD rss), some (rD rs), some (tI r)], rfl, call_run (cons_run (var_run rfl) (one_run (var_run rfl))) rfl (acrow_run (hR.rw r hr) l3)⟩)) ?_
        rw [all_map (p := fun _ => true)]
        simp
      exact (if_not ((or_not t0).trans (not_run (tOf_run t1)))).trans rfl) ⟨none, rfl⟩
  refine fn_ret (δ := [some (.int L), some v, some (cD rss), y3, none]) ((seq_next (ex_run (call_run (cons_run c_run (cons_run (var_run rfl) (cons_run c_run (one_run c_run)))) rfl (between_run h.l1 h.l3)))).trans ?_)
  refine (seq_next (set_run (call_run (one_run (var_run rfl)) rfl (in_run hv)))).trans ?_
  refine (seq_next ((if_not (size_run h rfl)).trans rfl)).trans ?_
  refine (seq_next (for_run (seqT_run (var_run rfl)) g1)).trans (ret_run (eN_run (one_run (comp_mapK (k := rD) (f := fun rs => rD (leastP rs)) (seqT_run (var_run rfl)) (by omega) fun rs hrs => ⟨[some (.int L), some v, some (cD rss), some (rD rs), none], rfl, call_run (one_run (var_run rfl)) rfl (lrow_run h.l1 h.l3 (h.rows rs hrs))⟩)) ?_))
  show some (D.tup _) = some (D.tup ((rss.map leastP).map rD))
  rw [List.map_map]
  rfl
end
end K63
/-! k63: the plain law: what is drawn and handed in -/
namespace K63
open PySem PySem.Spec PyProof.Rows L2 DL
abbrev S (p : Pen) : Store := [.fr none, p.so]
theorem draw_S {p : Pen} {c many : Int} (ok : PenOk c p) (hc : c ≤ 10 ^ 12) (hm : 0 < many) (hm2 : many < 1073741824) :
    ∃ (d : Int) (p' : Pen), m__law_draw [.ref 1, .int many] (S p) = .ok (.int d) (S p') ∧ 0 ≤ d ∧ d < many ∧ PenOk (c + 1) p' :=
  ⟨_, _, draw_run (n := 1) rfl ok hc hm hm2, (ok.drawn hm).2.1, (ok.drawn hm).2.2, (ok.drawn hm).1⟩
theorem pick_S {p : Pen} {c : Int} {xs : List D} {r : Store} (ok : PenOk c p) (hc : c ≤ 10 ^ 12) (h0 : xs ≠ []) (h1 : xs.length ≤ 1000000) :
    ∃ (x : D) (p' : Pen), m__law_pick [.ref 1, .lst xs] (.fr none :: p.so :: r) = .ok x (.fr none :: p'.so :: r) ∧ x ∈ xs ∧ PenOk (c + 1) p' := by
  obtain ⟨x, p', h, o, e⟩ := pick_run (st := .fr none :: p.so :: r) (n := 1) (d := .lst xs) rfl ok hc rfl (fun _ => rfl) h0 h1
  exact ⟨x, p', e, h, o⟩
theorem pass_S {p : Pen} {c : Int} {ds : List D} {d : D} (ok : PenOk c p) (hc : c ≤ 10 ^ 12) (hd : d = .tup ds ∨ d = .lst ds) :
    ∃ (x : D) (p' : Pen), m__law_passed [.ref 1, d] (S p) = .ok x (S p') ∧ (x = .tup ds ∨ x = .lst ds) ∧ PenOk (c + 1) p' := by
  obtain ⟨x, p', e, h, o⟩ := pick_S (xs := [.tup ds, .lst ds]) (r := []) ok hc (by simp) (Nat.le_of_ble_eq_true rfl)
  refine ⟨x, p', ?_, by simpa using h, o⟩
  have t1 : eN fTuple (aCons (eVar 1) aNil) [some (.ref 1), some d] (S p) = .ok (.tup ds) (S p) := eN_run (one_run (var_run rfl)) (by rcases hd with rfl | rfl <;> rfl)
  have t2 : eN fList (aCons (eVar 1) aNil) [some (.ref 1), some d] (S p) = .ok (.lst ds) (S p) := eN_run (one_run (var_run rfl)) (by rcases hd with rfl | rfl <;> rfl)
  unfold m__law_passed b__law_passed
  exact fn_ret (δ := [some (.ref 1), some d]) (ret_run (call_run (cons_run (var_run rfl) (one_run (lst_run (cons_run t1 (one_run t2)) (Nat.le_of_ble_eq_true rfl)))) rfl e))
theorem comp_pass {α : Type} {k : α → D} {Pr : α → D → Prop} {K : Int} (B : Int) (h0 : 0 ≤ K) {all : List D} {g : GM} {e : EM} {δ : DEnv} : ∀ (xs : List α) (he : ∀ x ∈ xs, ∀ (p : Pen) (c : Int), PenOk c p → c ≤ B → ∃ (δ1 : DEnv) (v : D) (p' : Pen), g (k x) δ = some δ1 ∧ e δ1 (S p) = .ok v (S p') ∧ Pr x v ∧ PenOk (c + K) p') (p : Pen) (c : Int), PenOk c p → c + K * xs.length ≤ B →
    ∃ (vs : List D) (p' : Pen), compL none all g tYesM e δ (xs.map k) (S p) = .ok vs (S p') ∧ Rel2 Pr xs vs ∧ PenOk (c + K * xs.length) p'
  | [], _, p, c, ok, _ => ⟨[], p, compL_nil, .nil, PenOk.mono ok (by simp)⟩
  | x :: xs, he, p, c, ok, hc => by
    have e1 : K * ((x :: xs).length : Int) = K * xs.length + K := by
      rw [List.length_cons, Int.natCast_add, Int.mul_add]
      simp
    have hK : 0 ≤ K * (xs.length : Int) := Int.mul_nonneg h0 (by omega)
    rw [e1] at hc ⊢
    obtain ⟨δ1, v, p1, q1, q2, q3, o1⟩ := he x List.mem_cons_self p c ok (by omega)
    obtain ⟨vs, p2, r1, r2, o2⟩ := comp_pass (all := all) (g := g) (e := e) (δ := δ) B h0 xs (fun y hy => he y (List.mem_cons_of_mem _ hy)) p1 (c + K) o1 (by omega)
    exact ⟨v :: vs, p2, by rw [List.map_cons]; exact compL_cons q1 q2 r1, .cons q3 r2, PenOk.mono o2 (by omega)⟩
theorem rel_of {α β : Type} {f : β → D} {P : β → Prop} : ∀ {xs : List α} {vs : List D}, Rel2 (fun _ v => ∃ a, v = f a ∧ P a) xs vs → ∃ as : List β, vs = as.map f ∧ as.length = xs.length ∧ ∀ a ∈ as, P a
  | _, _, .nil => ⟨[], rfl, rfl, fun a h => by cases h⟩
  | _, _, .cons ⟨a, e, ha⟩ t => by
    obtain ⟨as, e1, e2, e3⟩ := rel_of t
    refine ⟨a :: as, by rw [e, e1]; rfl, by simp [e2], fun b hb => ?_⟩
    rcases List.mem_cons.mp hb with rfl | hb
    · exact ha
    · exact e3 b hb
theorem rel_flip {α : Type} {f : α → D} {Pr : α → D → Prop} {n : Nat} (h : ∀ x v, Pr x v → Nest n v (f x)) : ∀ {xs : List α} {vs : List D}, Rel2 Pr xs vs → Rel2 (Nest n) vs (xs.map f)
  | _, _, .nil => .nil
  | _, _, .cons a t => .cons (h _ _ a) (rel_flip h t)
theorem rel_mem {α : Type} {Pr : α → D → Prop} {Q : α → Prop} : ∀ {xs : List α} {vs : List D}, (∀ x ∈ xs, Q x) → Rel2 Pr xs vs → Rel2 (fun x v => Q x ∧ Pr x v) xs vs
  | _, _, _, .nil => .nil
  | _, _, hq, .cons a t => .cons ⟨hq _ List.mem_cons_self, a⟩ (rel_mem (fun x hx => hq x (List.mem_cons_of_mem _ hx)) t)
theorem rangeD_map {n : Nat} : rangeD 0 n = (List.range n).map fun (i : Nat) => D.int (0 + (i : Int)) := rfl
/-- a row of counts, drawn -/
theorem row_draw {ip iL k : Nat} {me : EM} {many L : Int} {δ : DEnv} (hp : ∀ d, ((δ.set k none).set k (some d))[ip]? = some (some (.ref 1))) (hL : δ[iL]? = some (some (.int L))) (hme : ∀ d st, me ((δ.set k none).set k (some d)) st = .ok (.int many) st) (m0 : 0 < many) (m1 : many ≤ 100) (l1 : 1 ≤ L) (l3 : L ≤ 3) {p : Pen} {c : Int} (ok : PenOk c p) (hc : c ≤ 10 ^ 10) :
    ∃ (r : List Int) (p' : Pen), eN fTuple (aCons (eComp [k] (itRange1 (eVar iL)) (gSet k) tYesM (eCall 2 m__law_draw (aCons (eVar ip) (aCons me aNil)))) aNil) δ (S p) = .ok (tI r) (S p') ∧ Rw L r ∧ PenOk (c + 3) p' := by
  obtain ⟨vs, p', r1, r2, o⟩ := comp_pass (k := fun (i : Nat) => D.int (0 + (i : Int))) (Pr := fun _ v => ∃ a : Int, v = .int a ∧ (0 ≤ a ∧ a < many)) (K := 1) (10 ^ 11) (by decide) (all := rangeD 0 L.toNat) (g := gSet k) (e := eCall 2 m__law_draw (aCons (eVar ip) (aCons me aNil))) (δ := wipeD δ [k]) (List.range L.toNat)
    (fun x _ p c ok hc => by
      obtain ⟨d, p', e, d0, d1, o⟩ := draw_S (many := many) ok (by omega) m0 (by omega)
      exact ⟨_, .int d, p', rfl, call_run (cons_run (var_run (hp _)) (one_run (hme _ _))) rfl e, ⟨d, rfl, d0, d1⟩, o⟩) p c ok (by rw [List.length_range]; omega)
  obtain ⟨r, e1, e2, e3⟩ := rel_of (f := D.int) (P := fun a => 0 ≤ a ∧ a < many) r2
  rw [List.length_range] at e2 o
  subst e1
  refine ⟨r, p', ?_, ⟨by omega, fun n hn => (e3 n hn).1, fun n hn => by have := (e3 n hn).2; omega⟩, PenOk.mono o (by omega)⟩
  exact eN_run (one_run (comp_run (rng_run (st' := S p) (var_run hL) (by omega) (by omega)) (by rw [rangeD_len]; omega) r1)) rfl
/-- what is shown fits -/
theorem show_list {α : Type} {f : α → D} {g : α → PyData} {st : Store} (h : ∀ a, toPy st 59 (f a) = some (g a)) : ∀ {xs : List α}, (∀ a ∈ xs, (g a).showable = true ∧ chOk (g a) = true ∧ wt (g a) ≤ 1000 ∧ (g a).depth ≤ 10) → PyData.showableAll (xs.map g) = true ∧ chAll (xs.map g) = true ∧ wtAll (xs.map g) ≤ 1002 * xs.length ∧ PyData.depthAll (xs.map g) ≤ 10
  | [], _ => ⟨by simp [PyData.showableAll], rfl, by simp [wtAll], by simp [PyData.depthAll]⟩
  | a :: xs, hx => by
    obtain ⟨h1, h2, h3, h4⟩ := show_list h (xs := xs) fun b hb => hx b (List.mem_cons_of_mem _ hb)
    obtain ⟨k1, k2, k3, k4⟩ := hx a List.mem_cons_self
    refine ⟨?_, ?_, ?_, ?_⟩
    · simp only [List.map_cons, PyData.showableAll, h1, k1, Bool.and_self]
    · simp only [List.map_cons, chAll, h2, k2, Bool.and_self]
    · simp only [List.map_cons, wtAll, List.length_cons]
      omega
    · simp only [List.map_cons, PyData.depthAll]
      omega
theorem repr_list {α : Type} {f : α → D} {g : α → PyData} {st : Store} (h : ∀ a, toPy st 59 (f a) = some (g a)) {xs : List α} (hx : ∀ a ∈ xs, (g a).showable = true ∧ chOk (g a) = true ∧ wt (g a) ≤ 1000 ∧ (g a).depth ≤ 10) (hl : xs.length ≤ 1000) : ∃ s, fRepr st [.tup (xs.map f)] = some (.str s) := by
  obtain ⟨h1, h2, h3, h4⟩ := show_list h hx
  have sg := size_ge
  refine ⟨_, repr_some (p := .tuple (xs.map g)) ?_ ⟨?_, ?_, ?_, ?_⟩⟩
  · show (mapO (toPy st 59) (xs.map f)).map PyData.tuple = _
    rw [mapO_map (f := toPy st 59) (k := f) (g := g) h]
    rfl
  · simpa only [PyData.showable] using h1
  · simpa only [chOk] using h2
  · simp only [wt]
    omega
  · simp only [PyData.depth]
    omega
theorem row_shows {L : Int} {r : List Int} (h : Rw L r) (l3 : L ≤ 3) : (pyI r).showable = true ∧ chOk (pyI r) = true ∧ wt (pyI r) ≤ 200 ∧ (pyI r).depth ≤ 5 := by
  obtain ⟨h1, h2, h3⟩ := show_ints (ns := r) fun n hn => by
    have := h.lo n hn
    have := h.hi n hn
    omega
  have d := depth_ints r
  have l := h.le l3
  refine ⟨by simpa only [pyI, PyData.showable] using h1, by simpa only [pyI, chOk] using h2, ?_, ?_⟩
  · simp only [pyI, wt]
    omega
  · simp only [pyI, PyData.depth]
    omega
theorem repr_rows {L : Int} {rows : List (List Int)} {st : Store} (h : Rows L rows) (l3 : L ≤ 3) : ∃ s, fRepr st [rD rows] = some (.str s) := by
  refine repr_list (g := pyI) (fun r => toPy_I (n := 57)) (fun r hr => ?_) (by have := h.few; omega)
  obtain ⟨h1, h2, h3, h4⟩ := row_shows (h.rw r hr) l3
  exact ⟨h1, h2, by omega, by omega⟩
def dvPy (q : Int × List Int) : PyData := .tuple [.int q.1, pyI q.2]
theorem toPy_dv {q : Int × List Int} {st : Store} {n : Nat} : toPy st (n + 3) (dv q) = some (dvPy q) := by
  show (mapO (toPy st (n + 2)) [.int q.1, tI q.2]).map PyData.tuple = _
  rw [mapO_cons, mapO_cons, mapO_nil, toPy_I]
  rfl
theorem out_mem {cs : List (List (List Int))} {Ln : Nat} {O : Int} {q : Int × List Int} (h : q ∈ outP cs Ln O) : (0 ≤ q.1 ∧ q.1 < cs.length) ∧ q.2 ∈ rowsP O Ln := by
  obtain ⟨u, hu, hq⟩ := List.mem_flatMap.mp h
  obtain ⟨row, hr, rfl⟩ := List.mem_map.mp hq
  have := List.mem_range.mp hu
  exact ⟨⟨by show 0 ≤ 0 + (u : Int); omega, by show 0 + (u : Int) < _; omega⟩, (List.mem_filter.mp hr).1⟩
theorem repr_out {cs : List (List (List Int))} {Ln : Nat} {O : Int} {st : Store} (h : Tb Ln cs) (ok : OkR O Ln) : ∃ s, fRepr st [.tup ((outP cs Ln O).map dv)] = some (.str s) := by
  refine repr_list (g := dvPy) (fun q => toPy_dv (n := 56)) (fun q hq => ?_) (out_small h ok)
  obtain ⟨⟨q0, q1⟩, hr⟩ := out_mem hq
  obtain ⟨h1, h2, h3, h4⟩ := row_shows (ok.rw q.2 hr) h.l3
  have c3 := h.c3
  have l := log_le (x := q.1) (by omega)
  refine ⟨?_, ?_, ?_, ?_⟩
  · simp only [dvPy, PyData.showable, PyData.showableAll, h1, Bool.and_true, decide_eq_true_eq]
    omega
  · simp only [dvPy, chOk, chAll, h2, Bool.and_self]
  · simp only [dvPy, wt, wtAll]
    omega
  · simp only [dvPy, PyData.depth, PyData.depthAll]
    omega
theorem refl_ints {n : Nat} : ∀ ns : List Int, (ns.map D.int).all (reflIn (n + 1)) = true
  | [] => rfl
  | i :: ns => by
    rw [List.map_cons, List.all_cons, refl_ints ns]
    rfl
theorem refl_out {st : Store} (xs : List (Int × List Int)) : fEqD st (.tup (xs.map dv)) (.tup (xs.map dv)) = some (.bl true) := by
  refine eqD_refl rfl ?_
  show (xs.map dv).all (reflIn 40) = true
  rw [List.all_eq_true]
  intro d hd
  obtain ⟨q, _, rfl⟩ := List.mem_map.mp hd
  show (reflIn 39 (.int q.1) && ((q.2.map D.int).all (reflIn 38) && true)) = true
  rw [refl_ints]
  rfl
/-! ### handed in -/
theorem handed_run {L : Int} {cs : List (List (List Int))} {p : Pen} {c : Int} (h : Tb L cs) (ok : PenOk c p) (hc : c ≤ 10 ^ 10) : ∃ (v : D) (p' : Pen), m__law_handed_corners [.ref 1, cD cs] (S p) = .ok v (S p') ∧ Nest 6 v (cD cs) ∧ PenOk (c + 200) p' := by
  have c3 := h.c3
  have l3 := h.l3
  -- a corner
  have inner : ∀ rows ∈ cs, ∀ (p : Pen) (c : Int), PenOk c p → c + 1 * rows.length ≤ 10 ^ 12 → ∃ (vs : List D) (p' : Pen), compL none (rows.map tI) (gSet 3) tYesM (eCall 2 m__law_passed (aCons (eVar 0) (aCons (eN fList (aCons (eVar 3) aNil)) aNil))) [some (.ref 1), some (cD cs), some (rD rows), none] (rows.map tI) (S p) = .ok vs (S p') ∧ Rel2 (fun r v => v = tI r ∨ v = .lst (r.map D.int)) rows vs ∧ PenOk (c + 1 * rows.length) p' := fun rows hrows p c ok hc =>
    comp_pass (10 ^ 12) (by decide) rows (fun r hr p c ok hc => by
      obtain ⟨v, p', e, hv, o⟩ := pass_S (ds := r.map D.int) (d := .lst (r.map D.int)) ok (by omega) (.inr rfl)
      exact ⟨[some (.ref 1), some (cD cs), some (rD rows), some (tI r)], v, p', rfl, call_run (cons_run (var_run rfl) (one_run (eN_run (one_run (var_run rfl)) rfl))) rfl e, hv, o⟩) p c ok hc
  have outer := comp_pass (k := rD) (Pr := fun rows v => Rows L rows ∧ Nest 5 v (rD rows)) (K := 61) (10 ^ 11) (by decide) (all := cs.map rD) (g := gSet 2) (e := eCall 2 m__law_passed (aCons (eVar 0) (aCons (eComp [3] (itSeq (eVar 2)) (gSet 3) tYesM (eCall 2 m__law_passed (aCons (eVar 0) (aCons (eN fList (aCons (eVar 3) aNil)) aNil)))) aNil))) (δ := [some (.ref 1), some (cD cs), none, none]) cs (fun rows hrows p c ok hc => by
    have hR := h.rows rows hrows
    have few := hR.few
    obtain ⟨vs, p1, e1, hr, o1⟩ := inner rows hrows p c ok (by omega)
    have hlen := hr.length
    obtain ⟨v, p2, e2, hv, o2⟩ := pass_S (ds := vs) (d := .lst vs) o1 (by omega) (.inr rfl)
    refine ⟨[some (.ref 1), some (cD cs), some (rD rows), none], v, p2, rfl, call_run (cons_run (var_run rfl) (one_run (comp_run (seqT_run (st' := S p) (var_run rfl)) (by rw [List.length_map]; omega) e1))) rfl e2, ⟨hR, Nest.seq hv (by omega) (rel_flip (f := tI) (fun r v hv => nest_row (n := 2) (by have := (hv.1).le l3; omega) hv.2) (rel_mem (Q := fun r => Rw L r) hR.rw hr))⟩, PenOk.mono o2 (by omega)⟩) p c ok (by omega)
  obtain ⟨vs, p1, e1, hr, o1⟩ := outer
  have hlen := hr.length
  obtain ⟨v, p2, e2, hv, o2⟩ := pass_S (ds := vs) (d := .lst vs) o1 (by omega) (.inr rfl)
  refine ⟨v, p2, ?_, Nest.seq hv (by omega) (rel_flip (f := rD) (fun rows v hv => hv.2) hr), PenOk.mono o2 (by omega)⟩
  unfold m__law_handed_corners b__law_handed_corners
  exact fn_ret (δ := [some (.ref 1), some (cD cs), none, none]) (ret_run (call_run (cons_run (var_run rfl) (one_run (comp_run (seqT_run (st' := S p) (var_run rfl)) (by rw [List.length_map]; omega) e1))) rfl e2))
/-! ### corners, drawn -/
theorem antichain_run {L : Int} {p : Pen} {c : Int} (l1 : 1 ≤ L) (l3 : L ≤ 3) (ok : PenOk c p) (hc : c ≤ 10 ^ 9) : ∃ (rs : List (List Int)) (p' : Pen), m__law_antichain [.ref 1, .int L, .int 3, .int 3] (S p) = .ok (rD (leastP rs)) (S p') ∧ Rows L rs ∧ PenOk (c + 10) p' := by
  obtain ⟨n, p1, e1, n0, n1, o1⟩ := draw_S (many := 4) ok (by omega) (by decide) (by decide)
  obtain ⟨vs, p2, r1, r2, o2⟩ := comp_pass (k := fun (i : Nat) => D.int (0 + (i : Int))) (Pr := fun _ v => ∃ r : List Int, v = tI r ∧ Rw L r) (K := 3) (10 ^ 10) (by decide) (all := rangeD 0 n.toNat) (g := gSet 5) (e := eN fTuple (aCons (eComp [6] (itRange1 (eVar 1)) (gSet 6) tYesM (eCall 2 m__law_draw (aCons (eVar 0) (aCons (e2 fPlus (eVar 2) (eC (.int 1))) aNil)))) aNil)) (δ := [some (.ref 1), some (.int L), some (.int 3), some (.int 3), none, none, none, none, none, none, none]) (List.range n.toNat)
    (fun x _ p c ok hc => by
      obtain ⟨r, p', e, hr, o⟩ := row_draw (ip := 0) (iL := 1) (k := 6) (me := e2 fPlus (eVar 2) (eC (.int 1))) (many := 4) (L := L) (δ := [some (.ref 1), some (.int L), some (.int 3), some (.int 3), none, some (.int (0 + (x : Int))), none, none, none, none, none]) (fun _ => rfl) rfl (fun _ _ => e2_run (var_run rfl) c_run rfl) (by decide) (by decide) l1 l3 ok (by omega)
      exact ⟨[some (.ref 1), some (.int L), some (.int 3), some (.int 3), none, some (.int (0 + (x : Int))), none, none, none, none, none], _, p', rfl, e, ⟨r, rfl, hr⟩, o⟩) p1 (c + 1) o1 (by rw [List.length_range]; omega)
  obtain ⟨rs, q1, q2, q3⟩ := rel_of (f := tI) (P := fun r => Rw L r) r2
  rw [List.length_range] at q2 o2
  subst q1
  have hR : Rows L rs := ⟨by omega, q3⟩
  refine ⟨rs, p2, ?_, hR, PenOk.mono o2 (by omega)⟩
  unfold m__law_antichain b__law_antichain
  have hs : fSortS (S p2) (.lst (rs.map tI)) = some (.lst ((sortU rs).map tI)) := by
    unfold fSortS
    dsimp only
    rw [intsT_map]
    dsimp only
    rw [if_pos ⟨bdd_of l1 hR.rw, by omega⟩]
  have hlen := sortU_len rs
  have hfil := comp_filter (vs := [7]) (it := itSeq (eVar 4)) (g := gSet 7) (t := tNotM (tOf (eN fAny (aCons (eComp [8] (itSeq (eVar 4)) (gSet 8) tYesM (eAnd (e2 fNe (eVar 7) (eVar 8)) (eN fAll (aCons (eComp [9, 10] (itZip (aCons (eVar 7) (aCons (eVar 8) aNil))) (gTupD 2 (gsCons (gSet 9) (gsCons (gSet 10) gsNil))) tYesM (e2 (fCmp fun i j => decide (j ≤ i)) (eVar 9) (eVar 10))) aNil)))) aNil)))) (e := eVar 7) (δ := [some (.ref 1), some (.int L), some (.int 3), some (.int 3), some (.lst ((sortU rs).map tI)), none, none, none, none, none, none]) (st := S p2) (k := tI) (f := tI) (p := minQ (sortU rs)) (xs := sortU rs) (seq_run (var_run rfl)) (by omega) fun one hone => by
    refine ⟨[some (.ref 1), some (.int L), some (.int 3), some (.int 3), some (.lst ((sortU rs).map tI)), none, none, some (tI one), none, none, none], rfl, ?_, fun _ => var_run rfl⟩
    have hol := (hR.rw one (sortU_mem.mp hone)).le l3
    exact not_run (tOf_run (eN_run (one_run (comp_mapK (k := tI) (f := fun other => .bl (!(one == other) && cov one other)) (seq_run (var_run rfl)) (by omega) fun other _ => ⟨[some (.ref 1), some (.int L), some (.int 3), some (.int 3), some (.lst ((sortU rs).map tI)), none, none, some (tI one), some (tI other), none, none], rfl, any_eq rfl rfl (comp_zipG (f := fun i j => decide (j ≤ i)) (cons_run (var_run rfl) (one_run (var_run rfl))) (by omega) (Nat.le_of_ble_eq_true rfl) (Nat.le_of_ble_eq_true rfl) (by decide))⟩)) any_map))
  refine fn_ret (δ := [some (.ref 1), some (.int L), some (.int 3), some (.int 3), some (.lst ((sortU rs).map tI)), none, none, none, none, none, none]) ((seq_next (set_run (comp_run (rng_run (st' := S p1) (call_run (cons_run (var_run rfl) (one_run (e2_run (var_run rfl) c_run rfl))) rfl e1) (by omega) (by omega)) (by rw [rangeD_len]; omega) r1))).trans ?_)
  refine (seq_next (set_run (e1_run (var_run rfl) hs))).trans ?_
  exact ret_run (eN_run (one_run hfil) rfl)
theorem corners_run {L : Int} {p : Pen} {c : Int} (l1 : 1 ≤ L) (l3 : L ≤ 3) (ok : PenOk c p) (hc : c ≤ 10 ^ 8) : ∃ (rss : List (List (List Int))) (p' : Pen), m__law_corners [.ref 1, .int L, .int 3, .int 3] (S p) = .ok (cD (rss.map leastP)) (S p') ∧ Tb L rss ∧ PenOk (c + 31) p' := by
  obtain ⟨n, p1, e1, n0, n1, o1⟩ := draw_S (many := 3) ok (by omega) (by decide) (by decide)
  obtain ⟨vs, p2, r1, r2, o2⟩ := comp_pass (k := fun (i : Nat) => D.int (0 + (i : Int))) (Pr := fun _ v => ∃ rs : List (List Int), v = rD (leastP rs) ∧ Rows L rs) (K := 10) (10 ^ 9) (by decide) (all := rangeD 0 (1 + n).toNat) (g := gSet 4) (e := eCall 4 m__law_antichain (aCons (eVar 0) (aCons (eVar 1) (aCons (eVar 2) (aCons (eVar 3) aNil))))) (δ := [some (.ref 1), some (.int L), some (.int 3), some (.int 3), none]) (List.range (1 + n).toNat)
    (fun x _ p c ok hc => by
      obtain ⟨rs, p', e, hr, o⟩ := antichain_run l1 l3 ok hc
      exact ⟨[some (.ref 1), some (.int L), some (.int 3), some (.int 3), some (.int (0 + (x : Int)))], _, p', rfl, call_run (cons_run (var_run rfl) (cons_run (var_run rfl) (cons_run (var_run rfl) (one_run (var_run rfl))))) rfl e, ⟨rs, rfl, hr⟩, o⟩) p1 (c + 1) o1 (by rw [List.length_range]; omega)
  obtain ⟨rss, q1, q2, q3⟩ := rel_of (f := fun rs => rD (leastP rs)) (P := fun rs => Rows L rs) r2
  rw [List.length_range] at q2 o2
  subst q1
  refine ⟨rss, p2, ?_, ⟨l1, l3, by omega, by omega, q3⟩, PenOk.mono o2 (by omega)⟩
  unfold m__law_corners b__law_corners
  refine fn_ret (δ := [some (.ref 1), some (.int L), some (.int 3), some (.int 3), none]) (ret_run (eN_run (one_run (comp_run (rng_run (st' := S p1) (e2_run c_run (call_run (cons_run (var_run rfl) (one_run c_run)) rfl e1) (v := .int (1 + n)) rfl) (by omega) (by omega)) (by rw [rangeD_len]; omega) r1)) ?_))
  show some (D.tup _) = some (D.tup ((rss.map leastP).map rD))
  rw [List.map_map]
  rfl
theorem least_tb {L : Int} {rss : List (List (List Int))} (h : Tb L rss) : Tb L (rss.map leastP) := by
  refine ⟨h.l1, h.l3, by rw [List.length_map]; exact h.c1, by rw [List.length_map]; exact h.c3, fun rows hr => ?_⟩
  obtain ⟨rs, hrs, rfl⟩ := List.mem_map.mp hr
  exact least_rows (h.rows rs hrs)
theorem least_antis {rss : List (List (List Int))} : ∀ rows ∈ rss.map leastP, Anti rows := fun rows hr => by
  obtain ⟨rs, hrs, rfl⟩ := List.mem_map.mp hr
  exact least_anti rs
end K63
/-! k63: the plain law: a case -/
namespace K63
open PySem PySem.Spec PyProof.Rows L2 DL
abbrev cenv (y1 y2 y3 y4 y5 y6 y7 y8 y9 y10 y11 y12 : Option D) : DEnv := [some (.ref 1), y1, y2, y3, y4, y5, y6, y7, y8, y9, y10, y11, y12, none, none, none, none, none, none]
theorem par_run {is : List Nat} {a : AM} {δ : DEnv} {st st' : Store} {ds : List D} (h : a δ st = .ok ds st') (hl : ds.length = is.length) : sPar is a δ st = .ok (.next, setAll δ is ds) st' := by
  unfold sPar
  rw [M.ok_bind h, if_pos hl]
  rfl
theorem nest_dv {q : Int × List Int} {w v : D} (hl : q.2.length ≤ 1000) (hw : w = tI q.2 ∨ w = .lst (q.2.map D.int)) (hv : v = .tup [.int q.1, w] ∨ v = .lst [.int q.1, w]) : Nest 6 v (dv q) :=
  Nest.seq hv (Nat.le_of_ble_eq_true rfl) (.cons Nest.int (.cons (nest_row (n := 3) hl hw) .nil))
section
variable {y3 y4 y5 y6 y7 y8 y9 y10 y11 y12 : Option D} {Ln : Nat} {cs rss : List (List (List Int))} {p : Pen} {c : Int}
noncomputable def lapC : SM := (sSeq (sSet 6 (eTup (aCons (eCall 2 m__law_draw (aCons (eVar 0) (aCons (eN fLen (aCons (eVar 2) aNil)) aNil))) (aCons (eN fTuple (aCons (eComp [13] (itRange1 (eVar 1)) (gSet 13) tYesM (eCall 2 m__law_draw (aCons (eVar 0) (aCons (eC (.int 6)) aNil)))) aNil)) aNil))))
 (sSeq (sSet 7 (eCall 2 m__law_passed (aCons (eVar 0) (aCons (eLst (aCons (e2 fItem (eVar 6) (eC (.int 0))) (aCons (eCall 2 m__law_passed (aCons (eVar 0) (aCons (eN fList (aCons (e2 fItem (eVar 6) (eC (.int 1))) aNil)) aNil))) aNil))) aNil))))
 (sIf (tOf (e2 fNe (eN fRepr (aCons (eCall 3 m_open_at (aCons (eVar 1) (aCons (eCall 2 m__law_handed_corners (aCons (eVar 0) (aCons (eVar 2) aNil))) (aCons (eVar 7) aNil)))) aNil)) (eN fRepr (aCons (eCall 2 m__law_is_open (aCons (eCall 1 m__law_heads_of (aCons (eVar 2) aNil)) (aCons (eVar 6) aNil))) aNil))))
 (sRet (eC (.bl false)))
 sNil)))
theorem lap_run (h : Tb Ln cs) (hA : ∀ rows ∈ cs, Anti rows) (ok : PenOk c p) (hc : c ≤ 10 ^ 8) : ∃ (z6 z7 : Option D) (p' : Pen), lapC (cenv (some (.int Ln)) (some (cD cs)) y3 y4 y5 y6 y7 y8 y9 y10 y11 y12) (S p) = .ok (.next, cenv (some (.int Ln)) (some (cD cs)) y3 y4 y5 z6 z7 y8 y9 y10 y11 y12) (S p') ∧ PenOk (c + 210) p' := by
  have c1 := h.c1
  have c3 := h.c3
  have l3 := h.l3
  obtain ⟨u, p1, e1, u0, u1, o1⟩ := draw_S (many := cs.length) ok (by omega) (by omega) (by omega)
  obtain ⟨r, p2, e2', hr, o2⟩ := row_draw (ip := 0) (iL := 1) (k := 13) (me := eC (.int 6)) (many := 6) (L := Ln) (δ := cenv (some (.int Ln)) (some (cD cs)) y3 y4 y5 y6 y7 y8 y9 y10 y11 y12) (fun _ => rfl) rfl (fun _ _ => c_run) (by decide) (by decide) h.l1 h.l3 o1 (by omega)
  obtain ⟨w, p3, e3, hw, o3⟩ := pass_S (ds := r.map D.int) (d := .lst (r.map D.int)) o2 (by omega) (.inr rfl)
  obtain ⟨v, p4, e4, hv, o4⟩ := pass_S (ds := [.int u, w]) (d := .lst [.int u, w]) o3 (by omega) (.inr rfl)
  obtain ⟨hd, p5, e5, hn, o5⟩ := handed_run h o4 (by omega)
  have hrl := hr.le l3
  have nv : Nest 6 v (dv (u, r)) := nest_dv (q := (u, r)) (by show r.length ≤ 1000; omega) hw hv
  obtain ⟨s, hs⟩ := repr_bl (st := S p5) (b := opn cs (u, r))
  refine ⟨some (dv (u, r)), some v, p5, ?_, PenOk.mono o5 (by omega)⟩
  unfold lapC
  have t1 : eTup (aCons (eCall 2 m__law_draw (aCons (eVar 0) (aCons (eN fLen (aCons (eVar 2) aNil)) aNil))) (aCons (eN fTuple (aCons (eComp [13] (itRange1 (eVar 1)) (gSet 13) tYesM (eCall 2 m__law_draw (aCons (eVar 0) (aCons (eC (.int 6)) aNil)))) aNil)) aNil)) (cenv (some (.int Ln)) (some (cD cs)) y3 y4 y5 y6 y7 y8 y9 y10 y11 y12) (S p) = .ok (dv (u, r)) (S p2) := by
    have hlen : eN fLen (aCons (eVar 2) aNil) (cenv (some (.int Ln)) (some (cD cs)) y3 y4 y5 y6 y7 y8 y9 y10 y11 y12) (S p) = .ok (.int cs.length) (S p) := eN_run (one_run (var_run rfl)) (by rw [x_lenT, List.length_map])
    exact tup_run (cons_run (call_run (cons_run (var_run rfl) (one_run hlen)) rfl e1) (one_run e2')) (Nat.le_of_ble_eq_true rfl)
  refine (seq_next (set_run t1)).trans ?_
  refine (seq_next (set_run (call_run (cons_run (var_run rfl) (one_run (lst_run (cons_run (e2_run (var_run rfl) c_run x_item0) (one_run (call_run (cons_run (var_run rfl) (one_run (eN_run (one_run (e2_run (var_run rfl) c_run x_item1)) rfl))) rfl e3))) (Nat.le_of_ble_eq_true rfl)))) rfl e4))).trans ?_
  have hX : eCall 3 m_open_at (aCons (eVar 1) (aCons (eCall 2 m__law_handed_corners (aCons (eVar 0) (aCons (eVar 2) aNil))) (aCons (eVar 7) aNil))) (cenv (some (.int Ln)) (some (cD cs)) y3 y4 y5 (some (dv (u, r))) (some v) y8 y9 y10 y11 y12) (S p4) = .ok (.bl (opn cs (u, r))) (S p5) :=
    call_run (cons_run (var_run rfl) (cons_run (call_run (cons_run (var_run rfl) (one_run (var_run rfl))) rfl e5) (one_run (var_run rfl)))) rfl (openat_run h hA hn u0 u1 hr nv)
  have hY : eCall 2 m__law_is_open (aCons (eCall 1 m__law_heads_of (aCons (eVar 2) aNil)) (aCons (eVar 6) aNil)) (cenv (some (.int Ln)) (some (cD cs)) y3 y4 y5 (some (dv (u, r))) (some v) y8 y9 y10 y11 y12) (S p5) = .ok (.bl (opn cs (u, r))) (S p5) :=
    call_run (cons_run (call_run (one_run (var_run rfl)) rfl (heads_run h)) (one_run (var_run rfl))) rfl (isopen_run h u0)
  have t3 : tOf (e2 fNe (eN fRepr (aCons (eCall 3 m_open_at (aCons (eVar 1) (aCons (eCall 2 m__law_handed_corners (aCons (eVar 0) (aCons (eVar 2) aNil))) (aCons (eVar 7) aNil)))) aNil)) (eN fRepr (aCons (eCall 2 m__law_is_open (aCons (eCall 1 m__law_heads_of (aCons (eVar 2) aNil)) (aCons (eVar 6) aNil))) aNil))) (cenv (some (.int Ln)) (some (cD cs)) y3 y4 y5 (some (dv (u, r))) (some v) y8 y9 y10 y11 y12) (S p4) = .ok false (S p5) := by
    refine tOf_run (e2_run (eN_run (one_run hX) hs) (eN_run (one_run hY) hs) ?_)
    rw [x_neS, beq_self_eq_true]
    rfl
  exact (if_not t3).trans rfl
theorem laps_run (h : Tb Ln cs) (hA : ∀ rows ∈ cs, Anti rows) {all : List D} : ∀ (ds : List D) (p : Pen) (c : Int) (y5 y6 y7 : Option D), PenOk c p → c + 210 * ds.length ≤ 10 ^ 8 →
    ∃ (z5 z6 z7 : Option D) (p' : Pen), forL none all (gSet 5) lapC ds (cenv (some (.int Ln)) (some (cD cs)) y3 y4 y5 y6 y7 y8 y9 y10 y11 y12) (S p) = .ok (.next, cenv (some (.int Ln)) (some (cD cs)) y3 y4 z5 z6 z7 y8 y9 y10 y11 y12) (S p') ∧ PenOk (c + 210 * ds.length) p'
  | [], p, c, y5, y6, y7, ok, _ => ⟨y5, y6, y7, p, rfl, PenOk.mono ok (by simp)⟩
  | d :: ds, p, c, y5, y6, y7, ok, hc => by
    have hc' : c + 210 * (ds.length + 1 : Nat) ≤ 10 ^ 8 := hc
    obtain ⟨w6, w7, p1, e1, o1⟩ := lap_run (y3 := y3) (y4 := y4) (y5 := some d) (y6 := y6) (y7 := y7) (y8 := y8) (y9 := y9) (y10 := y10) (y11 := y11) (y12 := y12) h hA ok (by omega)
    obtain ⟨z5, z6, z7, p', e2, o2⟩ := laps_run h hA (all := all) ds p1 (c + 210) (some d) w6 w7 o1 (by omega)
    refine ⟨z5, z6, z7, p', ?_, PenOk.mono o2 (by simp only [List.length_cons]; omega)⟩
    rw [forL, chk_none]
    show (lapC (cenv (some (.int Ln)) (some (cD cs)) y3 y4 (some d) y6 y7 y8 y9 y10 y11 y12) >>= _) (S p) = _
    rw [M.ok_bind e1]
    exact e2
theorem zip_least (rss : List (List (List Int))) : (((rss.map leastP).map rD).zip (rss.map rD)).map (fun p => D.tup [p.1, p.2]) = rss.map fun rs => D.tup [rD (leastP rs), rD rs] := by
  induction rss with
  | nil => rfl
  | cons rs rss ih =>
    rw [List.map_cons, List.map_cons, List.map_cons, List.zip_cons_cons, List.map_cons, ih]
    rfl
/-- rows, drawn -/
theorem rows_draw {L : Int} {δ : DEnv} (hδ : δ = cenv (some (.int L)) y3 y4 y5 y6 y7 y8 y9 y10 y11 y12 none) (l1 : 1 ≤ L) (l3 : L ≤ 3) (ok : PenOk c p) (hc : c ≤ 10 ^ 8) : ∃ (rss : List (List (List Int))) (p' : Pen),
    eN fTuple (aCons (eComp [14] (itRange1 (e2 fPlus (eC (.int 1)) (eCall 2 m__law_draw (aCons (eVar 0) (aCons (eC (.int 2)) aNil))))) (gSet 14) tYesM (eN fTuple (aCons (eComp [15] (itRange1 (eCall 2 m__law_draw (aCons (eVar 0) (aCons (eC (.int 5)) aNil)))) (gSet 15) tYesM (eN fTuple (aCons (eComp [13] (itRange1 (eVar 1)) (gSet 13) tYesM (eCall 2 m__law_draw (aCons (eVar 0) (aCons (eC (.int 4)) aNil)))) aNil))) aNil))) aNil) δ (S p) = .ok (cD rss) (S p') ∧ Tb L rss ∧ PenOk (c + 31) p' := by
  subst hδ
  obtain ⟨n, p1, e1, n0, n1, o1⟩ := draw_S (many := 2) ok (by omega) (by decide) (by decide)
  obtain ⟨vs, p2, r1, r2, o2⟩ := comp_pass (k := fun (i : Nat) => D.int (0 + (i : Int))) (Pr := fun _ v => ∃ rs : List (List Int), v = rD rs ∧ Rows L rs) (K := 13) (10 ^ 9) (by decide) (all := rangeD 0 (1 + n).toNat) (g := gSet 14) (e := eN fTuple (aCons (eComp [15] (itRange1 (eCall 2 m__law_draw (aCons (eVar 0) (aCons (eC (.int 5)) aNil)))) (gSet 15) tYesM (eN fTuple (aCons (eComp [13] (itRange1 (eVar 1)) (gSet 13) tYesM (eCall 2 m__law_draw (aCons (eVar 0) (aCons (eC (.int 4)) aNil)))) aNil))) aNil)) (δ := wipeD (cenv (some (.int L)) y3 y4 y5 y6 y7 y8 y9 y10 y11 y12 none) [14]) (List.range (1 + n).toNat)
    (fun x _ p c ok hc => by
      obtain ⟨m, p3, e3, m0, m1, o3⟩ := draw_S (many := 5) ok (by omega) (by decide) (by decide)
      obtain ⟨ws, p4, q1, q2, o4⟩ := comp_pass (k := fun (i : Nat) => D.int (0 + (i : Int))) (Pr := fun _ v => ∃ r : List Int, v = tI r ∧ Rw L r) (K := 3) (10 ^ 10) (by decide) (all := rangeD 0 m.toNat) (g := gSet 15) (e := eN fTuple (aCons (eComp [13] (itRange1 (eVar 1)) (gSet 13) tYesM (eCall 2 m__law_draw (aCons (eVar 0) (aCons (eC (.int 4)) aNil)))) aNil)) (δ := wipeD ((wipeD (cenv (some (.int L)) y3 y4 y5 y6 y7 y8 y9 y10 y11 y12 none) [14]).set 14 (some (.int (0 + (x : Int))))) [15]) (List.range m.toNat)
        (fun z _ p c ok hc => by
          obtain ⟨r, p', e, hr, o⟩ := row_draw (ip := 0) (iL := 1) (k := 13) (me := eC (.int 4)) (many := 4) (L := L) (δ := (wipeD ((wipeD (cenv (some (.int L)) y3 y4 y5 y6 y7 y8 y9 y10 y11 y12 none) [14]).set 14 (some (.int (0 + (x : Int))))) [15]).set 15 (some (.int (0 + (z : Int))))) (fun _ => rfl) rfl (fun _ _ => c_run) (by decide) (by decide) l1 l3 ok hc
          exact ⟨_, _, p', rfl, e, ⟨r, rfl, hr⟩, o⟩) p3 (c + 1) o3 (by rw [List.length_range]; omega)
      obtain ⟨rs, k1, k2, k3⟩ := rel_of (f := tI) (P := fun r => Rw L r) q2
      rw [List.length_range] at k2 o4
      subst k1
      exact ⟨_, rD rs, p4, rfl, eN_run (one_run (comp_run (rng_run (st' := S p3) (call_run (cons_run (var_run rfl) (one_run c_run)) rfl e3) (by omega) (by omega)) (by rw [rangeD_len]; omega) q1)) rfl, ⟨rs, rfl, ⟨by omega, k3⟩⟩, PenOk.mono o4 (by omega)⟩) p1 (c + 1) o1 (by rw [List.length_range]; omega)
  obtain ⟨rss, q1, q2, q3⟩ := rel_of (f := rD) (P := fun rs => Rows L rs) r2
  rw [List.length_range] at q2 o2
  subst q1
  refine ⟨rss, p2, ?_, ⟨l1, l3, by omega, by omega, q3⟩, PenOk.mono o2 (by omega)⟩
  exact eN_run (one_run (comp_run (rng_run (st' := S p1) (e2_run c_run (call_run (cons_run (var_run rfl) (one_run c_run)) rfl e1) (v := .int (1 + n)) rfl) (by omega) (by omega)) (by rw [rangeD_len]; omega) r1)) rfl
end
theorem case_run {p : Pen} {c : Int} (ok : PenOk c p) (hc : c ≤ 10 ^ 6) : ∃ p', m__law_case [.ref 1] (S p) = .ok (.bl true) (S p') ∧ PenOk (c + 2000) p' := by
  obtain ⟨d, p1, f1, d0, d1, o1⟩ := draw_S (many := 3) ok (by omega) (by decide) (by decide)
  obtain ⟨Ln, hL⟩ : ∃ Ln : Nat, (Ln : Int) = 1 + d := ⟨(1 + d).toNat, by omega⟩
  obtain ⟨css, p2, e2', hT0, o2⟩ := corners_run (L := Ln) (by omega) (by omega) o1 (by omega)
  have hT := least_tb hT0
  have hA := least_antis (rss := css)
  generalize css.map leastP = cs at e2' hT hA
  obtain ⟨o, p3, e3, q0, q1, o3⟩ := draw_S (many := 5) o2 (by omega) (by decide) (by decide)
  have okL : ∀ O : Int, 0 ≤ O → O < 5 → OkR O Ln := fun O h0 h1 => by
    have := okR_all Ln (by simp; omega) O.toNat (by simp; omega)
    rw [show ((O.toNat : Nat) : Int) = O by omega] at this
    exact okR_ok this
  have okO := okL o q0 q1
  have ok4 := okL 4 (by decide) (by decide)
  obtain ⟨v, p4, e4, hv, o4⟩ := handed_run hT o3 (by omega)
  obtain ⟨s1, hs1⟩ := repr_out (st := S p4) hT okO
  obtain ⟨z5, z6, z7, p5, e5, o5⟩ := laps_run (y3 := some (.int o)) (y4 := some (.lst ((outP cs Ln o).map dv))) (y8 := none) (y9 := none) (y10 := none) (y11 := none) (y12 := none) hT hA (all := rangeD 0 6) (rangeD 0 6) p4 (c + 1 + 31 + 1 + 200) none none none o4 (by rw [rangeD_len]; omega)
  rw [rangeD_len] at o5
  obtain ⟨rss, p6, e6, hR, o6⟩ := rows_draw (y3 := some (cD cs)) (y4 := some (.int o)) (y5 := some (.lst ((outP cs Ln o).map dv))) (y6 := z5) (y7 := z6) (y8 := z7) (y9 := none) (y10 := none) (y11 := none) (y12 := none) (L := Ln) rfl (by omega) (by omega) o5 (by omega)
  obtain ⟨v2, p7, e7, hv2, o7⟩ := handed_run hR o6 (by omega)
  have l3 := hR.l3
  have hlc := lcorn_run (st := S p7) hR hv2
  have hTl := least_tb hR
  have hAl := least_antis (rss := rss)
  have hopen := opend_run (st := S p7) (O := 4) hTl hAl (nest_self hTl) (by decide) (by decide) ok4
  rw [out_least hR.rows ok4] at hopen
  have hlopen := lopen_run (st := S p7) hR ok4
  -- the loop over both
  obtain ⟨δ', g1, y10, y11, y12, rfl⟩ := for_mem (P := fun δ => ∃ y10 y11 y12, δ = cenv (some (.int Ln)) (some (cD cs)) (some (.int o)) (some (.lst ((outP cs Ln o).map dv))) z5 z6 z7 (some (cD rss)) (some (cD (rss.map leastP))) y10 y11 y12) (g := gTupD 2 (gsCons (gSet 10) (gsCons (gSet 11) gsNil))) (st := S p7) (all := rss.map fun rs => D.tup [rD (leastP rs), rD rs]) (ds := rss.map fun rs => D.tup [rD (leastP rs), rD rs]) (δ := cenv (some (.int Ln)) (some (cD cs)) (some (.int o)) (some (.lst ((outP cs Ln o).map dv))) z5 z6 z7 (some (cD rss)) (some (cD (rss.map leastP))) none none none)
    (body := (sSeq (sSet 12 (eN fTuple (aCons (e1 fSortS (eComp [6] (itSeq (eVar 11)) (gSet 6) (tNotM (tOf (eN fAny (aCons (eComp [16] (itSeq (eVar 11)) (gSet 16) tYesM (eAnd (e2 fNe (eVar 6) (eVar 16)) (eN fAll (aCons (eComp [17, 18] (itZip (aCons (eVar 6) (aCons (eVar 16) aNil))) (gTupD 2 (gsCons (gSet 17) (gsCons (gSet 18) gsNil))) tYesM (e2 (fCmp fun i j => decide (j ≤ i)) (eVar 17) (eVar 18))) aNil)))) aNil)))) (eVar 6))) aNil)))
 (sIf (tOf (e2 fNe (eN fRepr (aCons (eVar 10) aNil)) (eN fRepr (aCons (eVar 12) aNil))))
 (sRet (eC (.bl false)))
 sNil))) (fun x hx δ hP => by
      obtain ⟨y10, y11, y12, rfl⟩ := hP
      obtain ⟨own, hown, rfl⟩ := List.mem_map.mp hx
      have hW := hR.rows own hown
      have few := hW.few
      obtain ⟨s2, hs2⟩ := repr_rows (st := S p7) (least_rows hW) l3
      have hfil := comp_filter (vs := [6]) (it := itSeq (eVar 11)) (g := gSet 6) (t := tNotM (tOf (eN fAny (aCons (eComp [16] (itSeq (eVar 11)) (gSet 16) tYesM (eAnd (e2 fNe (eVar 6) (eVar 16)) (eN fAll (aCons (eComp [17, 18] (itZip (aCons (eVar 6) (aCons (eVar 16) aNil))) (gTupD 2 (gsCons (gSet 17) (gsCons (gSet 18) gsNil))) tYesM (e2 (fCmp fun i j => decide (j ≤ i)) (eVar 17) (eVar 18))) aNil)))) aNil)))) (e := eVar 6) (δ := cenv (some (.int Ln)) (some (cD cs)) (some (.int o)) (some (.lst ((outP cs Ln o).map dv))) z5 z6 z7 (some (cD rss)) (some (cD (rss.map leastP))) (some (rD (leastP own))) (some (rD own)) y12) (st := S p7) (k := tI) (f := tI) (p := minQ own) (xs := own) (seqT_run (var_run rfl)) (by omega) fun one hone => by
        refine ⟨cenv (some (.int Ln)) (some (cD cs)) (some (.int o)) (some (.lst ((outP cs Ln o).map dv))) z5 (some (tI one)) z7 (some (cD rss)) (some (cD (rss.map leastP))) (some (rD (leastP own))) (some (rD own)) y12, rfl, ?_, fun _ => var_run rfl⟩
        have hol := (hW.rw one hone).le l3
        exact not_run (tOf_run (eN_run (one_run (comp_mapK (k := tI) (f := fun other => .bl (!(one == other) && cov one other)) (seqT_run (var_run rfl)) (by omega) fun other _ => ⟨[some (.ref 1), some (.int Ln), some (cD cs), some (.int o), some (.lst ((outP cs Ln o).map dv)), z5, some (tI one), z7, some (cD rss), some (cD (rss.map leastP)), some (rD (leastP own)), some (rD own), y12, none, none, none, some (tI other), none, none], rfl, any_eq rfl rfl (comp_zipG (f := fun i j => decide (j ≤ i)) (cons_run (var_run rfl) (one_run (var_run rfl))) (by omega) (Nat.le_of_ble_eq_true rfl) (Nat.le_of_ble_eq_true rfl) (by decide))⟩)) any_map))
      have hsrt : fSortS (S p7) (.lst ((own.filter (minQ own)).map tI)) = some (.lst ((leastP own).map tI)) := by
        have hf := List.length_filter_le (minQ own) own
        unfold fSortS
        dsimp only
        rw [intsT_map]
        dsimp only
        rw [if_pos ⟨bdd_of hR.l1 (fun r hr => hW.rw r (List.mem_filter.mp hr).1), by omega⟩, mine_eq]
      refine ⟨cenv (some (.int Ln)) (some (cD cs)) (some (.int o)) (some (.lst ((outP cs Ln o).map dv))) z5 z6 z7 (some (cD rss)) (some (cD (rss.map leastP))) (some (rD (leastP own))) (some (rD own)) y12, cenv (some (.int Ln)) (some (cD cs)) (some (.int o)) (some (.lst ((outP cs Ln o).map dv))) z5 z6 z7 (some (cD rss)) (some (cD (rss.map leastP))) (some (rD (leastP own))) (some (rD own)) (some (rD (leastP own))), rfl, ?_, _, _, _, rfl⟩
      refine (seq_next (set_run (eN_run (v := rD (leastP own)) (one_run (e1_run hfil hsrt)) rfl))).trans ?_
      exact (if_not (repr_same (v := rD (leastP own)) (var_run rfl) (var_run rfl) hs2)).trans rfl) ⟨none, none, none, rfl⟩
  refine ⟨p7, ?_, PenOk.mono o7 (by omega)⟩
  unfold m__law_case b__law_case
  refine fn_ret (δ := cenv (some (.int Ln)) (some (cD cs)) (some (.int o)) (some (.lst ((outP cs Ln o).map dv))) z5 z6 z7 (some (cD rss)) (some (cD (rss.map leastP))) y10 y11 y12) ?_
  have t1 : e2 fPlus (eC (.int 1)) (eCall 2 m__law_draw (aCons (eVar 0) (aCons (eC (.int 3)) aNil))) (startD 19 [.ref 1]) (S p) = .ok (.int Ln) (S p1) := by
    rw [hL]
    exact e2_run c_run (call_run (cons_run (var_run rfl) (one_run c_run)) rfl f1) rfl
  refine (seq_next (set_run t1)).trans ?_
  refine (seq_next (δ' := cenv (some (.int Ln)) (some (cD cs)) (some (.int o)) none none none none none none none none none) (st' := S p3) (par_run (cons_run (call_run (cons_run (var_run rfl) (cons_run (var_run rfl) (cons_run c_run (one_run c_run)))) rfl e2') (one_run (call_run (cons_run (var_run rfl) (one_run c_run)) rfl e3))) rfl)).trans ?_
  refine (seq_next (set_run (call_run (cons_run (var_run rfl) (cons_run (var_run rfl) (one_run (var_run rfl)))) rfl (lopen_run hT okO)))).trans ?_
  have t4 : tOf (e2 fNe (eN fRepr (aCons (eCall 3 m_open_derivatives (aCons (eVar 1) (aCons (eCall 2 m__law_handed_corners (aCons (eVar 0) (aCons (eVar 2) aNil))) (aCons (eVar 3) aNil)))) aNil)) (eN fRepr (aCons (eN fTuple (aCons (eVar 4) aNil)) aNil))) (cenv (some (.int Ln)) (some (cD cs)) (some (.int o)) (some (.lst ((outP cs Ln o).map dv))) none none none none none none none none) (S p3) = .ok false (S p4) := by
    refine tOf_run (e2_run (eN_run (one_run (call_run (cons_run (var_run rfl) (cons_run (call_run (cons_run (var_run rfl) (one_run (var_run rfl))) rfl e4) (one_run (var_run rfl)))) rfl (opend_run hT hA hv q0 (by omega) okO))) hs1) (eN_run (one_run (eN_run (one_run (var_run rfl)) rfl)) hs1) ?_)
    rw [x_neS, beq_self_eq_true]
    rfl
  refine (seq_next ((if_not t4).trans rfl)).trans ?_
  refine (seq_next (for_run (it := itRange1 (eC (.int 6))) (st0 := S p4) (ds := rangeD 0 6) rfl e5)).trans ?_
  refine (seq_next (set_run e6)).trans ?_
  refine (seq_next (set_run (call_run (cons_run (var_run rfl) (one_run (call_run (cons_run (var_run rfl) (one_run (var_run rfl))) rfl e7))) rfl hlc))).trans ?_
  have hz : itZip (aCons (eVar 9) (aCons (eVar 8) aNil)) (cenv (some (.int Ln)) (some (cD cs)) (some (.int o)) (some (.lst ((outP cs Ln o).map dv))) z5 z6 z7 (some (cD rss)) (some (cD (rss.map leastP))) none none none) (S p7) = .ok (rss.map fun rs => D.tup [rD (leastP rs), rD rs], none) (S p7) := by
    have := zip_run (a := aCons (eVar 9) (aCons (eVar 8) aNil)) (δ := cenv (some (.int Ln)) (some (cD cs)) (some (.int o)) (some (.lst ((outP cs Ln o).map dv))) z5 z6 z7 (some (cD rss)) (some (cD (rss.map leastP))) none none none) (st := S p7) (st' := S p7) (xs := (rss.map leastP).map rD) (ys := rss.map rD) (cons_run (var_run rfl) (one_run (var_run rfl)))
    rw [zip_least] at this
    exact this
  refine (seq_next (for_run hz g1)).trans ?_
  refine ret_run ?_
  have r1 : e2 fEqD (eN fLen (aCons (eVar 9) aNil)) (eN fLen (aCons (eVar 8) aNil)) (cenv (some (.int Ln)) (some (cD cs)) (some (.int o)) (some (.lst ((outP cs Ln o).map dv))) z5 z6 z7 (some (cD rss)) (some (cD (rss.map leastP))) y10 y11 y12) (S p7) = .ok (.bl true) (S p7) := by
    refine e2_run (eN_run (one_run (var_run rfl)) x_lenT) (eN_run (one_run (var_run rfl)) x_lenT) ?_
    rw [List.length_map, List.length_map, List.length_map, x_eq, beq_self_eq_true]
  exact (eAnd_yes r1).trans (e2_run (call_run (cons_run (var_run rfl) (cons_run (var_run rfl) (one_run c_run))) rfl hopen) (eN_run (one_run (call_run (cons_run (var_run rfl) (cons_run (var_run rfl) (one_run c_run))) rfl hlopen)) rfl) (refl_out _))
end K63
/-! k63: the plain law: the errors, the end -/
namespace K63
open PySem PySem.Spec PyProof.Rows L2 DL
abbrev goodD : D := .tup [.tup [.tup [.int 1, .int 1]]]
abbrev lettersL : List D := [.int 0, .int 4, .non, .bl true, .str "2"]
abbrev badL : List D := [.non, .int 5, .tup [], .tup [.tup [], .tup [], .tup [], .tup []], .tup [.tup [.int 1, .int 1]], .tup [.tup [.tup [.int 1]]], .tup [.tup [.tup [.int 1, .int (-1)]]], .tup [.tup [.tup [.int 1, .int 1], .tup [.int 1, .int 1]]], .tup [.tup [.tup [.int 1, .int 1], .tup [.int 0, .int 2]]], .tup [.tup [.tup [.int 1, .int 1], .tup [.int 2, .int 1]]], .tup [.tup [.tup [.bl true, .int 1]]], .str "ab"]
abbrev oddL : List D := [.non, .int 5, .tup [.int 0], .tup [.int 1, .tup [.int 0, .int 0]], .tup [.int 0, .tup [.int 0]], .tup [.int 0, .tup [.int (-1), .int 0]], .tup [.bl true, .tup [.int 0, .int 0]], .str "ab"]
abbrev farL : List D := [.int (-1), .int 9, .non, .bl true, .str "1"]
abbrev rowsL : List D := [.non, .int 5, .tup [], .tup [.tup [], .tup [], .tup [], .tup []], .tup [.tup [.int 1, .int 1]], .tup [.tup [.tup [.int 1]]], .tup [.tup [.tup [.int 1, .int (-1)]]], .tup [.tup [.tup [.bl true, .int 1]]], .str "ab"]
section
variable {st : Store} {letters bad odd far rows v v2 v3 : D} {c : Str} {es : List D}
theorem let_e (h : letters ∈ lettersL) : m_need_between [.str "letters", letters, .int 1, .int 3] st = .exc "BadNumber" [letters, .str "letters"] st := by
  simp only [lettersL, List.mem_cons, List.not_mem_nil, or_false] at h
  rcases h with rfl | rfl | rfl | rfl | rfl <;> rfl
theorem cfrom_e (h : letters ∈ lettersL) : m_corners_from [letters, v] st = .exc "BadNumber" [letters, .str "letters"] st := by
  unfold m_corners_from b_corners_from
  exact fn_exc (seq_exc (ex_exc (lamE1 (cons_run c_run (cons_run (var_run rfl) (cons_run c_run (one_run c_run)))) rfl (let_e h))))
theorem least_e (h : letters ∈ lettersL) : m_least_corners [letters, v] st = .exc "BadNumber" [letters, .str "letters"] st := by
  unfold m_least_corners b_least_corners
  exact fn_exc (seq_exc (ex_exc (lamE1 (cons_run c_run (cons_run (var_run rfl) (cons_run c_run (one_run c_run)))) rfl (let_e h))))
theorem bad_from (h : bad ∈ badL) : m_corners_from [.int 2, bad] st = .exc "BadTable" [bad] st := by
  simp only [badL, List.mem_cons, List.not_mem_nil, or_false] at h
  rcases h with rfl | rfl | rfl | rfl | rfl | rfl | rfl | rfl | rfl | rfl | rfl | rfl <;> rfl
theorem good_from : m_corners_from [.int 2, goodD] st = .ok goodD st := rfl
theorem odd_from (h : odd ∈ oddL) : m_derivative_from [.int 2, goodD, odd] st = .exc "BadRow" [odd] st := by
  simp only [oddL, List.mem_cons, List.not_mem_nil, or_false] at h
  rcases h with rfl | rfl | rfl | rfl | rfl | rfl | rfl | rfl <;> rfl
theorem rows_least (h : rows ∈ rowsL) : m_least_corners [.int 2, rows] st = .exc "BadTable" [rows] st := by
  simp only [rowsL, List.mem_cons, List.not_mem_nil, or_false] at h
  rcases h with rfl | rfl | rfl | rfl | rfl | rfl | rfl | rfl | rfl <;> rfl
theorem at_e0 (h : m_corners_from [v, v2] st = .exc c es st) : m_open_at [v, v2, v3] st = .exc c es st := by
  unfold m_open_at b_open_at
  exact fn_exc (seq_exc (set_exc (lamE1 (cons_run (var_run rfl) (one_run (var_run rfl))) rfl h)))
theorem at_e1 (h : odd ∈ oddL) : m_open_at [.int 2, goodD, odd] st = .exc "BadRow" [odd] st := by
  unfold m_open_at b_open_at
  refine fn_exc ((seq_next (set_run (call_run (cons_run (var_run rfl) (one_run (var_run rfl))) rfl good_from))).trans ?_)
  exact ret_exc (by
    unfold eCall
    exact exc_bind (cons_exc (var_run rfl) (one_exc (lamE1 (cons_run (var_run rfl) (cons_run (var_run rfl) (one_run (var_run rfl)))) rfl (odd_from h)))))
theorem ders_e0 (h : m_corners_from [v, v2] st = .exc c es st) : m_open_derivatives [v, v2, v3] st = .exc c es st := by
  unfold m_open_derivatives b_open_derivatives
  exact fn_exc (seq_exc (set_exc (lamE1 (cons_run (var_run rfl) (one_run (var_run rfl))) rfl h)))
theorem far_whole (h : far ∈ farL) : tOrM (tNotM (tOf (eCall 1 m_is_whole (aCons (eVar 2) aNil)))) (tNotM (tOf (eChain (fun i j => decide (i ≤ j)) (fun i j => decide (i ≤ j)) (eC (.int 0)) (eVar 2) (eC (.int 8))))) [some (.int 2), some goodD, some far, some goodD, none, none, none] st = .ok true st := by
  simp only [farL, List.mem_cons, List.not_mem_nil, or_false] at h
  rcases h with rfl | rfl | rfl | rfl | rfl <;> rfl
theorem ders_e1 (h : far ∈ farL) : m_open_derivatives [.int 2, goodD, far] st = .exc "BadNumber" [far, .str "order"] st := by
  unfold m_open_derivatives b_open_derivatives
  refine fn_exc ((seq_next (set_run (call_run (cons_run (var_run rfl) (one_run (var_run rfl))) rfl good_from))).trans ?_)
  exact seq_exc ((if_yes (far_whole h)).trans (raise_run (cons_run c_run (one_run (var_run rfl))) rfl))
end
abbrev vals (rows odd letters far bad : D) (y1 : Option D) : List (Option D) := [some rows, some odd, some letters, some goodD, some far, some bad, y1]
abbrev numD (s : Str) (v : D) : D := .tup [.str "number", .str s, v]
abbrev tabD (v : D) : D := .tup [.str "table", v]
abbrev rowD (v : D) : D := .tup [.str "row", v]
def dueOf (rows odd letters far bad : D) (j : Nat) : D := match j with
  | 0 => numD "letters" letters
  | 1 => tabD bad
  | 2 => rowD odd
  | 3 => numD "letters" letters
  | 4 => tabD bad
  | 5 => numD "order" far
  | 6 => numD "letters" letters
  | _ => tabD rows
def tryD (rows odd letters far bad : D) (j : Nat) : D := .tup [.clo j [], dueOf rows odd letters far bad j]
theorem fault_b {lams : List EM} {V : List (Option D)} {r : Store} {j : Nat} {mb : EM} {c : Str} {ds : List D} {due : D} (h : lams[j]? = some mb) (e : mb V (.fr none :: r) = .exc c ds (.fr none :: r)) (hc : caught flT c ds fcl = some due) :
    b__law_fault lams [.clo j []] (.fr (some V) :: r) = .ok due (.fr (some V) :: r) := by
  have hv : eCallV 0 lams [some (.clo j []), none] (.fr (some V) :: r) = .exc c ds (.fr (some V) :: r) := by
    unfold eCallV
    show callLam lams (.clo j []) (.fr (some V) :: r) = _
    unfold callLam
    dsimp only
    rw [h]
    dsimp only
    show (match mb V (.fr none :: r) with | .ok v st' => _ | .exc c ds st' => _ | .stuck => _) = _
    rw [e]
    rfl
  unfold b__law_fault
  refine fn_ret (δ := [some (.clo j []), none]) (seq_ret ?_)
  show sTryF flT 1 (eCallV 0 lams) fcl [some (.clo j []), none] (.fr (some V) :: r) = _
  unfold sTryF
  rw [if_pos (show 1 < [some (D.clo j []), none].length from Nat.le_of_ble_eq_true rfl), hv]
  dsimp only
  rw [hc]
theorem fault_run {V : List (Option D)} {r : Store} {j : Nat} {mb : EM} {c : Str} {ds : List D} {due : D} (h : lams[j]? = some mb) (e : mb V (.fr none :: r) = .exc c ds (.fr none :: r)) (hc : caught flT c ds fcl = some due) :
    m__law_fault [.clo j []] (.fr (some V) :: r) = .ok due (.fr (some V) :: r) := fault_b h e hc
section
variable {rows odd letters far bad : D} {y1 : Option D} {r : Store}
theorem lam_due (hr : rows ∈ rowsL) (ho : odd ∈ oddL) (hl : letters ∈ lettersL) (hf : far ∈ farL) (hb : bad ∈ badL) {j : Nat} (hj : j ≤ 7) :
    m__law_fault [.clo j []] (.fr (some (vals rows odd letters far bad y1)) :: r) = .ok (dueOf rows odd letters far bad j) (.fr (some (vals rows odd letters far bad y1)) :: r) := by
  have hj' : j = 0 ∨ j = 1 ∨ j = 2 ∨ j = 3 ∨ j = 4 ∨ j = 5 ∨ j = 6 ∨ j = 7 := by omega
  rcases hj' with rfl | rfl | rfl | rfl | rfl | rfl | rfl | rfl
  · exact fault_run (mb := m_lam0) (c := "BadNumber") (ds := [letters, .str "letters"]) rfl (lamE1 (cons_run (var_run rfl) (cons_run (var_run rfl) (one_run (var_run rfl)))) rfl (at_e0 (cfrom_e hl))) rfl
  · exact fault_run (mb := m_lam1) (c := "BadTable") (ds := [bad]) rfl (lamE1 (cons_run c_run (cons_run (var_run rfl) (one_run (var_run rfl)))) rfl (at_e0 (bad_from hb))) rfl
  · exact fault_run (mb := m_lam2) (c := "BadRow") (ds := [odd]) rfl (lamE1 (cons_run c_run (cons_run (var_run rfl) (one_run (var_run rfl)))) rfl (at_e1 ho)) rfl
  · exact fault_run (mb := m_lam3) (c := "BadNumber") (ds := [letters, .str "letters"]) rfl (lamE1 (cons_run (var_run rfl) (cons_run (var_run rfl) (one_run (var_run rfl)))) rfl (ders_e0 (cfrom_e hl))) rfl
  · exact fault_run (mb := m_lam4) (c := "BadTable") (ds := [bad]) rfl (lamE1 (cons_run c_run (cons_run (var_run rfl) (one_run (var_run rfl)))) rfl (ders_e0 (bad_from hb))) rfl
  · exact fault_run (mb := m_lam5) (c := "BadNumber") (ds := [far, .str "order"]) rfl (lamE1 (cons_run c_run (cons_run (var_run rfl) (one_run (var_run rfl)))) rfl (ders_e1 hf)) rfl
  · exact fault_run (mb := m_lam6) (c := "BadNumber") (ds := [letters, .str "letters"]) rfl (lamE1 (cons_run (var_run rfl) (one_run (var_run rfl))) rfl (least_e hl)) rfl
  · exact fault_run (mb := m_lam7) (c := "BadTable") (ds := [rows]) rfl (lamE1 (cons_run c_run (one_run (var_run rfl))) rfl (rows_least hr)) rfl
theorem num_repr {st : Store} {s : Str} {v : D} (hs : s = "letters" ∨ s = "order") (h : v ∈ lettersL ∨ v ∈ farL) : ∃ t, fRepr st [numD s v] = some (.str t) := by
  simp only [lettersL, farL, List.mem_cons, List.not_mem_nil, or_false] at h
  rcases hs with rfl | rfl <;> rcases h with (rfl | rfl | rfl | rfl | rfl) | (rfl | rfl | rfl | rfl | rfl) <;> exact ⟨_, repr_some rfl (shows_mono (by unfold Shows; decide +kernel))⟩
theorem bad_repr {st : Store} (h : bad ∈ badL) : ∃ t, fRepr st [tabD bad] = some (.str t) := by
  simp only [badL, List.mem_cons, List.not_mem_nil, or_false] at h
  rcases h with rfl | rfl | rfl | rfl | rfl | rfl | rfl | rfl | rfl | rfl | rfl | rfl <;> exact ⟨_, repr_some rfl (shows_mono (by unfold Shows; decide +kernel))⟩
theorem rows_repr {st : Store} (h : rows ∈ rowsL) : ∃ t, fRepr st [tabD rows] = some (.str t) := by
  simp only [rowsL, List.mem_cons, List.not_mem_nil, or_false] at h
  rcases h with rfl | rfl | rfl | rfl | rfl | rfl | rfl | rfl | rfl <;> exact ⟨_, repr_some rfl (shows_mono (by unfold Shows; decide +kernel))⟩
theorem odd_repr {st : Store} (h : odd ∈ oddL) : ∃ t, fRepr st [rowD odd] = some (.str t) := by
  simp only [oddL, List.mem_cons, List.not_mem_nil, or_false] at h
  rcases h with rfl | rfl | rfl | rfl | rfl | rfl | rfl | rfl <;> exact ⟨_, repr_some rfl (shows_mono (by unfold Shows; decide +kernel))⟩
theorem due_repr {st : Store} (hr : rows ∈ rowsL) (ho : odd ∈ oddL) (hl : letters ∈ lettersL) (hf : far ∈ farL) (hb : bad ∈ badL) {j : Nat} (hj : j ≤ 7) : ∃ t, fRepr st [dueOf rows odd letters far bad j] = some (.str t) := by
  have hj' : j = 0 ∨ j = 1 ∨ j = 2 ∨ j = 3 ∨ j = 4 ∨ j = 5 ∨ j = 6 ∨ j = 7 := by omega
  rcases hj' with rfl | rfl | rfl | rfl | rfl | rfl | rfl | rfl
  · exact num_repr (.inl rfl) (.inl hl)
  · exact bad_repr hb
  · exact odd_repr ho
  · exact num_repr (.inl rfl) (.inl hl)
  · exact bad_repr hb
  · exact num_repr (.inr rfl) (.inr hf)
  · exact num_repr (.inl rfl) (.inl hl)
  · exact rows_repr hr
end
theorem dueL_run {st : Store} {n : Nat} {all : List D} (hst : st[n]? = some (.lst all)) (hl : all.length ≤ 1000) (hall : ∀ d ∈ all, ∃ w due s, d = .tup [w, due] ∧ m__law_fault [w] st = .ok due st ∧ fRepr st [due] = some (.str s)) : m__law_are_due [.ref n] st = .ok (.bl true) st := by
  have hc := due_comp (st := st) hst all hall
  unfold m__law_are_due
  generalize m__law_fault = mf at hc ⊢
  unfold b__law_are_due
  have ha : fAll st [.lst (all.map fun _ => D.bl true)] = some (.bl true) := by
    rw [all_map (p := fun _ => true)]
    simp
  refine fn_ret (δ := [some (.ref n), none, none]) (ret_run (eN_run (one_run ?_) ha))
  have hit : itSeq (eVar 0) [some (.ref n), none, none] st = .ok (all, some n) st := by
    unfold itSeq
    rw [M.ok_bind (var_run (d := .ref n) rfl)]
    dsimp only
    rw [hst]
  exact compG_run hit hl hc
abbrev T (p : Pen) (r : Store) : Store := .fr none :: p.so :: r
abbrev caps : List Nat := [7, 5, 2, 3, 6, 4, 1]
abbrev fenv (x : D) (y2 y3 y4 y5 y6 y7 y8 y9 : Option D) : DEnv := [some x, some (.ref 1), y2, y3, y4, y5, y6, y7, y8, y9]
theorem try_ok {k : Nat} {e : EM} {δ : DEnv} {r : Store} {v : D} (h : e δ (.fr none :: r) = .ok v (.fr none :: r)) : eTup (aCons (eLam k) (aCons e aNil)) δ (.fr none :: r) = .ok (.tup [.clo k [], v]) (.fr none :: r) :=
  tup_run (cons_run lam_ok (one_run h)) (Nat.le_of_ble_eq_true rfl)
theorem num_ok {s : Str} {i : Nat} {δ : DEnv} {st : Store} {v : D} (h : δ[i]? = some (some v)) : eTup (aCons (eC (.str "number")) (aCons (eC (.str s)) (aCons (eVar i) aNil))) δ st = .ok (numD s v) st :=
  tup_run (cons_run c_run (cons_run c_run (one_run (var_run h)))) (Nat.le_of_ble_eq_true rfl)
theorem tab_ok {i : Nat} {s : Str} {δ : DEnv} {st : Store} {v : D} (h : δ[i]? = some (some v)) : eTup (aCons (eC (.str s)) (aCons (eVar i) aNil)) δ st = .ok (.tup [.str s, v]) st :=
  tup_run (cons_run c_run (one_run (var_run h))) (Nat.le_of_ble_eq_true rfl)
section
variable {x : D} {y8 y9 : Option D} {rows odd letters far bad : D} {p : Pen}
noncomputable def tail6 : SM := r_law_6 m__law_are_due
theorem end_run (hr : rows ∈ rowsL) (ho : odd ∈ oddL) (hl : letters ∈ lettersL) (hf : far ∈ farL) (hb : bad ∈ badL) : ∃ δ' st', tail6 (fenv x (some letters) (some goodD) (some bad) (some odd) (some far) (some rows) y8 y9) (S p) = .ok (.ret (.bl true), δ') st' := by
  have app : ∀ {ts : List D} {b : EM} {v : D} {rest : SM}, b (fenv x (some letters) (some goodD) (some bad) (some odd) (some far) (some rows) (some (.ref 2)) y9) (T p [.lst ts]) = .ok v (T p [.lst ts]) → ts.length < 1000 →
      sSeq (sEx (eApp (eVar 8) b)) rest (fenv x (some letters) (some goodD) (some bad) (some odd) (some far) (some rows) (some (.ref 2)) y9) (T p [.lst ts]) = rest (fenv x (some letters) (some goodD) (some bad) (some odd) (some far) (some rows) (some (.ref 2)) y9) (T p [.lst (ts ++ [v])]) := fun hb hl =>
    seq_next (ex_run (app_run (i := 8) rfl rfl hb rfl hl))
  have hd : m__law_are_due [.ref 2] (.fr (some (vals rows odd letters far bad (some (.ref 1)))) :: p.so :: [.lst ([0, 1, 2, 3, 4, 5, 6, 7].map (tryD rows odd letters far bad))]) = .ok (.bl true) (.fr (some (vals rows odd letters far bad (some (.ref 1)))) :: p.so :: [.lst ([0, 1, 2, 3, 4, 5, 6, 7].map (tryD rows odd letters far bad))]) := by
    refine dueL_run (n := 2) rfl (Nat.le_of_ble_eq_true rfl) fun d hd => ?_
    obtain ⟨j, hj, rfl⟩ := List.mem_map.mp hd
    simp only [List.mem_cons, List.not_mem_nil, or_false] at hj
    have hj7 : j ≤ 7 := by omega
    obtain ⟨s, hs⟩ := due_repr (st := .fr (some (vals rows odd letters far bad (some (.ref 1)))) :: p.so :: [.lst ([0, 1, 2, 3, 4, 5, 6, 7].map (tryD rows odd letters far bad))]) hr ho hl hf hb hj7
    exact ⟨_, _, s, rfl, lam_due hr ho hl hf hb hj7, hs⟩
  refine ⟨fenv x (some letters) (some goodD) (some bad) (some odd) (some far) (some rows) (some (.ref 2)) y9, T p [.lst ([0, 1, 2, 3, 4, 5, 6, 7].map (tryD rows odd letters far bad))], ?_⟩
  unfold tail6
  rw [r_law_6]
  refine (seq_next (set_run (new_run (one_run (try_ok (k := 0) (num_ok (s := "letters") (i := 2) rfl))) (Nat.le_of_ble_eq_true rfl)))).trans ?_
  rw [r_law_7]
  refine (app (ts := [tryD rows odd letters far bad 0]) (try_ok (k := 1) (tab_ok (s := "table") (i := 4) rfl)) (Nat.le_of_ble_eq_true rfl)).trans ?_
  rw [r_law_8]
  refine (app (ts := [tryD rows odd letters far bad 0, tryD rows odd letters far bad 1]) (try_ok (k := 2) (tab_ok (s := "row") (i := 5) rfl)) (Nat.le_of_ble_eq_true rfl)).trans ?_
  rw [r_law_9]
  refine (app (ts := [tryD rows odd letters far bad 0, tryD rows odd letters far bad 1, tryD rows odd letters far bad 2]) (try_ok (k := 3) (num_ok (s := "letters") (i := 2) rfl)) (Nat.le_of_ble_eq_true rfl)).trans ?_
  rw [r_law_10]
  refine (app (ts := [tryD rows odd letters far bad 0, tryD rows odd letters far bad 1, tryD rows odd letters far bad 2, tryD rows odd letters far bad 3]) (try_ok (k := 4) (tab_ok (s := "table") (i := 4) rfl)) (Nat.le_of_ble_eq_true rfl)).trans ?_
  rw [r_law_11]
  refine (app (ts := [tryD rows odd letters far bad 0, tryD rows odd letters far bad 1, tryD rows odd letters far bad 2, tryD rows odd letters far bad 3, tryD rows odd letters far bad 4]) (try_ok (k := 5) (num_ok (s := "order") (i := 6) rfl)) (Nat.le_of_ble_eq_true rfl)).trans ?_
  rw [r_law_12]
  refine (app (ts := [tryD rows odd letters far bad 0, tryD rows odd letters far bad 1, tryD rows odd letters far bad 2, tryD rows odd letters far bad 3, tryD rows odd letters far bad 4, tryD rows odd letters far bad 5]) (try_ok (k := 6) (num_ok (s := "letters") (i := 2) rfl)) (Nat.le_of_ble_eq_true rfl)).trans ?_
  rw [r_law_13]
  refine (app (ts := [tryD rows odd letters far bad 0, tryD rows odd letters far bad 1, tryD rows odd letters far bad 2, tryD rows odd letters far bad 3, tryD rows odd letters far bad 4, tryD rows odd letters far bad 5, tryD rows odd letters far bad 6]) (try_ok (k := 7) (tab_ok (s := "table") (i := 7) rfl)) (Nat.le_of_ble_eq_true rfl)).trans ?_
  rw [r_law_14]
  exact ret_run (callL_run (caps := caps) (n := 1) (a := aCons (eVar 8) aNil) (r := p.so :: [.lst ([0, 1, 2, 3, 4, 5, 6, 7].map (tryD rows odd letters far bad))]) (one_run (var_run (d := .ref 2) rfl)) rfl rfl hd)
end
theorem times4 {st : Store} : fTimes st (.tup [.tup []]) (.int 4) = some (.tup [.tup [], .tup [], .tup [], .tup []]) := by
  unfold fTimes
  dsimp only
  rw [if_neg (by decide), if_pos ⟨by decide, by decide, by simp, by simp⟩]
  rfl
theorem law_holds (ns : List Int) (hl : ns.length ≤ 63) : ∃ st', fn 10 mm_law [.scr ns] [.fr none] = .ok (.bl true) st' := by
  obtain ⟨p0, ok0, _, r0⟩ := pen_run (st := [.fr none]) (ns := ns) (by omega)
  obtain ⟨p1, f1, o1⟩ := case_run ok0 (by decide)
  obtain ⟨p2, f2, o2⟩ := case_run o1 (by decide)
  obtain ⟨p3, f3, o3⟩ := case_run o2 (by decide)
  obtain ⟨p4, f4, o4⟩ := case_run o3 (by decide)
  obtain ⟨letters, p5, g5, hle, o5⟩ := pick_S (xs := lettersL) (r := []) o4 (by decide) (by simp) (by decide)
  obtain ⟨bad, p6, g6, hb, o6⟩ := pick_S (xs := badL) (r := []) o5 (by decide) (by simp) (by decide)
  obtain ⟨odd, p7, g7, ho, o7⟩ := pick_S (xs := oddL) (r := []) o6 (by decide) (by simp) (by decide)
  obtain ⟨far, p8, g8, hf, o8⟩ := pick_S (xs := farL) (r := []) o7 (by decide) (by simp) (by decide)
  obtain ⟨rows, p9, g9, hr, o9⟩ := pick_S (xs := rowsL) (r := []) o8 (by decide) (by simp) (by decide)
  obtain ⟨δ', st', ee⟩ := end_run (x := .scr ns) (y8 := none) (y9 := none) (p := p9) hr ho hle hf hb
  refine ⟨st', fn_ret (δ := δ') ?_⟩
  have t1 : sSet 1 (eCall 1 m__law_pen (aCons (eVar 0) aNil)) (startD 10 [.scr ns]) [.fr none] = .ok (.next, fenv (.scr ns) none none none none none none none none) (S p0) := set_run (call_run (one_run (var_run rfl)) rfl r0)
  unfold mm_law
  rw [r_law_0]
  refine (seq_next t1).trans ?_
  rw [r_law_1]
  have hcomp : eComp [9] (itRange1 (eC (.int 4))) (gSet 9) tYesM (eCall 1 m__law_case (aCons (eVar 1) aNil)) (fenv (.scr ns) none none none none none none none none) (S p0) = .ok (.lst [.bl true, .bl true, .bl true, .bl true]) (S p4) := by
    refine comp_run (ds := [.int 0, .int 1, .int 2, .int 3]) (st0 := S p0) rfl (Nat.le_of_ble_eq_true rfl) ?_
    refine compL_cons rfl (call_run (one_run (var_run rfl)) rfl f1) ?_
    refine compL_cons rfl (call_run (one_run (var_run rfl)) rfl f2) ?_
    refine compL_cons rfl (call_run (one_run (var_run rfl)) rfl f3) ?_
    exact compL_cons rfl (call_run (one_run (var_run rfl)) rfl f4) compL_nil
  refine (seq_next ((if_not (not_run (tOf_run (b := true) (eN_run (one_run hcomp) rfl)))).trans rfl)).trans ?_
  have pr : ∀ {a b : EM} {u v : D} {δ : DEnv} {st : Store}, a δ st = .ok u st → b δ st = .ok v st → eTup (aCons a (aCons b aNil)) δ st = .ok (.tup [u, v]) st := fun h1 h2 => tup_run (cons_run h1 (one_run h2)) (Nat.le_of_ble_eq_true rfl)
  have sg : ∀ {a : EM} {u : D} {δ : DEnv} {st : Store}, a δ st = .ok u st → eTup (aCons a aNil) δ st = .ok (.tup [u]) st := fun h1 => tup_run (one_run h1) (Nat.le_of_ble_eq_true rfl)
  have n0 : ∀ {δ : DEnv} {st : Store}, eTup aNil δ st = .ok (.tup []) st := tup_run nil_run (Nat.le_of_ble_eq_true rfl)
  have tm : ∀ {δ : DEnv} {st : Store}, e2 fTimes (eTup (aCons (eTup aNil) aNil)) (eC (.int 4)) δ st = .ok (.tup [.tup [], .tup [], .tup [], .tup []]) st := e2_run (sg n0) c_run times4
  have m1 : ∀ {δ : DEnv} {st : Store}, e1 fNeg (eC (.int 1)) δ st = .ok (.int (-1)) st := e1_run c_run rfl
  rw [r_law_2]
  have t2 : eTup (aCons (eCall 2 m__law_pick (aCons (eVar 1) (aCons (eLst (aCons (eC (.int 0)) (aCons (eC (.int 4)) (aCons (eC .non) (aCons (eC (.bl true)) (aCons (eC (.str "2")) aNil)))))) aNil))) (aCons (eTup (aCons (eTup (aCons (eTup (aCons (eC (.int 1)) (aCons (eC (.int 1)) aNil))) aNil)) aNil)) aNil)) (fenv (.scr ns) none none none none none none none none) (S p4) = .ok (.tup [letters, goodD]) (S p5) :=
    tup_run (cons_run (call_run (cons_run (var_run rfl) (one_run (lst_run (cons_run c_run (cons_run c_run (cons_run c_run (cons_run c_run (one_run c_run))))) (Nat.le_of_ble_eq_true rfl)))) rfl g5) (one_run (sg (sg (pr c_run c_run))))) (Nat.le_of_ble_eq_true rfl)
  refine (seq_next (δ' := fenv (.scr ns) (some letters) (some goodD) none none none none none none) (asg_run t2 rfl)).trans ?_
  rw [r_law_3]
  have c3 : ∀ {δ : DEnv} {st : Store}, (eLst (aCons (eC .non) (aCons (eC (.int 5)) (aCons (eTup aNil) (aCons (e2 fTimes (eTup (aCons (eTup aNil) aNil)) (eC (.int 4))) (aCons (eTup (aCons (eTup (aCons (eC (.int 1)) (aCons (eC (.int 1)) aNil))) aNil)) (aCons (eTup (aCons (eTup (aCons (eTup (aCons (eC (.int 1)) aNil)) aNil)) aNil)) (aCons (eTup (aCons (eTup (aCons (eTup (aCons (eC (.int 1)) (aCons (e1 fNeg (eC (.int 1))) aNil))) aNil)) aNil)) (aCons (eTup (aCons (eTup (aCons (eTup (aCons (eC (.int 1)) (aCons (eC (.int 1)) aNil))) (aCons (eTup (aCons (eC (.int 1)) (aCons (eC (.int 1)) aNil))) aNil))) aNil)) (aCons (eTup (aCons (eTup (aCons (eTup (aCons (eC (.int 1)) (aCons (eC (.int 1)) aNil))) (aCons (eTup (aCons (eC (.int 0)) (aCons (eC (.int 2)) aNil))) aNil))) aNil)) (aCons (eTup (aCons (eTup (aCons (eTup (aCons (eC (.int 1)) (aCons (eC (.int 1)) aNil))) (aCons (eTup (aCons (eC (.int 2)) (aCons (eC (.int 1)) aNil))) aNil))) aNil)) (aCons (eTup (aCons (eTup (aCons (eTup (aCons (eC (.bl true)) (aCons (eC (.int 1)) aNil))) aNil)) aNil)) (aCons (eC (.str "ab")) aNil))))))))))))) δ st = .ok (.lst badL) st := by
    intro δ st
    refine lst_run ?_ (Nat.le_of_ble_eq_true rfl)
    refine cons_run c_run (cons_run c_run (cons_run n0 (cons_run tm ?_)))
    refine cons_run (sg (pr c_run c_run)) (cons_run (sg (sg (sg c_run))) (cons_run (sg (sg (pr c_run m1))) ?_))
    refine cons_run (sg (pr (pr c_run c_run) (pr c_run c_run))) (cons_run (sg (pr (pr c_run c_run) (pr c_run c_run))) (cons_run (sg (pr (pr c_run c_run) (pr c_run c_run))) ?_))
    exact cons_run (sg (sg (pr c_run c_run))) (one_run c_run)
  refine (seq_next (set_run (call_run (cons_run (var_run rfl) (one_run c3)) rfl g6))).trans ?_
  rw [r_law_4]
  have c4 : ∀ {δ : DEnv} {st : Store}, (eLst (aCons (eC .non) (aCons (eC (.int 5)) (aCons (eTup (aCons (eC (.int 0)) aNil)) (aCons (eTup (aCons (eC (.int 1)) (aCons (eTup (aCons (eC (.int 0)) (aCons (eC (.int 0)) aNil))) aNil))) (aCons (eTup (aCons (eC (.int 0)) (aCons (eTup (aCons (eC (.int 0)) aNil)) aNil))) (aCons (eTup (aCons (eC (.int 0)) (aCons (eTup (aCons (e1 fNeg (eC (.int 1))) (aCons (eC (.int 0)) aNil))) aNil))) (aCons (eTup (aCons (eC (.bl true)) (aCons (eTup (aCons (eC (.int 0)) (aCons (eC (.int 0)) aNil))) aNil))) (aCons (eC (.str "ab")) aNil))))))))) δ st = .ok (.lst oddL) st := by
    intro δ st
    refine lst_run ?_ (Nat.le_of_ble_eq_true rfl)
    refine cons_run c_run (cons_run c_run (cons_run (sg c_run) (cons_run (pr c_run (pr c_run c_run)) ?_)))
    refine cons_run (pr c_run (sg c_run)) (cons_run (pr c_run (pr m1 c_run)) (cons_run (pr c_run (pr c_run c_run)) (one_run c_run)))
  have c4b : ∀ {δ : DEnv} {st : Store}, (eLst (aCons (e1 fNeg (eC (.int 1))) (aCons (eC (.int 9)) (aCons (eC .non) (aCons (eC (.bl true)) (aCons (eC (.str "1")) aNil)))))) δ st = .ok (.lst farL) st := by
    intro δ st
    exact lst_run (cons_run m1 (cons_run c_run (cons_run c_run (cons_run c_run (one_run c_run))))) (Nat.le_of_ble_eq_true rfl)
  have t4 := tup_run (cons_run (call_run (n := 2) (cons_run (var_run (i := 1) (δ := fenv (.scr ns) (some letters) (some goodD) (some bad) none none none none none) (st := S p6) rfl) (one_run c4)) rfl g7) (one_run (call_run (n := 2) (cons_run (var_run (i := 1) rfl) (one_run c4b)) rfl g8))) (Nat.le_of_ble_eq_true rfl)
  refine (seq_next (δ' := fenv (.scr ns) (some letters) (some goodD) (some bad) (some odd) (some far) none none none) (asg_run t4 rfl)).trans ?_
  rw [r_law_5]
  have c5 : ∀ {δ : DEnv} {st : Store}, (eLst (aCons (eC .non) (aCons (eC (.int 5)) (aCons (eTup aNil) (aCons (e2 fTimes (eTup (aCons (eTup aNil) aNil)) (eC (.int 4))) (aCons (eTup (aCons (eTup (aCons (eC (.int 1)) (aCons (eC (.int 1)) aNil))) aNil)) (aCons (eTup (aCons (eTup (aCons (eTup (aCons (eC (.int 1)) aNil)) aNil)) aNil)) (aCons (eTup (aCons (eTup (aCons (eTup (aCons (eC (.int 1)) (aCons (e1 fNeg (eC (.int 1))) aNil))) aNil)) aNil)) (aCons (eTup (aCons (eTup (aCons (eTup (aCons (eC (.bl true)) (aCons (eC (.int 1)) aNil))) aNil)) aNil)) (aCons (eC (.str "ab")) aNil)))))))))) δ st = .ok (.lst rowsL) st := by
    intro δ st
    refine lst_run ?_ (Nat.le_of_ble_eq_true rfl)
    refine cons_run c_run (cons_run c_run (cons_run n0 (cons_run tm ?_)))
    refine cons_run (sg (pr c_run c_run)) (cons_run (sg (sg (sg c_run))) (cons_run (sg (sg (pr c_run m1))) ?_))
    exact cons_run (sg (sg (pr c_run c_run))) (one_run c_run)
  refine (seq_next (set_run (call_run (cons_run (var_run rfl) (one_run c5)) rfl g9))).trans ?_
  exact ee
end K63
namespace K63
open PySem PySem.Spec PyProof.Rows L2 DL

theorem all_mk {fa C_PartialError C_BadNumber C_BadText C_BadPoly C_BadForm C_BadOp C_BadRow C_BadTable C_Unlike C_TooMany f_BadNumber___init__ f_BadRow___init__ f_BadTable___init__ f_is_whole f_in_tuples f_is_tuple_of f_need_between f_are_counts f_covers f_are_corner_rows f_corners_from f_least_rows f_least_corners f_open_by f_derivative_from f_open_at f_order_rows f_open_derivatives f__law_pen f__law_draw f__law_pick f__law_passed f__law_all_counts f__law_fault f__law_are_due f__law_is_under f__law_is_open f__law_antichain f__law_corners f__law_heads_of f__law_open_list f__law_handed_corners f__law_case f_law : Addr}
  {od_BadNumber___init__ an_BadNumber___init__ od_BadRow___init__ an_BadRow___init__ od_BadTable___init__ an_BadTable___init__ od_is_whole an_is_whole od_in_tuples an_in_tuples od_is_tuple_of an_is_tuple_of od_need_between an_need_between od_are_counts an_are_counts od_covers an_covers od_are_corner_rows an_are_corner_rows od_corners_from an_corners_from od_least_rows an_least_rows od_least_corners an_least_corners od_open_by an_open_by od_derivative_from an_derivative_from od_open_at an_open_at od_order_rows an_order_rows od_open_derivatives an_open_derivatives od__law_pen an__law_pen od__law_draw an__law_draw od__law_pick an__law_pick od__law_passed an__law_passed od__law_all_counts an__law_all_counts od__law_fault an__law_fault od__law_are_due an__law_are_due od__law_is_under an__law_is_under od__law_is_open an__law_is_open od__law_antichain an__law_antichain od__law_corners an__law_corners od__law_heads_of an__law_heads_of od__law_open_list an__law_open_list od__law_handed_corners an__law_handed_corners od__law_case an__law_case od_law an_law : Option Addr} {sl_BadNumber___init__ sl_BadRow___init__ sl_BadTable___init__ sl_is_whole sl_in_tuples sl_is_tuple_of sl_need_between sl_are_counts sl_covers sl_are_corner_rows sl_corners_from sl_least_rows sl_least_corners sl_open_by sl_derivative_from sl_open_at sl_order_rows sl_open_derivatives sl__law_pen sl__law_draw sl__law_pick sl__law_passed sl__law_all_counts sl__law_fault sl__law_are_due sl__law_is_under sl__law_is_open sl__law_antichain sl__law_corners sl__law_heads_of sl__law_open_list sl__law_handed_corners sl__law_case sl_law : Array (Option Value)} {oc_BadNumber___init__ kV_BadNumber___init__ dc_BadNumber___init__ pm_BadNumber___init__ ct_BadNumber___init__ oc_BadRow___init__ kV_BadRow___init__ dc_BadRow___init__ pm_BadRow___init__ ct_BadRow___init__ oc_BadTable___init__ kV_BadTable___init__ dc_BadTable___init__ pm_BadTable___init__ ct_BadTable___init__ oc_is_whole kV_is_whole dc_is_whole pm_is_whole ct_is_whole oc_in_tuples kV_in_tuples dc_in_tuples pm_in_tuples ct_in_tuples oc_is_tuple_of kV_is_tuple_of dc_is_tuple_of pm_is_tuple_of ct_is_tuple_of oc_need_between kV_need_between dc_need_between pm_need_between ct_need_between oc_are_counts kV_are_counts dc_are_counts pm_are_counts ct_are_counts oc_covers kV_covers dc_covers pm_covers ct_covers oc_are_corner_rows kV_are_corner_rows dc_are_corner_rows pm_are_corner_rows ct_are_corner_rows oc_corners_from kV_corners_from dc_corners_from pm_corners_from ct_corners_from oc_least_rows kV_least_rows dc_least_rows pm_least_rows ct_least_rows oc_least_corners kV_least_corners dc_least_corners pm_least_corners ct_least_corners oc_open_by kV_open_by dc_open_by pm_open_by ct_open_by oc_derivative_from kV_derivative_from dc_derivative_from pm_derivative_from ct_derivative_from oc_open_at kV_open_at dc_open_at pm_open_at ct_open_at oc_order_rows kV_order_rows dc_order_rows pm_order_rows ct_order_rows oc_open_derivatives kV_open_derivatives dc_open_derivatives pm_open_derivatives ct_open_derivatives oc__law_pen kV__law_pen dc__law_pen pm__law_pen ct__law_pen oc__law_draw kV__law_draw dc__law_draw pm__law_draw ct__law_draw oc__law_pick kV__law_pick dc__law_pick pm__law_pick ct__law_pick oc__law_passed kV__law_passed dc__law_passed pm__law_passed ct__law_passed oc__law_all_counts kV__law_all_counts dc__law_all_counts pm__law_all_counts ct__law_all_counts oc__law_fault kV__law_fault dc__law_fault pm__law_fault ct__law_fault oc__law_are_due kV__law_are_due dc__law_are_due pm__law_are_due ct__law_are_due oc__law_is_under kV__law_is_under dc__law_is_under pm__law_is_under ct__law_is_under oc__law_is_open kV__law_is_open dc__law_is_open pm__law_is_open ct__law_is_open oc__law_antichain kV__law_antichain dc__law_antichain pm__law_antichain ct__law_antichain oc__law_corners kV__law_corners dc__law_corners pm__law_corners ct__law_corners oc__law_heads_of kV__law_heads_of dc__law_heads_of pm__law_heads_of ct__law_heads_of oc__law_open_list kV__law_open_list dc__law_open_list pm__law_open_list ct__law_open_list oc__law_handed_corners kV__law_handed_corners dc__law_handed_corners pm__law_handed_corners ct__law_handed_corners oc__law_case kV__law_case dc__law_case pm__law_case ct__law_case oc_law kV_law dc_law pm_law ct_law cd_BadNumber___init__ cd_BadRow___init__ cd_BadTable___init__ cd_is_whole cd_in_tuples cd_is_tuple_of cd_need_between cd_are_counts cd_covers cd_are_corner_rows cd_corners_from cd_least_rows cd_least_corners cd_open_by cd_derivative_from cd_open_at cd_order_rows cd_open_derivatives cd__law_pen cd__law_draw cd__law_pick cd__law_passed cd__law_all_counts cd__law_fault cd__law_are_due cd__law_is_under cd__law_is_open cd__law_antichain cd__law_corners cd__law_heads_of cd__law_open_list cd__law_handed_corners cd__law_case : Value}
  {cdl_ : Addr} {tb_ : Addr} {ec_ : Value} {dd_ : Option Addr} {vs_ : Array Value} {slc_ : Array (Option Value)}
  {tk_MOST_LETTERS tk_MOST_UNKNOWNS tk_MOST_ORDER : Tok}
  {nm_BadNumber : Str} {q_BadNumber : Str} {N_BadNumber : Addr} {bs_BadNumber : List Value} {bm_BadNumber : List Value} {sn_BadNumber : List Str} {sub_BadNumber : List Value} {ab_BadNumber : Bool} {col_BadNumber : Option Bool} {dd_BadNumber : Option Addr} {k0_BadNumber : Option Value} {k1_BadNumber : Option Value} {k2_BadNumber : Option Value} {k3_BadNumber : Option Value} {k5_BadNumber : Option Value}
  {nm_BadTable : Str} {q_BadTable : Str} {N_BadTable : Addr} {bs_BadTable : List Value} {bm_BadTable : List Value} {sn_BadTable : List Str} {sub_BadTable : List Value} {ab_BadTable : Bool} {col_BadTable : Option Bool} {dd_BadTable : Option Addr} {k0_BadTable : Option Value} {k1_BadTable : Option Value} {k2_BadTable : Option Value} {k3_BadTable : Option Value} {k5_BadTable : Option Value}
  {nm_BadRow : Str} {q_BadRow : Str} {N_BadRow : Addr} {bs_BadRow : List Value} {bm_BadRow : List Value} {sn_BadRow : List Str} {sub_BadRow : List Value} {ab_BadRow : Bool} {col_BadRow : Option Bool} {dd_BadRow : Option Addr} {k0_BadRow : Option Value} {k1_BadRow : Option Value} {k2_BadRow : Option Value} {k3_BadRow : Option Value} {k5_BadRow : Option Value} {P : Program} {w : World} {K : PySem.W.Frag} {h : Heap} {mg : Str → Option Value} (X : K.In h) (G : h.Ns mainGlobals mg) (hfa : mg "law" = some (.ref fa))
  (aC_PartialError : PySem.W.nsIn K mainGlobals "PartialError" = some (some (.ref C_PartialError)))
  (ga_PartialError : PySem.W.specialIn K (.ref C_PartialError) "__getattribute__" = some (some (.builtin "type.__getattribute__")))
  (rd_PartialError : PySem.W.readsIn K C_PartialError (.type "type") = true)
  (in_PartialError : PySem.W.findCls K (.ref C_PartialError) (.type "type") "__init__" = some (.val (.builtin "ValueError.__init__")))
  (aC_BadNumber : PySem.W.nsIn K mainGlobals "BadNumber" = some (some (.ref C_BadNumber)))
  (sb_BadNumber : PySem.W.subIn K (.ref C_BadNumber) (.type "BaseException") = some true)
  (ty_BadNumber : PySem.W.typeIn K (.ref C_BadNumber) = some (.type "type"))
  (hd_BadNumber : PySem.W.hasDictIn K C_BadNumber = true)
  (aC_BadText : PySem.W.nsIn K mainGlobals "BadText" = some (some (.ref C_BadText)))
  (sb_BadText : PySem.W.subIn K (.ref C_BadText) (.type "BaseException") = some true)
  (ty_BadText : PySem.W.typeIn K (.ref C_BadText) = some (.type "type"))
  (hd_BadText : PySem.W.hasDictIn K C_BadText = true)
  (aC_BadPoly : PySem.W.nsIn K mainGlobals "BadPoly" = some (some (.ref C_BadPoly)))
  (sb_BadPoly : PySem.W.subIn K (.ref C_BadPoly) (.type "BaseException") = some true)
  (ty_BadPoly : PySem.W.typeIn K (.ref C_BadPoly) = some (.type "type"))
  (hd_BadPoly : PySem.W.hasDictIn K C_BadPoly = true)
  (aC_BadForm : PySem.W.nsIn K mainGlobals "BadForm" = some (some (.ref C_BadForm)))
  (sb_BadForm : PySem.W.subIn K (.ref C_BadForm) (.type "BaseException") = some true)
  (ty_BadForm : PySem.W.typeIn K (.ref C_BadForm) = some (.type "type"))
  (hd_BadForm : PySem.W.hasDictIn K C_BadForm = true)
  (aC_BadOp : PySem.W.nsIn K mainGlobals "BadOp" = some (some (.ref C_BadOp)))
  (sb_BadOp : PySem.W.subIn K (.ref C_BadOp) (.type "BaseException") = some true)
  (ty_BadOp : PySem.W.typeIn K (.ref C_BadOp) = some (.type "type"))
  (hd_BadOp : PySem.W.hasDictIn K C_BadOp = true)
  (aC_BadRow : PySem.W.nsIn K mainGlobals "BadRow" = some (some (.ref C_BadRow)))
  (sb_BadRow : PySem.W.subIn K (.ref C_BadRow) (.type "BaseException") = some true)
  (ty_BadRow : PySem.W.typeIn K (.ref C_BadRow) = some (.type "type"))
  (hd_BadRow : PySem.W.hasDictIn K C_BadRow = true)
  (aC_BadTable : PySem.W.nsIn K mainGlobals "BadTable" = some (some (.ref C_BadTable)))
  (sb_BadTable : PySem.W.subIn K (.ref C_BadTable) (.type "BaseException") = some true)
  (ty_BadTable : PySem.W.typeIn K (.ref C_BadTable) = some (.type "type"))
  (hd_BadTable : PySem.W.hasDictIn K C_BadTable = true)
  (aC_Unlike : PySem.W.nsIn K mainGlobals "Unlike" = some (some (.ref C_Unlike)))
  (sb_Unlike : PySem.W.subIn K (.ref C_Unlike) (.type "BaseException") = some true)
  (ty_Unlike : PySem.W.typeIn K (.ref C_Unlike) = some (.type "type"))
  (hd_Unlike : PySem.W.hasDictIn K C_Unlike = true)
  (aC_TooMany : PySem.W.nsIn K mainGlobals "TooMany" = some (some (.ref C_TooMany)))
  (sb_TooMany : PySem.W.subIn K (.ref C_TooMany) (.type "BaseException") = some true)
  (ty_TooMany : PySem.W.typeIn K (.ref C_TooMany) = some (.type "type"))
  (hd_TooMany : PySem.W.hasDictIn K C_TooMany = true)
  (su_BadForm_BadForm : PySem.W.subIn K (.ref C_BadForm) (.ref C_BadForm) = some true)
  (su_BadForm_BadNumber : PySem.W.subIn K (.ref C_BadForm) (.ref C_BadNumber) = some false)
  (su_BadForm_BadOp : PySem.W.subIn K (.ref C_BadForm) (.ref C_BadOp) = some false)
  (su_BadForm_BadPoly : PySem.W.subIn K (.ref C_BadForm) (.ref C_BadPoly) = some false)
  (su_BadForm_BadRow : PySem.W.subIn K (.ref C_BadForm) (.ref C_BadRow) = some false)
  (su_BadForm_BadTable : PySem.W.subIn K (.ref C_BadForm) (.ref C_BadTable) = some false)
  (su_BadForm_BadText : PySem.W.subIn K (.ref C_BadForm) (.ref C_BadText) = some false)
  (su_BadForm_TooMany : PySem.W.subIn K (.ref C_BadForm) (.ref C_TooMany) = some false)
  (su_BadForm_Unlike : PySem.W.subIn K (.ref C_BadForm) (.ref C_Unlike) = some false)
  (su_BadNumber_BadForm : PySem.W.subIn K (.ref C_BadNumber) (.ref C_BadForm) = some false)
  (su_BadNumber_BadNumber : PySem.W.subIn K (.ref C_BadNumber) (.ref C_BadNumber) = some true)
  (su_BadNumber_BadOp : PySem.W.subIn K (.ref C_BadNumber) (.ref C_BadOp) = some false)
  (su_BadNumber_BadPoly : PySem.W.subIn K (.ref C_BadNumber) (.ref C_BadPoly) = some false)
  (su_BadNumber_BadRow : PySem.W.subIn K (.ref C_BadNumber) (.ref C_BadRow) = some false)
  (su_BadNumber_BadTable : PySem.W.subIn K (.ref C_BadNumber) (.ref C_BadTable) = some false)
  (su_BadNumber_BadText : PySem.W.subIn K (.ref C_BadNumber) (.ref C_BadText) = some false)
  (su_BadNumber_TooMany : PySem.W.subIn K (.ref C_BadNumber) (.ref C_TooMany) = some false)
  (su_BadNumber_Unlike : PySem.W.subIn K (.ref C_BadNumber) (.ref C_Unlike) = some false)
  (su_BadOp_BadForm : PySem.W.subIn K (.ref C_BadOp) (.ref C_BadForm) = some false)
  (su_BadOp_BadNumber : PySem.W.subIn K (.ref C_BadOp) (.ref C_BadNumber) = some false)
  (su_BadOp_BadOp : PySem.W.subIn K (.ref C_BadOp) (.ref C_BadOp) = some true)
  (su_BadOp_BadPoly : PySem.W.subIn K (.ref C_BadOp) (.ref C_BadPoly) = some false)
  (su_BadOp_BadRow : PySem.W.subIn K (.ref C_BadOp) (.ref C_BadRow) = some false)
  (su_BadOp_BadTable : PySem.W.subIn K (.ref C_BadOp) (.ref C_BadTable) = some false)
  (su_BadOp_BadText : PySem.W.subIn K (.ref C_BadOp) (.ref C_BadText) = some false)
  (su_BadOp_TooMany : PySem.W.subIn K (.ref C_BadOp) (.ref C_TooMany) = some false)
  (su_BadOp_Unlike : PySem.W.subIn K (.ref C_BadOp) (.ref C_Unlike) = some false)
  (su_BadPoly_BadForm : PySem.W.subIn K (.ref C_BadPoly) (.ref C_BadForm) = some false)
  (su_BadPoly_BadNumber : PySem.W.subIn K (.ref C_BadPoly) (.ref C_BadNumber) = some false)
  (su_BadPoly_BadOp : PySem.W.subIn K (.ref C_BadPoly) (.ref C_BadOp) = some false)
  (su_BadPoly_BadPoly : PySem.W.subIn K (.ref C_BadPoly) (.ref C_BadPoly) = some true)
  (su_BadPoly_BadRow : PySem.W.subIn K (.ref C_BadPoly) (.ref C_BadRow) = some false)
  (su_BadPoly_BadTable : PySem.W.subIn K (.ref C_BadPoly) (.ref C_BadTable) = some false)
  (su_BadPoly_BadText : PySem.W.subIn K (.ref C_BadPoly) (.ref C_BadText) = some false)
  (su_BadPoly_TooMany : PySem.W.subIn K (.ref C_BadPoly) (.ref C_TooMany) = some false)
  (su_BadPoly_Unlike : PySem.W.subIn K (.ref C_BadPoly) (.ref C_Unlike) = some false)
  (su_BadRow_BadForm : PySem.W.subIn K (.ref C_BadRow) (.ref C_BadForm) = some false)
  (su_BadRow_BadNumber : PySem.W.subIn K (.ref C_BadRow) (.ref C_BadNumber) = some false)
  (su_BadRow_BadOp : PySem.W.subIn K (.ref C_BadRow) (.ref C_BadOp) = some false)
  (su_BadRow_BadPoly : PySem.W.subIn K (.ref C_BadRow) (.ref C_BadPoly) = some false)
  (su_BadRow_BadRow : PySem.W.subIn K (.ref C_BadRow) (.ref C_BadRow) = some true)
  (su_BadRow_BadTable : PySem.W.subIn K (.ref C_BadRow) (.ref C_BadTable) = some false)
  (su_BadRow_BadText : PySem.W.subIn K (.ref C_BadRow) (.ref C_BadText) = some false)
  (su_BadRow_TooMany : PySem.W.subIn K (.ref C_BadRow) (.ref C_TooMany) = some false)
  (su_BadRow_Unlike : PySem.W.subIn K (.ref C_BadRow) (.ref C_Unlike) = some false)
  (su_BadTable_BadForm : PySem.W.subIn K (.ref C_BadTable) (.ref C_BadForm) = some false)
  (su_BadTable_BadNumber : PySem.W.subIn K (.ref C_BadTable) (.ref C_BadNumber) = some false)
  (su_BadTable_BadOp : PySem.W.subIn K (.ref C_BadTable) (.ref C_BadOp) = some false)
  (su_BadTable_BadPoly : PySem.W.subIn K (.ref C_BadTable) (.ref C_BadPoly) = some false)
  (su_BadTable_BadRow : PySem.W.subIn K (.ref C_BadTable) (.ref C_BadRow) = some false)
  (su_BadTable_BadTable : PySem.W.subIn K (.ref C_BadTable) (.ref C_BadTable) = some true)
  (su_BadTable_BadText : PySem.W.subIn K (.ref C_BadTable) (.ref C_BadText) = some false)
  (su_BadTable_TooMany : PySem.W.subIn K (.ref C_BadTable) (.ref C_TooMany) = some false)
  (su_BadTable_Unlike : PySem.W.subIn K (.ref C_BadTable) (.ref C_Unlike) = some false)
  (su_BadText_BadForm : PySem.W.subIn K (.ref C_BadText) (.ref C_BadForm) = some false)
  (su_BadText_BadNumber : PySem.W.subIn K (.ref C_BadText) (.ref C_BadNumber) = some false)
  (su_BadText_BadOp : PySem.W.subIn K (.ref C_BadText) (.ref C_BadOp) = some false)
  (su_BadText_BadPoly : PySem.W.subIn K (.ref C_BadText) (.ref C_BadPoly) = some false)
  (su_BadText_BadRow : PySem.W.subIn K (.ref C_BadText) (.ref C_BadRow) = some false)
  (su_BadText_BadTable : PySem.W.subIn K (.ref C_BadText) (.ref C_BadTable) = some false)
  (su_BadText_BadText : PySem.W.subIn K (.ref C_BadText) (.ref C_BadText) = some true)
  (su_BadText_TooMany : PySem.W.subIn K (.ref C_BadText) (.ref C_TooMany) = some false)
  (su_BadText_Unlike : PySem.W.subIn K (.ref C_BadText) (.ref C_Unlike) = some false)
  (su_TooMany_BadForm : PySem.W.subIn K (.ref C_TooMany) (.ref C_BadForm) = some false)
  (su_TooMany_BadNumber : PySem.W.subIn K (.ref C_TooMany) (.ref C_BadNumber) = some false)
  (su_TooMany_BadOp : PySem.W.subIn K (.ref C_TooMany) (.ref C_BadOp) = some false)
  (su_TooMany_BadPoly : PySem.W.subIn K (.ref C_TooMany) (.ref C_BadPoly) = some false)
  (su_TooMany_BadRow : PySem.W.subIn K (.ref C_TooMany) (.ref C_BadRow) = some false)
  (su_TooMany_BadTable : PySem.W.subIn K (.ref C_TooMany) (.ref C_BadTable) = some false)
  (su_TooMany_BadText : PySem.W.subIn K (.ref C_TooMany) (.ref C_BadText) = some false)
  (su_TooMany_TooMany : PySem.W.subIn K (.ref C_TooMany) (.ref C_TooMany) = some true)
  (su_TooMany_Unlike : PySem.W.subIn K (.ref C_TooMany) (.ref C_Unlike) = some false)
  (su_Unlike_BadForm : PySem.W.subIn K (.ref C_Unlike) (.ref C_BadForm) = some false)
  (su_Unlike_BadNumber : PySem.W.subIn K (.ref C_Unlike) (.ref C_BadNumber) = some false)
  (su_Unlike_BadOp : PySem.W.subIn K (.ref C_Unlike) (.ref C_BadOp) = some false)
  (su_Unlike_BadPoly : PySem.W.subIn K (.ref C_Unlike) (.ref C_BadPoly) = some false)
  (su_Unlike_BadRow : PySem.W.subIn K (.ref C_Unlike) (.ref C_BadRow) = some false)
  (su_Unlike_BadTable : PySem.W.subIn K (.ref C_Unlike) (.ref C_BadTable) = some false)
  (su_Unlike_BadText : PySem.W.subIn K (.ref C_Unlike) (.ref C_BadText) = some false)
  (su_Unlike_TooMany : PySem.W.subIn K (.ref C_Unlike) (.ref C_TooMany) = some false)
  (su_Unlike_Unlike : PySem.W.subIn K (.ref C_Unlike) (.ref C_Unlike) = some true)
  (gg_BadForm : PySem.W.findIn K (.ref C_BadForm) "__getattribute__" = some (some (.builtin "BaseException.__getattribute__")))
  (gt_BadForm : PySem.W.findIn K (.ref C_BadForm) "__getattr__" = some none)
  (gg_BadNumber : PySem.W.findIn K (.ref C_BadNumber) "__getattribute__" = some (some (.builtin "BaseException.__getattribute__")))
  (gt_BadNumber : PySem.W.findIn K (.ref C_BadNumber) "__getattr__" = some none)
  (gg_BadOp : PySem.W.findIn K (.ref C_BadOp) "__getattribute__" = some (some (.builtin "BaseException.__getattribute__")))
  (gt_BadOp : PySem.W.findIn K (.ref C_BadOp) "__getattr__" = some none)
  (gg_BadPoly : PySem.W.findIn K (.ref C_BadPoly) "__getattribute__" = some (some (.builtin "BaseException.__getattribute__")))
  (gt_BadPoly : PySem.W.findIn K (.ref C_BadPoly) "__getattr__" = some none)
  (gg_BadRow : PySem.W.findIn K (.ref C_BadRow) "__getattribute__" = some (some (.builtin "BaseException.__getattribute__")))
  (gt_BadRow : PySem.W.findIn K (.ref C_BadRow) "__getattr__" = some none)
  (gg_BadTable : PySem.W.findIn K (.ref C_BadTable) "__getattribute__" = some (some (.builtin "BaseException.__getattribute__")))
  (gt_BadTable : PySem.W.findIn K (.ref C_BadTable) "__getattr__" = some none)
  (gg_BadText : PySem.W.findIn K (.ref C_BadText) "__getattribute__" = some (some (.builtin "BaseException.__getattribute__")))
  (gt_BadText : PySem.W.findIn K (.ref C_BadText) "__getattr__" = some none)
  (gg_TooMany : PySem.W.findIn K (.ref C_TooMany) "__getattribute__" = some (some (.builtin "BaseException.__getattribute__")))
  (gt_TooMany : PySem.W.findIn K (.ref C_TooMany) "__getattr__" = some none)
  (gg_Unlike : PySem.W.findIn K (.ref C_Unlike) "__getattribute__" = some (some (.builtin "BaseException.__getattribute__")))
  (gt_Unlike : PySem.W.findIn K (.ref C_Unlike) "__getattr__" = some none)
  (no_BadNumber_what : PySem.W.findIn K (.ref C_BadNumber) "what" = some none)
  (no_BadNumber_number : PySem.W.findIn K (.ref C_BadNumber) "number" = some none)
  (no_BadTable_table : PySem.W.findIn K (.ref C_BadTable) "table" = some none)
  (no_BadRow_row : PySem.W.findIn K (.ref C_BadRow) "row" = some none)
  (no_BadForm_value : PySem.W.findIn K (.ref C_BadForm) "value" = some none)
  (no_BadOp_value : PySem.W.findIn K (.ref C_BadOp) "value" = some none)
  (no_BadPoly_value : PySem.W.findIn K (.ref C_BadPoly) "value" = some none)
  (no_BadText_line : PySem.W.findIn K (.ref C_BadText) "line" = some none)
  (no_BadText_column : PySem.W.findIn K (.ref C_BadText) "column" = some none)
  (no_TooMany_what : PySem.W.findIn K (.ref C_TooMany) "what" = some none)
  (no_TooMany_many : PySem.W.findIn K (.ref C_TooMany) "many" = some none)
  (no_TooMany_limit : PySem.W.findIn K (.ref C_TooMany) "limit" = some none)
  (no_Unlike_what : PySem.W.findIn K (.ref C_Unlike) "what" = some none)
  (lk_BadNumber : K.lookup C_BadNumber = some (excClassObj nm_BadNumber q_BadNumber C_BadNumber N_BadNumber bs_BadNumber bm_BadNumber true sn_BadNumber sub_BadNumber ab_BadNumber col_BadNumber dd_BadNumber k0_BadNumber k1_BadNumber k2_BadNumber k3_BadNumber k5_BadNumber "ValueError.__new__"))
  (rf_BadNumber : PySem.HandSPX.refsVE bm_BadNumber = true)
  (sa_BadNumber : PySem.W.findIn K (.ref C_BadNumber) "__setattr__" = some (some (.builtin "object.__setattr__")))
  (kc_BadNumber : PySem.W.keepIn K (.ref C_BadNumber) = true)
  (lk_BadTable : K.lookup C_BadTable = some (excClassObj nm_BadTable q_BadTable C_BadTable N_BadTable bs_BadTable bm_BadTable true sn_BadTable sub_BadTable ab_BadTable col_BadTable dd_BadTable k0_BadTable k1_BadTable k2_BadTable k3_BadTable k5_BadTable "ValueError.__new__"))
  (rf_BadTable : PySem.HandSPX.refsVE bm_BadTable = true)
  (sa_BadTable : PySem.W.findIn K (.ref C_BadTable) "__setattr__" = some (some (.builtin "object.__setattr__")))
  (kc_BadTable : PySem.W.keepIn K (.ref C_BadTable) = true)
  (lk_BadRow : K.lookup C_BadRow = some (excClassObj nm_BadRow q_BadRow C_BadRow N_BadRow bs_BadRow bm_BadRow true sn_BadRow sub_BadRow ab_BadRow col_BadRow dd_BadRow k0_BadRow k1_BadRow k2_BadRow k3_BadRow k5_BadRow "ValueError.__new__"))
  (rf_BadRow : PySem.HandSPX.refsVE bm_BadRow = true)
  (sa_BadRow : PySem.W.findIn K (.ref C_BadRow) "__setattr__" = some (some (.builtin "object.__setattr__")))
  (kc_BadRow : PySem.W.keepIn K (.ref C_BadRow) = true)
  (a_BadNumber___init__ : PySem.W.findIn K (.ref C_BadNumber) "__init__" = some (some (.ref f_BadNumber___init__)))
  (t_BadNumber___init__ : PySem.W.typeIn K (.ref f_BadNumber___init__) = some (.type "function"))
  (l_BadNumber___init__ : K.lookup f_BadNumber___init__ = some ⟨oc_BadNumber___init__, od_BadNumber___init__, .func (PySem.W.fnOf "__init__" "BadNumber.__init__" (defArgs s_BadNumber___init__) (defBody s_BadNumber___init__) (defScope s_BadNumber___init__) .none kV_BadNumber___init__ dc_BadNumber___init__ pm_BadNumber___init__ an_BadNumber___init__ cd_BadNumber___init__ ct_BadNumber___init__), sl_BadNumber___init__⟩)
  (c_BadNumber___init__ : PySem.W.codeIn K cd_BadNumber___init__ "BadNumber.__init__" = true)
  (k_BadNumber___init__ : PySem.W.keepIn K (.ref f_BadNumber___init__) = true)
  (a_BadRow___init__ : PySem.W.findIn K (.ref C_BadRow) "__init__" = some (some (.ref f_BadRow___init__)))
  (t_BadRow___init__ : PySem.W.typeIn K (.ref f_BadRow___init__) = some (.type "function"))
  (l_BadRow___init__ : K.lookup f_BadRow___init__ = some ⟨oc_BadRow___init__, od_BadRow___init__, .func (PySem.W.fnOf "__init__" "BadRow.__init__" (defArgs s_BadRow___init__) (defBody s_BadRow___init__) (defScope s_BadRow___init__) .none kV_BadRow___init__ dc_BadRow___init__ pm_BadRow___init__ an_BadRow___init__ cd_BadRow___init__ ct_BadRow___init__), sl_BadRow___init__⟩)
  (c_BadRow___init__ : PySem.W.codeIn K cd_BadRow___init__ "BadRow.__init__" = true)
  (k_BadRow___init__ : PySem.W.keepIn K (.ref f_BadRow___init__) = true)
  (a_BadTable___init__ : PySem.W.findIn K (.ref C_BadTable) "__init__" = some (some (.ref f_BadTable___init__)))
  (t_BadTable___init__ : PySem.W.typeIn K (.ref f_BadTable___init__) = some (.type "function"))
  (l_BadTable___init__ : K.lookup f_BadTable___init__ = some ⟨oc_BadTable___init__, od_BadTable___init__, .func (PySem.W.fnOf "__init__" "BadTable.__init__" (defArgs s_BadTable___init__) (defBody s_BadTable___init__) (defScope s_BadTable___init__) .none kV_BadTable___init__ dc_BadTable___init__ pm_BadTable___init__ an_BadTable___init__ cd_BadTable___init__ ct_BadTable___init__), sl_BadTable___init__⟩)
  (c_BadTable___init__ : PySem.W.codeIn K cd_BadTable___init__ "BadTable.__init__" = true)
  (k_BadTable___init__ : PySem.W.keepIn K (.ref f_BadTable___init__) = true)
  (a_is_whole : PySem.W.nsIn K mainGlobals "is_whole" = some (some (.ref f_is_whole)))
  (l_is_whole : K.lookup f_is_whole = some ⟨oc_is_whole, od_is_whole, .func (PySem.W.fnOf "is_whole" "is_whole" (defArgs s_is_whole) (defBody s_is_whole) (defScope s_is_whole) .none kV_is_whole dc_is_whole pm_is_whole an_is_whole cd_is_whole ct_is_whole), sl_is_whole⟩)
  (c_is_whole : PySem.W.codeIn K cd_is_whole "is_whole" = true)
  (k_is_whole : PySem.W.keepIn K (.ref f_is_whole) = true)
  (a_in_tuples : PySem.W.nsIn K mainGlobals "in_tuples" = some (some (.ref f_in_tuples)))
  (l_in_tuples : K.lookup f_in_tuples = some ⟨oc_in_tuples, od_in_tuples, .func (PySem.W.fnOf "in_tuples" "in_tuples" (defArgs s_in_tuples) (defBody s_in_tuples) (defScope s_in_tuples) .none kV_in_tuples dc_in_tuples pm_in_tuples an_in_tuples cd_in_tuples ct_in_tuples), sl_in_tuples⟩)
  (c_in_tuples : PySem.W.codeIn K cd_in_tuples "in_tuples" = true)
  (k_in_tuples : PySem.W.keepIn K (.ref f_in_tuples) = true)
  (a_is_tuple_of : PySem.W.nsIn K mainGlobals "is_tuple_of" = some (some (.ref f_is_tuple_of)))
  (l_is_tuple_of : K.lookup f_is_tuple_of = some ⟨oc_is_tuple_of, od_is_tuple_of, .func (PySem.W.fnOf "is_tuple_of" "is_tuple_of" (defArgs s_is_tuple_of) (defBody s_is_tuple_of) (defScope s_is_tuple_of) .none kV_is_tuple_of dc_is_tuple_of pm_is_tuple_of an_is_tuple_of cd_is_tuple_of ct_is_tuple_of), sl_is_tuple_of⟩)
  (c_is_tuple_of : PySem.W.codeIn K cd_is_tuple_of "is_tuple_of" = true)
  (k_is_tuple_of : PySem.W.keepIn K (.ref f_is_tuple_of) = true)
  (a_need_between : PySem.W.nsIn K mainGlobals "need_between" = some (some (.ref f_need_between)))
  (l_need_between : K.lookup f_need_between = some ⟨oc_need_between, od_need_between, .func (PySem.W.fnOf "need_between" "need_between" (defArgs s_need_between) (defBody s_need_between) (defScope s_need_between) .none kV_need_between dc_need_between pm_need_between an_need_between cd_need_between ct_need_between), sl_need_between⟩)
  (c_need_between : PySem.W.codeIn K cd_need_between "need_between" = true)
  (k_need_between : PySem.W.keepIn K (.ref f_need_between) = true)
  (a_are_counts : PySem.W.nsIn K mainGlobals "are_counts" = some (some (.ref f_are_counts)))
  (l_are_counts : K.lookup f_are_counts = some ⟨oc_are_counts, od_are_counts, .func (PySem.W.fnOf "are_counts" "are_counts" (defArgs s_are_counts) (defBody s_are_counts) (defScope s_are_counts) .none kV_are_counts dc_are_counts pm_are_counts an_are_counts cd_are_counts ct_are_counts), sl_are_counts⟩)
  (c_are_counts : PySem.W.codeIn K cd_are_counts "are_counts" = true)
  (k_are_counts : PySem.W.keepIn K (.ref f_are_counts) = true)
  (a_covers : PySem.W.nsIn K mainGlobals "covers" = some (some (.ref f_covers)))
  (l_covers : K.lookup f_covers = some ⟨oc_covers, od_covers, .func (PySem.W.fnOf "covers" "covers" (defArgs s_covers) (defBody s_covers) (defScope s_covers) .none kV_covers dc_covers pm_covers an_covers cd_covers ct_covers), sl_covers⟩)
  (c_covers : PySem.W.codeIn K cd_covers "covers" = true)
  (k_covers : PySem.W.keepIn K (.ref f_covers) = true)
  (a_are_corner_rows : PySem.W.nsIn K mainGlobals "are_corner_rows" = some (some (.ref f_are_corner_rows)))
  (l_are_corner_rows : K.lookup f_are_corner_rows = some ⟨oc_are_corner_rows, od_are_corner_rows, .func (PySem.W.fnOf "are_corner_rows" "are_corner_rows" (defArgs s_are_corner_rows) (defBody s_are_corner_rows) (defScope s_are_corner_rows) .none kV_are_corner_rows dc_are_corner_rows pm_are_corner_rows an_are_corner_rows cd_are_corner_rows ct_are_corner_rows), sl_are_corner_rows⟩)
  (c_are_corner_rows : PySem.W.codeIn K cd_are_corner_rows "are_corner_rows" = true)
  (k_are_corner_rows : PySem.W.keepIn K (.ref f_are_corner_rows) = true)
  (a_corners_from : PySem.W.nsIn K mainGlobals "corners_from" = some (some (.ref f_corners_from)))
  (l_corners_from : K.lookup f_corners_from = some ⟨oc_corners_from, od_corners_from, .func (PySem.W.fnOf "corners_from" "corners_from" (defArgs s_corners_from) (defBody s_corners_from) (defScope s_corners_from) .none kV_corners_from dc_corners_from pm_corners_from an_corners_from cd_corners_from ct_corners_from), sl_corners_from⟩)
  (c_corners_from : PySem.W.codeIn K cd_corners_from "corners_from" = true)
  (k_corners_from : PySem.W.keepIn K (.ref f_corners_from) = true)
  (a_least_rows : PySem.W.nsIn K mainGlobals "least_rows" = some (some (.ref f_least_rows)))
  (l_least_rows : K.lookup f_least_rows = some ⟨oc_least_rows, od_least_rows, .func (PySem.W.fnOf "least_rows" "least_rows" (defArgs s_least_rows) (defBody s_least_rows) (defScope s_least_rows) .none kV_least_rows dc_least_rows pm_least_rows an_least_rows cd_least_rows ct_least_rows), sl_least_rows⟩)
  (c_least_rows : PySem.W.codeIn K cd_least_rows "least_rows" = true)
  (k_least_rows : PySem.W.keepIn K (.ref f_least_rows) = true)
  (a_least_corners : PySem.W.nsIn K mainGlobals "least_corners" = some (some (.ref f_least_corners)))
  (l_least_corners : K.lookup f_least_corners = some ⟨oc_least_corners, od_least_corners, .func (PySem.W.fnOf "least_corners" "least_corners" (defArgs s_least_corners) (defBody s_least_corners) (defScope s_least_corners) .none kV_least_corners dc_least_corners pm_least_corners an_least_corners cd_least_corners ct_least_corners), sl_least_corners⟩)
  (c_least_corners : PySem.W.codeIn K cd_least_corners "least_corners" = true)
  (k_least_corners : PySem.W.keepIn K (.ref f_least_corners) = true)
  (a_open_by : PySem.W.nsIn K mainGlobals "open_by" = some (some (.ref f_open_by)))
  (l_open_by : K.lookup f_open_by = some ⟨oc_open_by, od_open_by, .func (PySem.W.fnOf "open_by" "open_by" (defArgs s_open_by) (defBody s_open_by) (defScope s_open_by) .none kV_open_by dc_open_by pm_open_by an_open_by cd_open_by ct_open_by), sl_open_by⟩)
  (c_open_by : PySem.W.codeIn K cd_open_by "open_by" = true)
  (k_open_by : PySem.W.keepIn K (.ref f_open_by) = true)
  (a_derivative_from : PySem.W.nsIn K mainGlobals "derivative_from" = some (some (.ref f_derivative_from)))
  (l_derivative_from : K.lookup f_derivative_from = some ⟨oc_derivative_from, od_derivative_from, .func (PySem.W.fnOf "derivative_from" "derivative_from" (defArgs s_derivative_from) (defBody s_derivative_from) (defScope s_derivative_from) .none kV_derivative_from dc_derivative_from pm_derivative_from an_derivative_from cd_derivative_from ct_derivative_from), sl_derivative_from⟩)
  (c_derivative_from : PySem.W.codeIn K cd_derivative_from "derivative_from" = true)
  (k_derivative_from : PySem.W.keepIn K (.ref f_derivative_from) = true)
  (a_open_at : PySem.W.nsIn K mainGlobals "open_at" = some (some (.ref f_open_at)))
  (l_open_at : K.lookup f_open_at = some ⟨oc_open_at, od_open_at, .func (PySem.W.fnOf "open_at" "open_at" (defArgs s_open_at) (defBody s_open_at) (defScope s_open_at) .none kV_open_at dc_open_at pm_open_at an_open_at cd_open_at ct_open_at), sl_open_at⟩)
  (c_open_at : PySem.W.codeIn K cd_open_at "open_at" = true)
  (k_open_at : PySem.W.keepIn K (.ref f_open_at) = true)
  (a_order_rows : PySem.W.nsIn K mainGlobals "order_rows" = some (some (.ref f_order_rows)))
  (l_order_rows : K.lookup f_order_rows = some ⟨oc_order_rows, od_order_rows, .func (PySem.W.fnOf "order_rows" "order_rows" (defArgs s_order_rows) (defBody s_order_rows) (defScope s_order_rows) .none kV_order_rows dc_order_rows pm_order_rows an_order_rows cd_order_rows ct_order_rows), sl_order_rows⟩)
  (c_order_rows : PySem.W.codeIn K cd_order_rows "order_rows" = true)
  (k_order_rows : PySem.W.keepIn K (.ref f_order_rows) = true)
  (a_open_derivatives : PySem.W.nsIn K mainGlobals "open_derivatives" = some (some (.ref f_open_derivatives)))
  (l_open_derivatives : K.lookup f_open_derivatives = some ⟨oc_open_derivatives, od_open_derivatives, .func (PySem.W.fnOf "open_derivatives" "open_derivatives" (defArgs s_open_derivatives) (defBody s_open_derivatives) (defScope s_open_derivatives) .none kV_open_derivatives dc_open_derivatives pm_open_derivatives an_open_derivatives cd_open_derivatives ct_open_derivatives), sl_open_derivatives⟩)
  (c_open_derivatives : PySem.W.codeIn K cd_open_derivatives "open_derivatives" = true)
  (k_open_derivatives : PySem.W.keepIn K (.ref f_open_derivatives) = true)
  (a__law_pen : PySem.W.nsIn K mainGlobals "_law_pen" = some (some (.ref f__law_pen)))
  (l__law_pen : K.lookup f__law_pen = some ⟨oc__law_pen, od__law_pen, .func (PySem.W.fnOf "_law_pen" "_law_pen" (defArgs s__law_pen) (defBody s__law_pen) (defScope s__law_pen) .none kV__law_pen dc__law_pen pm__law_pen an__law_pen cd__law_pen ct__law_pen), sl__law_pen⟩)
  (c__law_pen : PySem.W.codeIn K cd__law_pen "_law_pen" = true)
  (k__law_pen : PySem.W.keepIn K (.ref f__law_pen) = true)
  (a__law_draw : PySem.W.nsIn K mainGlobals "_law_draw" = some (some (.ref f__law_draw)))
  (l__law_draw : K.lookup f__law_draw = some ⟨oc__law_draw, od__law_draw, .func (PySem.W.fnOf "_law_draw" "_law_draw" (defArgs s__law_draw) (defBody s__law_draw) (defScope s__law_draw) .none kV__law_draw dc__law_draw pm__law_draw an__law_draw cd__law_draw ct__law_draw), sl__law_draw⟩)
  (c__law_draw : PySem.W.codeIn K cd__law_draw "_law_draw" = true)
  (k__law_draw : PySem.W.keepIn K (.ref f__law_draw) = true)
  (a__law_pick : PySem.W.nsIn K mainGlobals "_law_pick" = some (some (.ref f__law_pick)))
  (l__law_pick : K.lookup f__law_pick = some ⟨oc__law_pick, od__law_pick, .func (PySem.W.fnOf "_law_pick" "_law_pick" (defArgs s__law_pick) (defBody s__law_pick) (defScope s__law_pick) .none kV__law_pick dc__law_pick pm__law_pick an__law_pick cd__law_pick ct__law_pick), sl__law_pick⟩)
  (c__law_pick : PySem.W.codeIn K cd__law_pick "_law_pick" = true)
  (k__law_pick : PySem.W.keepIn K (.ref f__law_pick) = true)
  (a__law_passed : PySem.W.nsIn K mainGlobals "_law_passed" = some (some (.ref f__law_passed)))
  (l__law_passed : K.lookup f__law_passed = some ⟨oc__law_passed, od__law_passed, .func (PySem.W.fnOf "_law_passed" "_law_passed" (defArgs s__law_passed) (defBody s__law_passed) (defScope s__law_passed) .none kV__law_passed dc__law_passed pm__law_passed an__law_passed cd__law_passed ct__law_passed), sl__law_passed⟩)
  (c__law_passed : PySem.W.codeIn K cd__law_passed "_law_passed" = true)
  (k__law_passed : PySem.W.keepIn K (.ref f__law_passed) = true)
  (a__law_all_counts : PySem.W.nsIn K mainGlobals "_law_all_counts" = some (some (.ref f__law_all_counts)))
  (l__law_all_counts : K.lookup f__law_all_counts = some ⟨oc__law_all_counts, od__law_all_counts, .func (PySem.W.fnOf "_law_all_counts" "_law_all_counts" (defArgs s__law_all_counts) (defBody s__law_all_counts) (defScope s__law_all_counts) .none kV__law_all_counts dc__law_all_counts pm__law_all_counts an__law_all_counts cd__law_all_counts ct__law_all_counts), sl__law_all_counts⟩)
  (c__law_all_counts : PySem.W.codeIn K cd__law_all_counts "_law_all_counts" = true)
  (k__law_all_counts : PySem.W.keepIn K (.ref f__law_all_counts) = true)
  (a__law_fault : PySem.W.nsIn K mainGlobals "_law_fault" = some (some (.ref f__law_fault)))
  (l__law_fault : K.lookup f__law_fault = some ⟨oc__law_fault, od__law_fault, .func (PySem.W.fnOf "_law_fault" "_law_fault" (defArgs s__law_fault) (defBody s__law_fault) (defScope s__law_fault) .none kV__law_fault dc__law_fault pm__law_fault an__law_fault cd__law_fault ct__law_fault), sl__law_fault⟩)
  (c__law_fault : PySem.W.codeIn K cd__law_fault "_law_fault" = true)
  (k__law_fault : PySem.W.keepIn K (.ref f__law_fault) = true)
  (a__law_are_due : PySem.W.nsIn K mainGlobals "_law_are_due" = some (some (.ref f__law_are_due)))
  (l__law_are_due : K.lookup f__law_are_due = some ⟨oc__law_are_due, od__law_are_due, .func (PySem.W.fnOf "_law_are_due" "_law_are_due" (defArgs s__law_are_due) (defBody s__law_are_due) (defScope s__law_are_due) .none kV__law_are_due dc__law_are_due pm__law_are_due an__law_are_due cd__law_are_due ct__law_are_due), sl__law_are_due⟩)
  (c__law_are_due : PySem.W.codeIn K cd__law_are_due "_law_are_due" = true)
  (k__law_are_due : PySem.W.keepIn K (.ref f__law_are_due) = true)
  (a__law_is_under : PySem.W.nsIn K mainGlobals "_law_is_under" = some (some (.ref f__law_is_under)))
  (l__law_is_under : K.lookup f__law_is_under = some ⟨oc__law_is_under, od__law_is_under, .func (PySem.W.fnOf "_law_is_under" "_law_is_under" (defArgs s__law_is_under) (defBody s__law_is_under) (defScope s__law_is_under) .none kV__law_is_under dc__law_is_under pm__law_is_under an__law_is_under cd__law_is_under ct__law_is_under), sl__law_is_under⟩)
  (c__law_is_under : PySem.W.codeIn K cd__law_is_under "_law_is_under" = true)
  (k__law_is_under : PySem.W.keepIn K (.ref f__law_is_under) = true)
  (a__law_is_open : PySem.W.nsIn K mainGlobals "_law_is_open" = some (some (.ref f__law_is_open)))
  (l__law_is_open : K.lookup f__law_is_open = some ⟨oc__law_is_open, od__law_is_open, .func (PySem.W.fnOf "_law_is_open" "_law_is_open" (defArgs s__law_is_open) (defBody s__law_is_open) (defScope s__law_is_open) .none kV__law_is_open dc__law_is_open pm__law_is_open an__law_is_open cd__law_is_open ct__law_is_open), sl__law_is_open⟩)
  (c__law_is_open : PySem.W.codeIn K cd__law_is_open "_law_is_open" = true)
  (k__law_is_open : PySem.W.keepIn K (.ref f__law_is_open) = true)
  (a__law_antichain : PySem.W.nsIn K mainGlobals "_law_antichain" = some (some (.ref f__law_antichain)))
  (l__law_antichain : K.lookup f__law_antichain = some ⟨oc__law_antichain, od__law_antichain, .func (PySem.W.fnOf "_law_antichain" "_law_antichain" (defArgs s__law_antichain) (defBody s__law_antichain) (defScope s__law_antichain) .none kV__law_antichain dc__law_antichain pm__law_antichain an__law_antichain cd__law_antichain ct__law_antichain), sl__law_antichain⟩)
  (c__law_antichain : PySem.W.codeIn K cd__law_antichain "_law_antichain" = true)
  (k__law_antichain : PySem.W.keepIn K (.ref f__law_antichain) = true)
  (a__law_corners : PySem.W.nsIn K mainGlobals "_law_corners" = some (some (.ref f__law_corners)))
  (l__law_corners : K.lookup f__law_corners = some ⟨oc__law_corners, od__law_corners, .func (PySem.W.fnOf "_law_corners" "_law_corners" (defArgs s__law_corners) (defBody s__law_corners) (defScope s__law_corners) .none kV__law_corners dc__law_corners pm__law_corners an__law_corners cd__law_corners ct__law_corners), sl__law_corners⟩)
  (c__law_corners : PySem.W.codeIn K cd__law_corners "_law_corners" = true)
  (k__law_corners : PySem.W.keepIn K (.ref f__law_corners) = true)
  (a__law_heads_of : PySem.W.nsIn K mainGlobals "_law_heads_of" = some (some (.ref f__law_heads_of)))
  (l__law_heads_of : K.lookup f__law_heads_of = some ⟨oc__law_heads_of, od__law_heads_of, .func (PySem.W.fnOf "_law_heads_of" "_law_heads_of" (defArgs s__law_heads_of) (defBody s__law_heads_of) (defScope s__law_heads_of) .none kV__law_heads_of dc__law_heads_of pm__law_heads_of an__law_heads_of cd__law_heads_of ct__law_heads_of), sl__law_heads_of⟩)
  (c__law_heads_of : PySem.W.codeIn K cd__law_heads_of "_law_heads_of" = true)
  (k__law_heads_of : PySem.W.keepIn K (.ref f__law_heads_of) = true)
  (a__law_open_list : PySem.W.nsIn K mainGlobals "_law_open_list" = some (some (.ref f__law_open_list)))
  (l__law_open_list : K.lookup f__law_open_list = some ⟨oc__law_open_list, od__law_open_list, .func (PySem.W.fnOf "_law_open_list" "_law_open_list" (defArgs s__law_open_list) (defBody s__law_open_list) (defScope s__law_open_list) .none kV__law_open_list dc__law_open_list pm__law_open_list an__law_open_list cd__law_open_list ct__law_open_list), sl__law_open_list⟩)
  (c__law_open_list : PySem.W.codeIn K cd__law_open_list "_law_open_list" = true)
  (k__law_open_list : PySem.W.keepIn K (.ref f__law_open_list) = true)
  (a__law_handed_corners : PySem.W.nsIn K mainGlobals "_law_handed_corners" = some (some (.ref f__law_handed_corners)))
  (l__law_handed_corners : K.lookup f__law_handed_corners = some ⟨oc__law_handed_corners, od__law_handed_corners, .func (PySem.W.fnOf "_law_handed_corners" "_law_handed_corners" (defArgs s__law_handed_corners) (defBody s__law_handed_corners) (defScope s__law_handed_corners) .none kV__law_handed_corners dc__law_handed_corners pm__law_handed_corners an__law_handed_corners cd__law_handed_corners ct__law_handed_corners), sl__law_handed_corners⟩)
  (c__law_handed_corners : PySem.W.codeIn K cd__law_handed_corners "_law_handed_corners" = true)
  (k__law_handed_corners : PySem.W.keepIn K (.ref f__law_handed_corners) = true)
  (a__law_case : PySem.W.nsIn K mainGlobals "_law_case" = some (some (.ref f__law_case)))
  (l__law_case : K.lookup f__law_case = some ⟨oc__law_case, od__law_case, .func (PySem.W.fnOf "_law_case" "_law_case" (defArgs s__law_case) (defBody s__law_case) (defScope s__law_case) .none kV__law_case dc__law_case pm__law_case an__law_case cd__law_case ct__law_case), sl__law_case⟩)
  (c__law_case : PySem.W.codeIn K cd__law_case "_law_case" = true)
  (k__law_case : PySem.W.keepIn K (.ref f__law_case) = true)
  (a_law : PySem.W.nsIn K mainGlobals "law" = some (some (.ref f_law)))
  (l_law : K.lookup f_law = some ⟨oc_law, od_law, .func (PySem.W.fnOf "law" "law" (defArgs s_law) (defBody s_law) (defScope s_law) .none kV_law dc_law pm_law an_law (.ref cdl_) ct_law), sl_law⟩)
  (c_law : PySem.W.codeIn K (.ref cdl_) "law" = true)
  (k_law : PySem.W.keepIn K (.ref f_law) = true)
  (lc_ : K.lookup cdl_ = some ⟨ec_, dd_, .fields vs_, slc_⟩)
  (vv_ : (vs_[11]? : Option Value) = some (.ref tb_))
  (nt_ : K.lookup tb_ = none)
  (kc_MOST_LETTERS : PySem.W.nsIn K mainGlobals "MOST_LETTERS" = some (some (.int 3 tk_MOST_LETTERS)))
  (kc_MOST_UNKNOWNS : PySem.W.nsIn K mainGlobals "MOST_UNKNOWNS" = some (some (.int 3 tk_MOST_UNKNOWNS)))
  (kc_MOST_ORDER : PySem.W.nsIn K mainGlobals "MOST_ORDER" = some (some (.int 8 tk_MOST_ORDER)))
  (z_all : PySem.W.nsIn K mainGlobals "all" = some none)
  (z_any : PySem.W.nsIn K mainGlobals "any" = some none)
  (z_bool : PySem.W.nsIn K mainGlobals "bool" = some none)
  (z_enumerate : PySem.W.nsIn K mainGlobals "enumerate" = some none)
  (z_int : PySem.W.nsIn K mainGlobals "int" = some none)
  (z_isinstance : PySem.W.nsIn K mainGlobals "isinstance" = some none)
  (z_len : PySem.W.nsIn K mainGlobals "len" = some none)
  (z_list : PySem.W.nsIn K mainGlobals "list" = some none)
  (z_range : PySem.W.nsIn K mainGlobals "range" = some none)
  (z_repr : PySem.W.nsIn K mainGlobals "repr" = some none)
  (z_set : PySem.W.nsIn K mainGlobals "set" = some none)
  (z_sorted : PySem.W.nsIn K mainGlobals "sorted" = some none)
  (z_sum : PySem.W.nsIn K mainGlobals "sum" = some none)
  (z_tuple : PySem.W.nsIn K mainGlobals "tuple" = some none)
  (z_zip : PySem.W.nsIn K mainGlobals "zip" = some none) :
  ∃ (fd : FuncData) (c tb : Addr), PySem.W.tabIn K "law" = some (c, tb) ∧ K.lookup tb = none ∧ (∀ (s : Shared) (v : Value), BindsTo s fd ⟨[v], []⟩ [("script", v)]) ∧ ∀ ns : List Int, ns.length ≤ 63 → ∀ base : Heap, K.In base → base.Ns mainGlobals mg → SysB base → LamX.TabB base mg c tb → FnG P w K mg base 12 fa fd ["script"] (spLaw K tb ns) := by
  have e := hfa.symm.trans (PySem.W.mg_of X G a_law)
  cases e
  have F_BadNumber___init__ := fun_mk (st := s_BadNumber___init__) l_BadNumber___init__ c_BadNumber___init__ k_BadNumber___init__
  have F_BadRow___init__ := fun_mk (st := s_BadRow___init__) l_BadRow___init__ c_BadRow___init__ k_BadRow___init__
  have F_BadTable___init__ := fun_mk (st := s_BadTable___init__) l_BadTable___init__ c_BadTable___init__ k_BadTable___init__
  have F_is_whole := fun_mk (st := s_is_whole) l_is_whole c_is_whole k_is_whole
  have F_in_tuples := fun_mk (st := s_in_tuples) l_in_tuples c_in_tuples k_in_tuples
  have F_is_tuple_of := fun_mk (st := s_is_tuple_of) l_is_tuple_of c_is_tuple_of k_is_tuple_of
  have F_need_between := fun_mk (st := s_need_between) l_need_between c_need_between k_need_between
  have F_are_counts := fun_mk (st := s_are_counts) l_are_counts c_are_counts k_are_counts
  have F_covers := fun_mk (st := s_covers) l_covers c_covers k_covers
  have F_are_corner_rows := fun_mk (st := s_are_corner_rows) l_are_corner_rows c_are_corner_rows k_are_corner_rows
  have F_corners_from := fun_mk (st := s_corners_from) l_corners_from c_corners_from k_corners_from
  have F_least_rows := fun_mk (st := s_least_rows) l_least_rows c_least_rows k_least_rows
  have F_least_corners := fun_mk (st := s_least_corners) l_least_corners c_least_corners k_least_corners
  have F_open_by := fun_mk (st := s_open_by) l_open_by c_open_by k_open_by
  have F_derivative_from := fun_mk (st := s_derivative_from) l_derivative_from c_derivative_from k_derivative_from
  have F_open_at := fun_mk (st := s_open_at) l_open_at c_open_at k_open_at
  have F_order_rows := fun_mk (st := s_order_rows) l_order_rows c_order_rows k_order_rows
  have F_open_derivatives := fun_mk (st := s_open_derivatives) l_open_derivatives c_open_derivatives k_open_derivatives
  have F__law_pen := fun_mk (st := s__law_pen) l__law_pen c__law_pen k__law_pen
  have F__law_draw := fun_mk (st := s__law_draw) l__law_draw c__law_draw k__law_draw
  have F__law_pick := fun_mk (st := s__law_pick) l__law_pick c__law_pick k__law_pick
  have F__law_passed := fun_mk (st := s__law_passed) l__law_passed c__law_passed k__law_passed
  have F__law_all_counts := fun_mk (st := s__law_all_counts) l__law_all_counts c__law_all_counts k__law_all_counts
  have F__law_fault := fun_mk (st := s__law_fault) l__law_fault c__law_fault k__law_fault
  have F__law_are_due := fun_mk (st := s__law_are_due) l__law_are_due c__law_are_due k__law_are_due
  have F__law_is_under := fun_mk (st := s__law_is_under) l__law_is_under c__law_is_under k__law_is_under
  have F__law_is_open := fun_mk (st := s__law_is_open) l__law_is_open c__law_is_open k__law_is_open
  have F__law_antichain := fun_mk (st := s__law_antichain) l__law_antichain c__law_antichain k__law_antichain
  have F__law_corners := fun_mk (st := s__law_corners) l__law_corners c__law_corners k__law_corners
  have F__law_heads_of := fun_mk (st := s__law_heads_of) l__law_heads_of c__law_heads_of k__law_heads_of
  have F__law_open_list := fun_mk (st := s__law_open_list) l__law_open_list c__law_open_list k__law_open_list
  have F__law_handed_corners := fun_mk (st := s__law_handed_corners) l__law_handed_corners c__law_handed_corners k__law_handed_corners
  have F__law_case := fun_mk (st := s__law_case) l__law_case c__law_case k__law_case
  have F_law := fun_mk (st := s_law) l_law c_law k_law
  let A : Adr := ⟨C_PartialError, C_BadNumber, C_BadText, C_BadPoly, C_BadForm, C_BadOp, C_BadRow, C_BadTable, C_Unlike, C_TooMany, f_BadNumber___init__, f_BadRow___init__, f_BadTable___init__, f_is_whole, f_in_tuples, f_is_tuple_of, f_need_between, f_are_counts, f_covers, f_are_corner_rows, f_corners_from, f_least_rows, f_least_corners, f_open_by, f_derivative_from, f_open_at, f_order_rows, f_open_derivatives, f__law_pen, f__law_draw, f__law_pick, f__law_passed, f__law_all_counts, f__law_fault, f__law_are_due, f__law_is_under, f__law_is_open, f__law_antichain, f__law_corners, f__law_heads_of, f__law_open_list, f__law_handed_corners, f__law_case, fa, PySem.W.fnOf "__init__" "BadNumber.__init__" (defArgs s_BadNumber___init__) (defBody s_BadNumber___init__) (defScope s_BadNumber___init__) .none kV_BadNumber___init__ dc_BadNumber___init__ pm_BadNumber___init__ an_BadNumber___init__ cd_BadNumber___init__ ct_BadNumber___init__, PySem.W.fnOf "__init__" "BadRow.__init__" (defArgs s_BadRow___init__) (defBody s_BadRow___init__) (defScope s_BadRow___init__) .none kV_BadRow___init__ dc_BadRow___init__ pm_BadRow___init__ an_BadRow___init__ cd_BadRow___init__ ct_BadRow___init__, PySem.W.fnOf "__init__" "BadTable.__init__" (defArgs s_BadTable___init__) (defBody s_BadTable___init__) (defScope s_BadTable___init__) .none kV_BadTable___init__ dc_BadTable___init__ pm_BadTable___init__ an_BadTable___init__ cd_BadTable___init__ ct_BadTable___init__, PySem.W.fnOf "is_whole" "is_whole" (defArgs s_is_whole) (defBody s_is_whole) (defScope s_is_whole) .none kV_is_whole dc_is_whole pm_is_whole an_is_whole cd_is_whole ct_is_whole, PySem.W.fnOf "in_tuples" "in_tuples" (defArgs s_in_tuples) (defBody s_in_tuples) (defScope s_in_tuples) .none kV_in_tuples dc_in_tuples pm_in_tuples an_in_tuples cd_in_tuples ct_in_tuples, PySem.W.fnOf "is_tuple_of" "is_tuple_of" (defArgs s_is_tuple_of) (defBody s_is_tuple_of) (defScope s_is_tuple_of) .none kV_is_tuple_of dc_is_tuple_of pm_is_tuple_of an_is_tuple_of cd_is_tuple_of ct_is_tuple_of, PySem.W.fnOf "need_between" "need_between" (defArgs s_need_between) (defBody s_need_between) (defScope s_need_between) .none kV_need_between dc_need_between pm_need_between an_need_between cd_need_between ct_need_between, PySem.W.fnOf "are_counts" "are_counts" (defArgs s_are_counts) (defBody s_are_counts) (defScope s_are_counts) .none kV_are_counts dc_are_counts pm_are_counts an_are_counts cd_are_counts ct_are_counts, PySem.W.fnOf "covers" "covers" (defArgs s_covers) (defBody s_covers) (defScope s_covers) .none kV_covers dc_covers pm_covers an_covers cd_covers ct_covers, PySem.W.fnOf "are_corner_rows" "are_corner_rows" (defArgs s_are_corner_rows) (defBody s_are_corner_rows) (defScope s_are_corner_rows) .none kV_are_corner_rows dc_are_corner_rows pm_are_corner_rows an_are_corner_rows cd_are_corner_rows ct_are_corner_rows, PySem.W.fnOf "corners_from" "corners_from" (defArgs s_corners_from) (defBody s_corners_from) (defScope s_corners_from) .none kV_corners_from dc_corners_from pm_corners_from an_corners_from cd_corners_from ct_corners_from, PySem.W.fnOf "least_rows" "least_rows" (defArgs s_least_rows) (defBody s_least_rows) (defScope s_least_rows) .none kV_least_rows dc_least_rows pm_least_rows an_least_rows cd_least_rows ct_least_rows, PySem.W.fnOf "least_corners" "least_corners" (defArgs s_least_corners) (defBody s_least_corners) (defScope s_least_corners) .none kV_least_corners dc_least_corners pm_least_corners an_least_corners cd_least_corners ct_least_corners, PySem.W.fnOf "open_by" "open_by" (defArgs s_open_by) (defBody s_open_by) (defScope s_open_by) .none kV_open_by dc_open_by pm_open_by an_open_by cd_open_by ct_open_by, PySem.W.fnOf "derivative_from" "derivative_from" (defArgs s_derivative_from) (defBody s_derivative_from) (defScope s_derivative_from) .none kV_derivative_from dc_derivative_from pm_derivative_from an_derivative_from cd_derivative_from ct_derivative_from, PySem.W.fnOf "open_at" "open_at" (defArgs s_open_at) (defBody s_open_at) (defScope s_open_at) .none kV_open_at dc_open_at pm_open_at an_open_at cd_open_at ct_open_at, PySem.W.fnOf "order_rows" "order_rows" (defArgs s_order_rows) (defBody s_order_rows) (defScope s_order_rows) .none kV_order_rows dc_order_rows pm_order_rows an_order_rows cd_order_rows ct_order_rows, PySem.W.fnOf "open_derivatives" "open_derivatives" (defArgs s_open_derivatives) (defBody s_open_derivatives) (defScope s_open_derivatives) .none kV_open_derivatives dc_open_derivatives pm_open_derivatives an_open_derivatives cd_open_derivatives ct_open_derivatives, PySem.W.fnOf "_law_pen" "_law_pen" (defArgs s__law_pen) (defBody s__law_pen) (defScope s__law_pen) .none kV__law_pen dc__law_pen pm__law_pen an__law_pen cd__law_pen ct__law_pen, PySem.W.fnOf "_law_draw" "_law_draw" (defArgs s__law_draw) (defBody s__law_draw) (defScope s__law_draw) .none kV__law_draw dc__law_draw pm__law_draw an__law_draw cd__law_draw ct__law_draw, PySem.W.fnOf "_law_pick" "_law_pick" (defArgs s__law_pick) (defBody s__law_pick) (defScope s__law_pick) .none kV__law_pick dc__law_pick pm__law_pick an__law_pick cd__law_pick ct__law_pick, PySem.W.fnOf "_law_passed" "_law_passed" (defArgs s__law_passed) (defBody s__law_passed) (defScope s__law_passed) .none kV__law_passed dc__law_passed pm__law_passed an__law_passed cd__law_passed ct__law_passed, PySem.W.fnOf "_law_all_counts" "_law_all_counts" (defArgs s__law_all_counts) (defBody s__law_all_counts) (defScope s__law_all_counts) .none kV__law_all_counts dc__law_all_counts pm__law_all_counts an__law_all_counts cd__law_all_counts ct__law_all_counts, PySem.W.fnOf "_law_fault" "_law_fault" (defArgs s__law_fault) (defBody s__law_fault) (defScope s__law_fault) .none kV__law_fault dc__law_fault pm__law_fault an__law_fault cd__law_fault ct__law_fault, PySem.W.fnOf "_law_are_due" "_law_are_due" (defArgs s__law_are_due) (defBody s__law_are_due) (defScope s__law_are_due) .none kV__law_are_due dc__law_are_due pm__law_are_due an__law_are_due cd__law_are_due ct__law_are_due, PySem.W.fnOf "_law_is_under" "_law_is_under" (defArgs s__law_is_under) (defBody s__law_is_under) (defScope s__law_is_under) .none kV__law_is_under dc__law_is_under pm__law_is_under an__law_is_under cd__law_is_under ct__law_is_under, PySem.W.fnOf "_law_is_open" "_law_is_open" (defArgs s__law_is_open) (defBody s__law_is_open) (defScope s__law_is_open) .none kV__law_is_open dc__law_is_open pm__law_is_open an__law_is_open cd__law_is_open ct__law_is_open, PySem.W.fnOf "_law_antichain" "_law_antichain" (defArgs s__law_antichain) (defBody s__law_antichain) (defScope s__law_antichain) .none kV__law_antichain dc__law_antichain pm__law_antichain an__law_antichain cd__law_antichain ct__law_antichain, PySem.W.fnOf "_law_corners" "_law_corners" (defArgs s__law_corners) (defBody s__law_corners) (defScope s__law_corners) .none kV__law_corners dc__law_corners pm__law_corners an__law_corners cd__law_corners ct__law_corners, PySem.W.fnOf "_law_heads_of" "_law_heads_of" (defArgs s__law_heads_of) (defBody s__law_heads_of) (defScope s__law_heads_of) .none kV__law_heads_of dc__law_heads_of pm__law_heads_of an__law_heads_of cd__law_heads_of ct__law_heads_of, PySem.W.fnOf "_law_open_list" "_law_open_list" (defArgs s__law_open_list) (defBody s__law_open_list) (defScope s__law_open_list) .none kV__law_open_list dc__law_open_list pm__law_open_list an__law_open_list cd__law_open_list ct__law_open_list, PySem.W.fnOf "_law_handed_corners" "_law_handed_corners" (defArgs s__law_handed_corners) (defBody s__law_handed_corners) (defScope s__law_handed_corners) .none kV__law_handed_corners dc__law_handed_corners pm__law_handed_corners an__law_handed_corners cd__law_handed_corners ct__law_handed_corners, PySem.W.fnOf "_law_case" "_law_case" (defArgs s__law_case) (defBody s__law_case) (defScope s__law_case) .none kV__law_case dc__law_case pm__law_case an__law_case cd__law_case ct__law_case, PySem.W.fnOf "law" "law" (defArgs s_law) (defBody s_law) (defScope s_law) .none kV_law dc_law pm_law an_law (.ref cdl_) ct_law⟩
  have g_BadNumber := PySem.W.mg_of X G aC_BadNumber
  have g_BadText := PySem.W.mg_of X G aC_BadText
  have g_BadPoly := PySem.W.mg_of X G aC_BadPoly
  have g_BadForm := PySem.W.mg_of X G aC_BadForm
  have g_BadOp := PySem.W.mg_of X G aC_BadOp
  have g_BadRow := PySem.W.mg_of X G aC_BadRow
  have g_BadTable := PySem.W.mg_of X G aC_BadTable
  have g_Unlike := PySem.W.mg_of X G aC_Unlike
  have g_TooMany := PySem.W.mg_of X G aC_TooMany
  have ox_BadNumber : OexC K C_BadNumber := ⟨⟨_, _, _, _, _, _, _, _, _, _, _, _, _, _, _, lk_BadNumber, rf_BadNumber⟩, sa_BadNumber, sb_BadNumber, ty_BadNumber, kc_BadNumber⟩
  have ox_BadTable : OexC K C_BadTable := ⟨⟨_, _, _, _, _, _, _, _, _, _, _, _, _, _, _, lk_BadTable, rf_BadTable⟩, sa_BadTable, sb_BadTable, ty_BadTable, kc_BadTable⟩
  have ox_BadRow : OexC K C_BadRow := ⟨⟨_, _, _, _, _, _, _, _, _, _, _, _, _, _, _, lk_BadRow, rf_BadRow⟩, sa_BadRow, sb_BadRow, ty_BadRow, kc_BadRow⟩
  have ft : FTabK K mg fcl := by
    refine ⟨?_, ?_⟩
    · intro k hk k' hk'
      simp only [List.mem_cons, List.not_mem_nil, or_false] at hk hk'
      rcases hk with rfl | rfl | rfl | rfl | rfl | rfl | rfl | rfl | rfl
      · rcases hk' with rfl | rfl | rfl | rfl | rfl | rfl | rfl | rfl | rfl
        · exact ⟨_, _, g_BadForm, g_BadForm, (PySem.W.exm_ref sb_BadForm hd_BadForm ty_BadForm su_BadForm_BadForm).trans (congrArg some (by decide))⟩
        · exact ⟨_, _, g_BadForm, g_BadNumber, (PySem.W.exm_ref sb_BadNumber hd_BadNumber ty_BadNumber su_BadForm_BadNumber).trans (congrArg some (by decide))⟩
        · exact ⟨_, _, g_BadForm, g_BadOp, (PySem.W.exm_ref sb_BadOp hd_BadOp ty_BadOp su_BadForm_BadOp).trans (congrArg some (by decide))⟩
        · exact ⟨_, _, g_BadForm, g_BadPoly, (PySem.W.exm_ref sb_BadPoly hd_BadPoly ty_BadPoly su_BadForm_BadPoly).trans (congrArg some (by decide))⟩
        · exact ⟨_, _, g_BadForm, g_BadRow, (PySem.W.exm_ref sb_BadRow hd_BadRow ty_BadRow su_BadForm_BadRow).trans (congrArg some (by decide))⟩
        · exact ⟨_, _, g_BadForm, g_BadTable, (PySem.W.exm_ref sb_BadTable hd_BadTable ty_BadTable su_BadForm_BadTable).trans (congrArg some (by decide))⟩
        · exact ⟨_, _, g_BadForm, g_BadText, (PySem.W.exm_ref sb_BadText hd_BadText ty_BadText su_BadForm_BadText).trans (congrArg some (by decide))⟩
        · exact ⟨_, _, g_BadForm, g_TooMany, (PySem.W.exm_ref sb_TooMany hd_TooMany ty_TooMany su_BadForm_TooMany).trans (congrArg some (by decide))⟩
        · exact ⟨_, _, g_BadForm, g_Unlike, (PySem.W.exm_ref sb_Unlike hd_Unlike ty_Unlike su_BadForm_Unlike).trans (congrArg some (by decide))⟩
      · rcases hk' with rfl | rfl | rfl | rfl | rfl | rfl | rfl | rfl | rfl
        · exact ⟨_, _, g_BadNumber, g_BadForm, (PySem.W.exm_ref sb_BadForm hd_BadForm ty_BadForm su_BadNumber_BadForm).trans (congrArg some (by decide))⟩
        · exact ⟨_, _, g_BadNumber, g_BadNumber, (PySem.W.exm_ref sb_BadNumber hd_BadNumber ty_BadNumber su_BadNumber_BadNumber).trans (congrArg some (by decide))⟩
        · exact ⟨_, _, g_BadNumber, g_BadOp, (PySem.W.exm_ref sb_BadOp hd_BadOp ty_BadOp su_BadNumber_BadOp).trans (congrArg some (by decide))⟩
        · exact ⟨_, _, g_BadNumber, g_BadPoly, (PySem.W.exm_ref sb_BadPoly hd_BadPoly ty_BadPoly su_BadNumber_BadPoly).trans (congrArg some (by decide))⟩
        · exact ⟨_, _, g_BadNumber, g_BadRow, (PySem.W.exm_ref sb_BadRow hd_BadRow ty_BadRow su_BadNumber_BadRow).trans (congrArg some (by decide))⟩
        · exact ⟨_, _, g_BadNumber, g_BadTable, (PySem.W.exm_ref sb_BadTable hd_BadTable ty_BadTable su_BadNumber_BadTable).trans (congrArg some (by decide))⟩
        · exact ⟨_, _, g_BadNumber, g_BadText, (PySem.W.exm_ref sb_BadText hd_BadText ty_BadText su_BadNumber_BadText).trans (congrArg some (by decide))⟩
        · exact ⟨_, _, g_BadNumber, g_TooMany, (PySem.W.exm_ref sb_TooMany hd_TooMany ty_TooMany su_BadNumber_TooMany).trans (congrArg some (by decide))⟩
        · exact ⟨_, _, g_BadNumber, g_Unlike, (PySem.W.exm_ref sb_Unlike hd_Unlike ty_Unlike su_BadNumber_Unlike).trans (congrArg some (by decide))⟩
      · rcases hk' with rfl | rfl | rfl | rfl | rfl | rfl | rfl | rfl | rfl
        · exact ⟨_, _, g_BadOp, g_BadForm, (PySem.W.exm_ref sb_BadForm hd_BadForm ty_BadForm su_BadOp_BadForm).trans (congrArg some (by decide))⟩
        · exact ⟨_, _, g_BadOp, g_BadNumber, (PySem.W.exm_ref sb_BadNumber hd_BadNumber ty_BadNumber su_BadOp_BadNumber).trans (congrArg some (by decide))⟩
        · exact ⟨_, _, g_BadOp, g_BadOp, (PySem.W.exm_ref sb_BadOp hd_BadOp ty_BadOp su_BadOp_BadOp).trans (congrArg some (by decide))⟩
        · exact ⟨_, _, g_BadOp, g_BadPoly, (PySem.W.exm_ref sb_BadPoly hd_BadPoly ty_BadPoly su_BadOp_BadPoly).trans (congrArg some (by decide))⟩
        · exact ⟨_, _, g_BadOp, g_BadRow, (PySem.W.exm_ref sb_BadRow hd_BadRow ty_BadRow su_BadOp_BadRow).trans (congrArg some (by decide))⟩
        · exact ⟨_, _, g_BadOp, g_BadTable, (PySem.W.exm_ref sb_BadTable hd_BadTable ty_BadTable su_BadOp_BadTable).trans (congrArg some (by decide))⟩
        · exact ⟨_, _, g_BadOp, g_BadText, (PySem.W.exm_ref sb_BadText hd_BadText ty_BadText su_BadOp_BadText).trans (congrArg some (by decide))⟩
        · exact ⟨_, _, g_BadOp, g_TooMany, (PySem.W.exm_ref sb_TooMany hd_TooMany ty_TooMany su_BadOp_TooMany).trans (congrArg some (by decide))⟩
        · exact ⟨_, _, g_BadOp, g_Unlike, (PySem.W.exm_ref sb_Unlike hd_Unlike ty_Unlike su_BadOp_Unlike).trans (congrArg some (by decide))⟩
      · rcases hk' with rfl | rfl | rfl | rfl | rfl | rfl | rfl | rfl | rfl
        · exact ⟨_, _, g_BadPoly, g_BadForm, (PySem.W.exm_ref sb_BadForm hd_BadForm ty_BadForm su_BadPoly_BadForm).trans (congrArg some (by decide))⟩
        · exact ⟨_, _, g_BadPoly, g_BadNumber, (PySem.W.exm_ref sb_BadNumber hd_BadNumber ty_BadNumber su_BadPoly_BadNumber).trans (congrArg some (by decide))⟩
        · exact ⟨_, _, g_BadPoly, g_BadOp, (PySem.W.exm_ref sb_BadOp hd_BadOp ty_BadOp su_BadPoly_BadOp).trans (congrArg some (by decide))⟩
        · exact ⟨_, _, g_BadPoly, g_BadPoly, (PySem.W.exm_ref sb_BadPoly hd_BadPoly ty_BadPoly su_BadPoly_BadPoly).trans (congrArg some (by decide))⟩
        · exact ⟨_, _, g_BadPoly, g_BadRow, (PySem.W.exm_ref sb_BadRow hd_BadRow ty_BadRow su_BadPoly_BadRow).trans (congrArg some (by decide))⟩
        · exact ⟨_, _, g_BadPoly, g_BadTable, (PySem.W.exm_ref sb_BadTable hd_BadTable ty_BadTable su_BadPoly_BadTable).trans (congrArg some (by decide))⟩
        · exact ⟨_, _, g_BadPoly, g_BadText, (PySem.W.exm_ref sb_BadText hd_BadText ty_BadText su_BadPoly_BadText).trans (congrArg some (by decide))⟩
        · exact ⟨_, _, g_BadPoly, g_TooMany, (PySem.W.exm_ref sb_TooMany hd_TooMany ty_TooMany su_BadPoly_TooMany).trans (congrArg some (by decide))⟩
        · exact ⟨_, _, g_BadPoly, g_Unlike, (PySem.W.exm_ref sb_Unlike hd_Unlike ty_Unlike su_BadPoly_Unlike).trans (congrArg some (by decide))⟩
      · rcases hk' with rfl | rfl | rfl | rfl | rfl | rfl | rfl | rfl | rfl
        · exact ⟨_, _, g_BadRow, g_BadForm, (PySem.W.exm_ref sb_BadForm hd_BadForm ty_BadForm su_BadRow_BadForm).trans (congrArg some (by decide))⟩
        · exact ⟨_, _, g_BadRow, g_BadNumber, (PySem.W.exm_ref sb_BadNumber hd_BadNumber ty_BadNumber su_BadRow_BadNumber).trans (congrArg some (by decide))⟩
        · exact ⟨_, _, g_BadRow, g_BadOp, (PySem.W.exm_ref sb_BadOp hd_BadOp ty_BadOp su_BadRow_BadOp).trans (congrArg some (by decide))⟩
        · exact ⟨_, _, g_BadRow, g_BadPoly, (PySem.W.exm_ref sb_BadPoly hd_BadPoly ty_BadPoly su_BadRow_BadPoly).trans (congrArg some (by decide))⟩
        · exact ⟨_, _, g_BadRow, g_BadRow, (PySem.W.exm_ref sb_BadRow hd_BadRow ty_BadRow su_BadRow_BadRow).trans (congrArg some (by decide))⟩
        · exact ⟨_, _, g_BadRow, g_BadTable, (PySem.W.exm_ref sb_BadTable hd_BadTable ty_BadTable su_BadRow_BadTable).trans (congrArg some (by decide))⟩
        · exact ⟨_, _, g_BadRow, g_BadText, (PySem.W.exm_ref sb_BadText hd_BadText ty_BadText su_BadRow_BadText).trans (congrArg some (by decide))⟩
        · exact ⟨_, _, g_BadRow, g_TooMany, (PySem.W.exm_ref sb_TooMany hd_TooMany ty_TooMany su_BadRow_TooMany).trans (congrArg some (by decide))⟩
        · exact ⟨_, _, g_BadRow, g_Unlike, (PySem.W.exm_ref sb_Unlike hd_Unlike ty_Unlike su_BadRow_Unlike).trans (congrArg some (by decide))⟩
      · rcases hk' with rfl | rfl | rfl | rfl | rfl | rfl | rfl | rfl | rfl
        · exact ⟨_, _, g_BadTable, g_BadForm, (PySem.W.exm_ref sb_BadForm hd_BadForm ty_BadForm su_BadTable_BadForm).trans (congrArg some (by decide))⟩
        · exact ⟨_, _, g_BadTable, g_BadNumber, (PySem.W.exm_ref sb_BadNumber hd_BadNumber ty_BadNumber su_BadTable_BadNumber).trans (congrArg some (by decide))⟩
        · exact ⟨_, _, g_BadTable, g_BadOp, (PySem.W.exm_ref sb_BadOp hd_BadOp ty_BadOp su_BadTable_BadOp).trans (congrArg some (by decide))⟩
        · exact ⟨_, _, g_BadTable, g_BadPoly, (PySem.W.exm_ref sb_BadPoly hd_BadPoly ty_BadPoly su_BadTable_BadPoly).trans (congrArg some (by decide))⟩
        · exact ⟨_, _, g_BadTable, g_BadRow, (PySem.W.exm_ref sb_BadRow hd_BadRow ty_BadRow su_BadTable_BadRow).trans (congrArg some (by decide))⟩
        · exact ⟨_, _, g_BadTable, g_BadTable, (PySem.W.exm_ref sb_BadTable hd_BadTable ty_BadTable su_BadTable_BadTable).trans (congrArg some (by decide))⟩
        · exact ⟨_, _, g_BadTable, g_BadText, (PySem.W.exm_ref sb_BadText hd_BadText ty_BadText su_BadTable_BadText).trans (congrArg some (by decide))⟩
        · exact ⟨_, _, g_BadTable, g_TooMany, (PySem.W.exm_ref sb_TooMany hd_TooMany ty_TooMany su_BadTable_TooMany).trans (congrArg some (by decide))⟩
        · exact ⟨_, _, g_BadTable, g_Unlike, (PySem.W.exm_ref sb_Unlike hd_Unlike ty_Unlike su_BadTable_Unlike).trans (congrArg some (by decide))⟩
      · rcases hk' with rfl | rfl | rfl | rfl | rfl | rfl | rfl | rfl | rfl
        · exact ⟨_, _, g_BadText, g_BadForm, (PySem.W.exm_ref sb_BadForm hd_BadForm ty_BadForm su_BadText_BadForm).trans (congrArg some (by decide))⟩
        · exact ⟨_, _, g_BadText, g_BadNumber, (PySem.W.exm_ref sb_BadNumber hd_BadNumber ty_BadNumber su_BadText_BadNumber).trans (congrArg some (by decide))⟩
        · exact ⟨_, _, g_BadText, g_BadOp, (PySem.W.exm_ref sb_BadOp hd_BadOp ty_BadOp su_BadText_BadOp).trans (congrArg some (by decide))⟩
        · exact ⟨_, _, g_BadText, g_BadPoly, (PySem.W.exm_ref sb_BadPoly hd_BadPoly ty_BadPoly su_BadText_BadPoly).trans (congrArg some (by decide))⟩
        · exact ⟨_, _, g_BadText, g_BadRow, (PySem.W.exm_ref sb_BadRow hd_BadRow ty_BadRow su_BadText_BadRow).trans (congrArg some (by decide))⟩
        · exact ⟨_, _, g_BadText, g_BadTable, (PySem.W.exm_ref sb_BadTable hd_BadTable ty_BadTable su_BadText_BadTable).trans (congrArg some (by decide))⟩
        · exact ⟨_, _, g_BadText, g_BadText, (PySem.W.exm_ref sb_BadText hd_BadText ty_BadText su_BadText_BadText).trans (congrArg some (by decide))⟩
        · exact ⟨_, _, g_BadText, g_TooMany, (PySem.W.exm_ref sb_TooMany hd_TooMany ty_TooMany su_BadText_TooMany).trans (congrArg some (by decide))⟩
        · exact ⟨_, _, g_BadText, g_Unlike, (PySem.W.exm_ref sb_Unlike hd_Unlike ty_Unlike su_BadText_Unlike).trans (congrArg some (by decide))⟩
      · rcases hk' with rfl | rfl | rfl | rfl | rfl | rfl | rfl | rfl | rfl
        · exact ⟨_, _, g_TooMany, g_BadForm, (PySem.W.exm_ref sb_BadForm hd_BadForm ty_BadForm su_TooMany_BadForm).trans (congrArg some (by decide))⟩
        · exact ⟨_, _, g_TooMany, g_BadNumber, (PySem.W.exm_ref sb_BadNumber hd_BadNumber ty_BadNumber su_TooMany_BadNumber).trans (congrArg some (by decide))⟩
        · exact ⟨_, _, g_TooMany, g_BadOp, (PySem.W.exm_ref sb_BadOp hd_BadOp ty_BadOp su_TooMany_BadOp).trans (congrArg some (by decide))⟩
        · exact ⟨_, _, g_TooMany, g_BadPoly, (PySem.W.exm_ref sb_BadPoly hd_BadPoly ty_BadPoly su_TooMany_BadPoly).trans (congrArg some (by decide))⟩
        · exact ⟨_, _, g_TooMany, g_BadRow, (PySem.W.exm_ref sb_BadRow hd_BadRow ty_BadRow su_TooMany_BadRow).trans (congrArg some (by decide))⟩
        · exact ⟨_, _, g_TooMany, g_BadTable, (PySem.W.exm_ref sb_BadTable hd_BadTable ty_BadTable su_TooMany_BadTable).trans (congrArg some (by decide))⟩
        · exact ⟨_, _, g_TooMany, g_BadText, (PySem.W.exm_ref sb_BadText hd_BadText ty_BadText su_TooMany_BadText).trans (congrArg some (by decide))⟩
        · exact ⟨_, _, g_TooMany, g_TooMany, (PySem.W.exm_ref sb_TooMany hd_TooMany ty_TooMany su_TooMany_TooMany).trans (congrArg some (by decide))⟩
        · exact ⟨_, _, g_TooMany, g_Unlike, (PySem.W.exm_ref sb_Unlike hd_Unlike ty_Unlike su_TooMany_Unlike).trans (congrArg some (by decide))⟩
      · rcases hk' with rfl | rfl | rfl | rfl | rfl | rfl | rfl | rfl | rfl
        · exact ⟨_, _, g_Unlike, g_BadForm, (PySem.W.exm_ref sb_BadForm hd_BadForm ty_BadForm su_Unlike_BadForm).trans (congrArg some (by decide))⟩
        · exact ⟨_, _, g_Unlike, g_BadNumber, (PySem.W.exm_ref sb_BadNumber hd_BadNumber ty_BadNumber su_Unlike_BadNumber).trans (congrArg some (by decide))⟩
        · exact ⟨_, _, g_Unlike, g_BadOp, (PySem.W.exm_ref sb_BadOp hd_BadOp ty_BadOp su_Unlike_BadOp).trans (congrArg some (by decide))⟩
        · exact ⟨_, _, g_Unlike, g_BadPoly, (PySem.W.exm_ref sb_BadPoly hd_BadPoly ty_BadPoly su_Unlike_BadPoly).trans (congrArg some (by decide))⟩
        · exact ⟨_, _, g_Unlike, g_BadRow, (PySem.W.exm_ref sb_BadRow hd_BadRow ty_BadRow su_Unlike_BadRow).trans (congrArg some (by decide))⟩
        · exact ⟨_, _, g_Unlike, g_BadTable, (PySem.W.exm_ref sb_BadTable hd_BadTable ty_BadTable su_Unlike_BadTable).trans (congrArg some (by decide))⟩
        · exact ⟨_, _, g_Unlike, g_BadText, (PySem.W.exm_ref sb_BadText hd_BadText ty_BadText su_Unlike_BadText).trans (congrArg some (by decide))⟩
        · exact ⟨_, _, g_Unlike, g_TooMany, (PySem.W.exm_ref sb_TooMany hd_TooMany ty_TooMany su_Unlike_TooMany).trans (congrArg some (by decide))⟩
        · exact ⟨_, _, g_Unlike, g_Unlike, (PySem.W.exm_ref sb_Unlike hd_Unlike ty_Unlike su_Unlike_Unlike).trans (congrArg some (by decide))⟩
    · intro k hk
      simp only [List.mem_cons, List.not_mem_nil, or_false] at hk
      rcases hk with rfl | rfl | rfl | rfl | rfl | rfl | rfl | rfl | rfl
      · refine ⟨_, g_BadForm, fun f hf => ?_⟩
        simp only [List.mem_cons, List.not_mem_nil, or_false] at hf
        subst hf
        exact ⟨gg_BadForm, gt_BadForm, sb_BadForm, hd_BadForm, no_BadForm_value⟩
      · refine ⟨_, g_BadNumber, fun f hf => ?_⟩
        simp only [List.mem_cons, List.not_mem_nil, or_false] at hf
        rcases hf with rfl | rfl
        · exact ⟨gg_BadNumber, gt_BadNumber, sb_BadNumber, hd_BadNumber, no_BadNumber_what⟩
        · exact ⟨gg_BadNumber, gt_BadNumber, sb_BadNumber, hd_BadNumber, no_BadNumber_number⟩
      · refine ⟨_, g_BadOp, fun f hf => ?_⟩
        simp only [List.mem_cons, List.not_mem_nil, or_false] at hf
        subst hf
        exact ⟨gg_BadOp, gt_BadOp, sb_BadOp, hd_BadOp, no_BadOp_value⟩
      · refine ⟨_, g_BadPoly, fun f hf => ?_⟩
        simp only [List.mem_cons, List.not_mem_nil, or_false] at hf
        subst hf
        exact ⟨gg_BadPoly, gt_BadPoly, sb_BadPoly, hd_BadPoly, no_BadPoly_value⟩
      · refine ⟨_, g_BadRow, fun f hf => ?_⟩
        simp only [List.mem_cons, List.not_mem_nil, or_false] at hf
        subst hf
        exact ⟨gg_BadRow, gt_BadRow, sb_BadRow, hd_BadRow, no_BadRow_row⟩
      · refine ⟨_, g_BadTable, fun f hf => ?_⟩
        simp only [List.mem_cons, List.not_mem_nil, or_false] at hf
        subst hf
        exact ⟨gg_BadTable, gt_BadTable, sb_BadTable, hd_BadTable, no_BadTable_table⟩
      · refine ⟨_, g_BadText, fun f hf => ?_⟩
        simp only [List.mem_cons, List.not_mem_nil, or_false] at hf
        rcases hf with rfl | rfl
        · exact ⟨gg_BadText, gt_BadText, sb_BadText, hd_BadText, no_BadText_line⟩
        · exact ⟨gg_BadText, gt_BadText, sb_BadText, hd_BadText, no_BadText_column⟩
      · refine ⟨_, g_TooMany, fun f hf => ?_⟩
        simp only [List.mem_cons, List.not_mem_nil, or_false] at hf
        rcases hf with rfl | rfl | rfl
        · exact ⟨gg_TooMany, gt_TooMany, sb_TooMany, hd_TooMany, no_TooMany_what⟩
        · exact ⟨gg_TooMany, gt_TooMany, sb_TooMany, hd_TooMany, no_TooMany_many⟩
        · exact ⟨gg_TooMany, gt_TooMany, sb_TooMany, hd_TooMany, no_TooMany_limit⟩
      · refine ⟨_, g_Unlike, fun f hf => ?_⟩
        simp only [List.mem_cons, List.not_mem_nil, or_false] at hf
        subst hf
        exact ⟨gg_Unlike, gt_Unlike, sb_Unlike, hd_Unlike, no_Unlike_what⟩
  have T : ∀ base : Heap, SysB base → Txt K mg base A := fun base sys => {
    sys := sys
    z_all := PySem.W.mg_none_of X G z_all
    z_any := PySem.W.mg_none_of X G z_any
    z_bool := PySem.W.mg_none_of X G z_bool
    z_enumerate := PySem.W.mg_none_of X G z_enumerate
    z_int := PySem.W.mg_none_of X G z_int
    z_isinstance := PySem.W.mg_none_of X G z_isinstance
    z_len := PySem.W.mg_none_of X G z_len
    z_list := PySem.W.mg_none_of X G z_list
    z_range := PySem.W.mg_none_of X G z_range
    z_repr := PySem.W.mg_none_of X G z_repr
    z_set := PySem.W.mg_none_of X G z_set
    z_sorted := PySem.W.mg_none_of X G z_sorted
    z_sum := PySem.W.mg_none_of X G z_sum
    z_tuple := PySem.W.mg_none_of X G z_tuple
    z_zip := PySem.W.mg_none_of X G z_zip
    k_MOST_LETTERS := ⟨_, PySem.W.mg_of X G kc_MOST_LETTERS⟩
    k_MOST_UNKNOWNS := ⟨_, PySem.W.mg_of X G kc_MOST_UNKNOWNS⟩
    k_MOST_ORDER := ⟨_, PySem.W.mg_of X G kc_MOST_ORDER⟩
    F_BadNumber___init__ := F_BadNumber___init__
    b_BadNumber___init__ := F_BadNumber___init__.binds (ps := ["self", "what", "number"]) fun _ _ _ _ _ _ us hl => match us, hl with | [_, _, _], _ => rfl
    F_BadRow___init__ := F_BadRow___init__
    b_BadRow___init__ := F_BadRow___init__.binds (ps := ["self", "row"]) fun _ _ _ _ _ _ us hl => match us, hl with | [_, _], _ => rfl
    F_BadTable___init__ := F_BadTable___init__
    b_BadTable___init__ := F_BadTable___init__.binds (ps := ["self", "table"]) fun _ _ _ _ _ _ us hl => match us, hl with | [_, _], _ => rfl
    F_is_whole := F_is_whole
    b_is_whole := F_is_whole.binds (ps := ["value"]) fun _ _ _ _ _ _ us hl => match us, hl with | [_], _ => rfl
    g_is_whole := PySem.W.mg_of X G a_is_whole
    F_in_tuples := F_in_tuples
    b_in_tuples := F_in_tuples.binds (ps := ["value"]) fun _ _ _ _ _ _ us hl => match us, hl with | [_], _ => rfl
    g_in_tuples := PySem.W.mg_of X G a_in_tuples
    F_is_tuple_of := F_is_tuple_of
    b_is_tuple_of := F_is_tuple_of.binds (ps := ["value", "many"]) fun _ _ _ _ _ _ us hl => match us, hl with | [_, _], _ => rfl
    g_is_tuple_of := PySem.W.mg_of X G a_is_tuple_of
    F_need_between := F_need_between
    b_need_between := F_need_between.binds (ps := ["what", "number", "low", "high"]) fun _ _ _ _ _ _ us hl => match us, hl with | [_, _, _, _], _ => rfl
    g_need_between := PySem.W.mg_of X G a_need_between
    F_are_counts := F_are_counts
    b_are_counts := F_are_counts.binds (ps := ["letters", "value"]) fun _ _ _ _ _ _ us hl => match us, hl with | [_, _], _ => rfl
    g_are_counts := PySem.W.mg_of X G a_are_counts
    F_covers := F_covers
    b_covers := F_covers.binds (ps := ["one", "other"]) fun _ _ _ _ _ _ us hl => match us, hl with | [_, _], _ => rfl
    g_covers := PySem.W.mg_of X G a_covers
    F_are_corner_rows := F_are_corner_rows
    b_are_corner_rows := F_are_corner_rows.binds (ps := ["letters", "value"]) fun _ _ _ _ _ _ us hl => match us, hl with | [_, _], _ => rfl
    g_are_corner_rows := PySem.W.mg_of X G a_are_corner_rows
    F_corners_from := F_corners_from
    b_corners_from := F_corners_from.binds (ps := ["letters", "corners"]) fun _ _ _ _ _ _ us hl => match us, hl with | [_, _], _ => rfl
    g_corners_from := PySem.W.mg_of X G a_corners_from
    F_least_rows := F_least_rows
    b_least_rows := F_least_rows.binds (ps := ["rows"]) fun _ _ _ _ _ _ us hl => match us, hl with | [_], _ => rfl
    g_least_rows := PySem.W.mg_of X G a_least_rows
    F_least_corners := F_least_corners
    b_least_corners := F_least_corners.binds (ps := ["letters", "rows"]) fun _ _ _ _ _ _ us hl => match us, hl with | [_, _], _ => rfl
    g_least_corners := PySem.W.mg_of X G a_least_corners
    F_open_by := F_open_by
    b_open_by := F_open_by.binds (ps := ["corners", "derivative"]) fun _ _ _ _ _ _ us hl => match us, hl with | [_, _], _ => rfl
    g_open_by := PySem.W.mg_of X G a_open_by
    F_derivative_from := F_derivative_from
    b_derivative_from := F_derivative_from.binds (ps := ["letters", "corners", "derivative"]) fun _ _ _ _ _ _ us hl => match us, hl with | [_, _, _], _ => rfl
    g_derivative_from := PySem.W.mg_of X G a_derivative_from
    F_open_at := F_open_at
    b_open_at := F_open_at.binds (ps := ["letters", "corners", "derivative"]) fun _ _ _ _ _ _ us hl => match us, hl with | [_, _, _], _ => rfl
    g_open_at := PySem.W.mg_of X G a_open_at
    F_order_rows := F_order_rows
    b_order_rows := F_order_rows.binds (ps := ["letters", "order"]) fun _ _ _ _ _ _ us hl => match us, hl with | [_, _], _ => rfl
    g_order_rows := PySem.W.mg_of X G a_order_rows
    F_open_derivatives := F_open_derivatives
    b_open_derivatives := F_open_derivatives.binds (ps := ["letters", "corners", "order"]) fun _ _ _ _ _ _ us hl => match us, hl with | [_, _, _], _ => rfl
    g_open_derivatives := PySem.W.mg_of X G a_open_derivatives
    F__law_pen := F__law_pen
    b__law_pen := F__law_pen.binds (ps := ["script"]) fun _ _ _ _ _ _ us hl => match us, hl with | [_], _ => rfl
    g__law_pen := PySem.W.mg_of X G a__law_pen
    F__law_draw := F__law_draw
    b__law_draw := F__law_draw.binds (ps := ["pen", "many"]) fun _ _ _ _ _ _ us hl => match us, hl with | [_, _], _ => rfl
    g__law_draw := PySem.W.mg_of X G a__law_draw
    F__law_pick := F__law_pick
    b__law_pick := F__law_pick.binds (ps := ["pen", "some"]) fun _ _ _ _ _ _ us hl => match us, hl with | [_, _], _ => rfl
    g__law_pick := PySem.W.mg_of X G a__law_pick
    F__law_passed := F__law_passed
    b__law_passed := F__law_passed.binds (ps := ["pen", "row"]) fun _ _ _ _ _ _ us hl => match us, hl with | [_, _], _ => rfl
    g__law_passed := PySem.W.mg_of X G a__law_passed
    F__law_all_counts := F__law_all_counts
    b__law_all_counts := F__law_all_counts.binds (ps := ["letters", "order"]) fun _ _ _ _ _ _ us hl => match us, hl with | [_, _], _ => rfl
    g__law_all_counts := PySem.W.mg_of X G a__law_all_counts
    F__law_fault := F__law_fault
    b__law_fault := F__law_fault.binds (ps := ["work"]) fun _ _ _ _ _ _ us hl => match us, hl with | [_], _ => rfl
    g__law_fault := PySem.W.mg_of X G a__law_fault
    F__law_are_due := F__law_are_due
    b__law_are_due := F__law_are_due.binds (ps := ["tries"]) fun _ _ _ _ _ _ us hl => match us, hl with | [_], _ => rfl
    g__law_are_due := PySem.W.mg_of X G a__law_are_due
    F__law_is_under := F__law_is_under
    b__law_is_under := F__law_is_under.binds (ps := ["one", "other"]) fun _ _ _ _ _ _ us hl => match us, hl with | [_, _], _ => rfl
    g__law_is_under := PySem.W.mg_of X G a__law_is_under
    F__law_is_open := F__law_is_open
    b__law_is_open := F__law_is_open.binds (ps := ["heads", "derivative"]) fun _ _ _ _ _ _ us hl => match us, hl with | [_, _], _ => rfl
    g__law_is_open := PySem.W.mg_of X G a__law_is_open
    F__law_antichain := F__law_antichain
    b__law_antichain := F__law_antichain.binds (ps := ["pen", "letters", "most", "many"]) fun _ _ _ _ _ _ us hl => match us, hl with | [_, _, _, _], _ => rfl
    g__law_antichain := PySem.W.mg_of X G a__law_antichain
    F__law_corners := F__law_corners
    b__law_corners := F__law_corners.binds (ps := ["pen", "letters", "most", "many"]) fun _ _ _ _ _ _ us hl => match us, hl with | [_, _, _, _], _ => rfl
    g__law_corners := PySem.W.mg_of X G a__law_corners
    F__law_heads_of := F__law_heads_of
    b__law_heads_of := F__law_heads_of.binds (ps := ["corners"]) fun _ _ _ _ _ _ us hl => match us, hl with | [_], _ => rfl
    g__law_heads_of := PySem.W.mg_of X G a__law_heads_of
    F__law_open_list := F__law_open_list
    b__law_open_list := F__law_open_list.binds (ps := ["letters", "corners", "order"]) fun _ _ _ _ _ _ us hl => match us, hl with | [_, _, _], _ => rfl
    g__law_open_list := PySem.W.mg_of X G a__law_open_list
    F__law_handed_corners := F__law_handed_corners
    b__law_handed_corners := F__law_handed_corners.binds (ps := ["pen", "corners"]) fun _ _ _ _ _ _ us hl => match us, hl with | [_, _], _ => rfl
    g__law_handed_corners := PySem.W.mg_of X G a__law_handed_corners
    F__law_case := F__law_case
    b__law_case := F__law_case.binds (ps := ["pen"]) fun _ _ _ _ _ _ us hl => match us, hl with | [_], _ => rfl
    g__law_case := PySem.W.mg_of X G a__law_case
    F_law := F_law
    b_law := F_law.binds (ps := ["script"]) fun _ _ _ _ _ _ us hl => match us, hl with | [_], _ => rfl
    g_law := PySem.W.mg_of X G a_law
    g_PartialError := PySem.W.mg_of X G aC_PartialError
    exb := ⟨ga_PartialError, rd_PartialError, in_PartialError⟩
    g_BadNumber := g_BadNumber
    g_BadText := g_BadText
    g_BadPoly := g_BadPoly
    g_BadForm := g_BadForm
    g_BadOp := g_BadOp
    g_BadRow := g_BadRow
    g_BadTable := g_BadTable
    g_Unlike := g_Unlike
    g_TooMany := g_TooMany
    ox_BadNumber := ox_BadNumber
    ini_BadNumber := a_BadNumber___init__
    tI_BadNumber := t_BadNumber___init__
    na_BadNumber_what := no_BadNumber_what
    na_BadNumber_number := no_BadNumber_number
    ox_BadTable := ox_BadTable
    ini_BadTable := a_BadTable___init__
    tI_BadTable := t_BadTable___init__
    na_BadTable_table := no_BadTable_table
    ox_BadRow := ox_BadRow
    ini_BadRow := a_BadRow___init__
    tI_BadRow := t_BadRow___init__
    na_BadRow_row := no_BadRow_row
    ft := ft
  }
  exact ⟨_, cdl_, tb_, tabIn_mk a_law l_law rfl lc_ vv_, nt_, fun s v => .of_eq rfl, fun ns hl base _ _ sys TB => fn_law (T base sys) rfl TB (law_holds ns hl)⟩
end K63
open PySem PySem.W PyProof.Rows in
set_option maxRecDepth 100000 in
set_option maxHeartbeats 0 in
theorem PySem.Challenge.cw_partialpapers_k63_what_is_free_by_corner_holds : PySem.Challenge.rw_partialpapers_k63_what_is_free_by_corner.Holds := by
  w_on; o_law; k_head; (case hw => w_witness2)
  k_fill
  refine DL.walkT2 (l := PySem.Challenge.rw_partialpapers_k63_what_is_free_by_corner) (n := 63) (k := 12) (x := "script") (dL := _) rfl (by decide) rfl ⟨⟨rfl, by decide, by decide⟩, rfl⟩ (by rfl) rfl (fun w h Y => PySem.W.km_in_of Y) ?F
  case F =>
    intro w mg fa h KX G hmg
    refine' K63.all_mk KX G hmg ?aC_PartialError ?ga_PartialError ?rd_PartialError ?in_PartialError ?aC_BadNumber ?sb_BadNumber ?ty_BadNumber ?hd_BadNumber ?aC_BadText ?sb_BadText ?ty_BadText ?hd_BadText ?aC_BadPoly ?sb_BadPoly ?ty_BadPoly ?hd_BadPoly ?aC_BadForm ?sb_BadForm ?ty_BadForm ?hd_BadForm ?aC_BadOp ?sb_BadOp ?ty_BadOp ?hd_BadOp ?aC_BadRow ?sb_BadRow ?ty_BadRow ?hd_BadRow ?aC_BadTable ?sb_BadTable ?ty_BadTable ?hd_BadTable ?aC_Unlike ?sb_Unlike ?ty_Unlike ?hd_Unlike ?aC_TooMany ?sb_TooMany ?ty_TooMany ?hd_TooMany ?su_BadForm_BadForm ?su_BadForm_BadNumber ?su_BadForm_BadOp ?su_BadForm_BadPoly ?su_BadForm_BadRow ?su_BadForm_BadTable ?su_BadForm_BadText ?su_BadForm_TooMany ?su_BadForm_Unlike ?su_BadNumber_BadForm ?su_BadNumber_BadNumber ?su_BadNumber_BadOp ?su_BadNumber_BadPoly ?su_BadNumber_BadRow ?su_BadNumber_BadTable ?su_BadNumber_BadText ?su_BadNumber_TooMany ?su_BadNumber_Unlike ?su_BadOp_BadForm ?su_BadOp_BadNumber ?su_BadOp_BadOp ?su_BadOp_BadPoly ?su_BadOp_BadRow ?su_BadOp_BadTable ?su_BadOp_BadText ?su_BadOp_TooMany ?su_BadOp_Unlike ?su_BadPoly_BadForm ?su_BadPoly_BadNumber ?su_BadPoly_BadOp ?su_BadPoly_BadPoly ?su_BadPoly_BadRow ?su_BadPoly_BadTable ?su_BadPoly_BadText ?su_BadPoly_TooMany ?su_BadPoly_Unlike ?su_BadRow_BadForm ?su_BadRow_BadNumber ?su_BadRow_BadOp ?su_BadRow_BadPoly ?su_BadRow_BadRow ?su_BadRow_BadTable ?su_BadRow_BadText ?su_BadRow_TooMany ?su_BadRow_Unlike ?su_BadTable_BadForm ?su_BadTable_BadNumber ?su_BadTable_BadOp ?su_BadTable_BadPoly ?su_BadTable_BadRow ?su_BadTable_BadTable ?su_BadTable_BadText ?su_BadTable_TooMany ?su_BadTable_Unlike ?su_BadText_BadForm ?su_BadText_BadNumber ?su_BadText_BadOp ?su_BadText_BadPoly ?su_BadText_BadRow ?su_BadText_BadTable ?su_BadText_BadText ?su_BadText_TooMany ?su_BadText_Unlike ?su_TooMany_BadForm ?su_TooMany_BadNumber ?su_TooMany_BadOp ?su_TooMany_BadPoly ?su_TooMany_BadRow ?su_TooMany_BadTable ?su_TooMany_BadText ?su_TooMany_TooMany ?su_TooMany_Unlike ?su_Unlike_BadForm ?su_Unlike_BadNumber ?su_Unlike_BadOp ?su_Unlike_BadPoly ?su_Unlike_BadRow ?su_Unlike_BadTable ?su_Unlike_BadText ?su_Unlike_TooMany ?su_Unlike_Unlike ?gg_BadForm ?gt_BadForm ?gg_BadNumber ?gt_BadNumber ?gg_BadOp ?gt_BadOp ?gg_BadPoly ?gt_BadPoly ?gg_BadRow ?gt_BadRow ?gg_BadTable ?gt_BadTable ?gg_BadText ?gt_BadText ?gg_TooMany ?gt_TooMany ?gg_Unlike ?gt_Unlike ?no_BadNumber_what ?no_BadNumber_number ?no_BadTable_table ?no_BadRow_row ?no_BadForm_value ?no_BadOp_value ?no_BadPoly_value ?no_BadText_line ?no_BadText_column ?no_TooMany_what ?no_TooMany_many ?no_TooMany_limit ?no_Unlike_what ?lk_BadNumber ?rf_BadNumber ?sa_BadNumber ?kc_BadNumber ?lk_BadTable ?rf_BadTable ?sa_BadTable ?kc_BadTable ?lk_BadRow ?rf_BadRow ?sa_BadRow ?kc_BadRow ?a_BadNumber___init__ ?t_BadNumber___init__ ?l_BadNumber___init__ ?c_BadNumber___init__ ?k_BadNumber___init__ ?a_BadRow___init__ ?t_BadRow___init__ ?l_BadRow___init__ ?c_BadRow___init__ ?k_BadRow___init__ ?a_BadTable___init__ ?t_BadTable___init__ ?l_BadTable___init__ ?c_BadTable___init__ ?k_BadTable___init__ ?a_is_whole ?l_is_whole ?c_is_whole ?k_is_whole ?a_in_tuples ?l_in_tuples ?c_in_tuples ?k_in_tuples ?a_is_tuple_of ?l_is_tuple_of ?c_is_tuple_of ?k_is_tuple_of ?a_need_between ?l_need_between ?c_need_between ?k_need_between ?a_are_counts ?l_are_counts ?c_are_counts ?k_are_counts ?a_covers ?l_covers ?c_covers ?k_covers ?a_are_corner_rows ?l_are_corner_rows ?c_are_corner_rows ?k_are_corner_rows ?a_corners_from ?l_corners_from ?c_corners_from ?k_corners_from ?a_least_rows ?l_least_rows ?c_least_rows ?k_least_rows ?a_least_corners ?l_least_corners ?c_least_corners ?k_least_corners ?a_open_by ?l_open_by ?c_open_by ?k_open_by ?a_derivative_from ?l_derivative_from ?c_derivative_from ?k_derivative_from ?a_open_at ?l_open_at ?c_open_at ?k_open_at ?a_order_rows ?l_order_rows ?c_order_rows ?k_order_rows ?a_open_derivatives ?l_open_derivatives ?c_open_derivatives ?k_open_derivatives ?a__law_pen ?l__law_pen ?c__law_pen ?k__law_pen ?a__law_draw ?l__law_draw ?c__law_draw ?k__law_draw ?a__law_pick ?l__law_pick ?c__law_pick ?k__law_pick ?a__law_passed ?l__law_passed ?c__law_passed ?k__law_passed ?a__law_all_counts ?l__law_all_counts ?c__law_all_counts ?k__law_all_counts ?a__law_fault ?l__law_fault ?c__law_fault ?k__law_fault ?a__law_are_due ?l__law_are_due ?c__law_are_due ?k__law_are_due ?a__law_is_under ?l__law_is_under ?c__law_is_under ?k__law_is_under ?a__law_is_open ?l__law_is_open ?c__law_is_open ?k__law_is_open ?a__law_antichain ?l__law_antichain ?c__law_antichain ?k__law_antichain ?a__law_corners ?l__law_corners ?c__law_corners ?k__law_corners ?a__law_heads_of ?l__law_heads_of ?c__law_heads_of ?k__law_heads_of ?a__law_open_list ?l__law_open_list ?c__law_open_list ?k__law_open_list ?a__law_handed_corners ?l__law_handed_corners ?c__law_handed_corners ?k__law_handed_corners ?a__law_case ?l__law_case ?c__law_case ?k__law_case ?a_law ?l_law ?c_law ?k_law ?lc_ ?vv_ ?nt_ ?kc_MOST_LETTERS ?kc_MOST_UNKNOWNS ?kc_MOST_ORDER ?z_all ?z_any ?z_bool ?z_enumerate ?z_int ?z_isinstance ?z_len ?z_list ?z_range ?z_repr ?z_set ?z_sorted ?z_sum ?z_tuple ?z_zip
    (case aC_PartialError => k_is)
    (case ga_PartialError => k_is)
    (case rd_PartialError => k_is)
    (case in_PartialError => k_is)
    (case aC_BadNumber => k_is)
    (case sb_BadNumber => k_is)
    (case ty_BadNumber => k_is)
    (case hd_BadNumber => k_is)
    (case aC_BadText => k_is)
    (case sb_BadText => k_is)
    (case ty_BadText => k_is)
    (case hd_BadText => k_is)
    (case aC_BadPoly => k_is)
    (case sb_BadPoly => k_is)
    (case ty_BadPoly => k_is)
    (case hd_BadPoly => k_is)
    (case aC_BadForm => k_is)
    (case sb_BadForm => k_is)
    (case ty_BadForm => k_is)
    (case hd_BadForm => k_is)
    (case aC_BadOp => k_is)
    (case sb_BadOp => k_is)
    (case ty_BadOp => k_is)
    (case hd_BadOp => k_is)
    (case aC_BadRow => k_is)
    (case sb_BadRow => k_is)
    (case ty_BadRow => k_is)
    (case hd_BadRow => k_is)
    (case aC_BadTable => k_is)
    (case sb_BadTable => k_is)
    (case ty_BadTable => k_is)
    (case hd_BadTable => k_is)
    (case aC_Unlike => k_is)
    (case sb_Unlike => k_is)
    (case ty_Unlike => k_is)
    (case hd_Unlike => k_is)
    (case aC_TooMany => k_is)
    (case sb_TooMany => k_is)
    (case ty_TooMany => k_is)
    (case hd_TooMany => k_is)
    (case su_BadForm_BadForm => k_is)
    (case su_BadForm_BadNumber => k_is)
    (case su_BadForm_BadOp => k_is)
    (case su_BadForm_BadPoly => k_is)
    (case su_BadForm_BadRow => k_is)
    (case su_BadForm_BadTable => k_is)
    (case su_BadForm_BadText => k_is)
    (case su_BadForm_TooMany => k_is)
    (case su_BadForm_Unlike => k_is)
    (case su_BadNumber_BadForm => k_is)
    (case su_BadNumber_BadNumber => k_is)
    (case su_BadNumber_BadOp => k_is)
    (case su_BadNumber_BadPoly => k_is)
    (case su_BadNumber_BadRow => k_is)
    (case su_BadNumber_BadTable => k_is)
    (case su_BadNumber_BadText => k_is)
    (case su_BadNumber_TooMany => k_is)
    (case su_BadNumber_Unlike => k_is)
    (case su_BadOp_BadForm => k_is)
    (case su_BadOp_BadNumber => k_is)
    (case su_BadOp_BadOp => k_is)
    (case su_BadOp_BadPoly => k_is)
    (case su_BadOp_BadRow => k_is)
    (case su_BadOp_BadTable => k_is)
    (case su_BadOp_BadText => k_is)
    (case su_BadOp_TooMany => k_is)
    (case su_BadOp_Unlike => k_is)
    (case su_BadPoly_BadForm => k_is)
    (case su_BadPoly_BadNumber => k_is)
    (case su_BadPoly_BadOp => k_is)
    (case su_BadPoly_BadPoly => k_is)
    (case su_BadPoly_BadRow => k_is)
    (case su_BadPoly_BadTable => k_is)
    (case su_BadPoly_BadText => k_is)
    (case su_BadPoly_TooMany => k_is)
    (case su_BadPoly_Unlike => k_is)
    (case su_BadRow_BadForm => k_is)
    (case su_BadRow_BadNumber => k_is)
    (case su_BadRow_BadOp => k_is)
    (case su_BadRow_BadPoly => k_is)
    (case su_BadRow_BadRow => k_is)
    (case su_BadRow_BadTable => k_is)
    (case su_BadRow_BadText => k_is)
    (case su_BadRow_TooMany => k_is)
    (case su_BadRow_Unlike => k_is)
    (case su_BadTable_BadForm => k_is)
    (case su_BadTable_BadNumber => k_is)
    (case su_BadTable_BadOp => k_is)
    (case su_BadTable_BadPoly => k_is)
    (case su_BadTable_BadRow => k_is)
    (case su_BadTable_BadTable => k_is)
    (case su_BadTable_BadText => k_is)
    (case su_BadTable_TooMany => k_is)
    (case su_BadTable_Unlike => k_is)
    (case su_BadText_BadForm => k_is)
    (case su_BadText_BadNumber => k_is)
    (case su_BadText_BadOp => k_is)
    (case su_BadText_BadPoly => k_is)
    (case su_BadText_BadRow => k_is)
    (case su_BadText_BadTable => k_is)
    (case su_BadText_BadText => k_is)
    (case su_BadText_TooMany => k_is)
    (case su_BadText_Unlike => k_is)
    (case su_TooMany_BadForm => k_is)
    (case su_TooMany_BadNumber => k_is)
    (case su_TooMany_BadOp => k_is)
    (case su_TooMany_BadPoly => k_is)
    (case su_TooMany_BadRow => k_is)
    (case su_TooMany_BadTable => k_is)
    (case su_TooMany_BadText => k_is)
    (case su_TooMany_TooMany => k_is)
    (case su_TooMany_Unlike => k_is)
    (case su_Unlike_BadForm => k_is)
    (case su_Unlike_BadNumber => k_is)
    (case su_Unlike_BadOp => k_is)
    (case su_Unlike_BadPoly => k_is)
    (case su_Unlike_BadRow => k_is)
    (case su_Unlike_BadTable => k_is)
    (case su_Unlike_BadText => k_is)
    (case su_Unlike_TooMany => k_is)
    (case su_Unlike_Unlike => k_is)
    (case gg_BadForm => k_is)
    (case gt_BadForm => k_is)
    (case gg_BadNumber => k_is)
    (case gt_BadNumber => k_is)
    (case gg_BadOp => k_is)
    (case gt_BadOp => k_is)
    (case gg_BadPoly => k_is)
    (case gt_BadPoly => k_is)
    (case gg_BadRow => k_is)
    (case gt_BadRow => k_is)
    (case gg_BadTable => k_is)
    (case gt_BadTable => k_is)
    (case gg_BadText => k_is)
    (case gt_BadText => k_is)
    (case gg_TooMany => k_is)
    (case gt_TooMany => k_is)
    (case gg_Unlike => k_is)
    (case gt_Unlike => k_is)
    (case no_BadNumber_what => k_is)
    (case no_BadNumber_number => k_is)
    (case no_BadTable_table => k_is)
    (case no_BadRow_row => k_is)
    (case no_BadForm_value => k_is)
    (case no_BadOp_value => k_is)
    (case no_BadPoly_value => k_is)
    (case no_BadText_line => k_is)
    (case no_BadText_column => k_is)
    (case no_TooMany_what => k_is)
    (case no_TooMany_many => k_is)
    (case no_TooMany_limit => k_is)
    (case no_Unlike_what => k_is)
    (case lk_BadNumber => k_is)
    (case rf_BadNumber => first | rfl | decide +kernel)
    (case sa_BadNumber => k_is)
    (case kc_BadNumber => k_is)
    (case lk_BadTable => k_is)
    (case rf_BadTable => first | rfl | decide +kernel)
    (case sa_BadTable => k_is)
    (case kc_BadTable => k_is)
    (case lk_BadRow => k_is)
    (case rf_BadRow => first | rfl | decide +kernel)
    (case sa_BadRow => k_is)
    (case kc_BadRow => k_is)
    (case a_BadNumber___init__ => k_is)
    (case t_BadNumber___init__ => k_is)
    (case l_BadNumber___init__ => k_is)
    (case c_BadNumber___init__ => k_is)
    (case k_BadNumber___init__ => k_is)
    (case a_BadRow___init__ => k_is)
    (case t_BadRow___init__ => k_is)
    (case l_BadRow___init__ => k_is)
    (case c_BadRow___init__ => k_is)
    (case k_BadRow___init__ => k_is)
    (case a_BadTable___init__ => k_is)
    (case t_BadTable___init__ => k_is)
    (case l_BadTable___init__ => k_is)
    (case c_BadTable___init__ => k_is)
    (case k_BadTable___init__ => k_is)
    (case a_is_whole => k_is)
    (case l_is_whole => k_is)
    (case c_is_whole => k_is)
    (case k_is_whole => k_is)
    (case a_in_tuples => k_is)
    (case l_in_tuples => k_is)
    (case c_in_tuples => k_is)
    (case k_in_tuples => k_is)
    (case a_is_tuple_of => k_is)
    (case l_is_tuple_of => k_is)
    (case c_is_tuple_of => k_is)
    (case k_is_tuple_of => k_is)
    (case a_need_between => k_is)
    (case l_need_between => k_is)
    (case c_need_between => k_is)
    (case k_need_between => k_is)
    (case a_are_counts => k_is)
    (case l_are_counts => k_is)
    (case c_are_counts => k_is)
    (case k_are_counts => k_is)
    (case a_covers => k_is)
    (case l_covers => k_is)
    (case c_covers => k_is)
    (case k_covers => k_is)
    (case a_are_corner_rows => k_is)
    (case l_are_corner_rows => k_is)
    (case c_are_corner_rows => k_is)
    (case k_are_corner_rows => k_is)
    (case a_corners_from => k_is)
    (case l_corners_from => k_is)
    (case c_corners_from => k_is)
    (case k_corners_from => k_is)
    (case a_least_rows => k_is)
    (case l_least_rows => k_is)
    (case c_least_rows => k_is)
    (case k_least_rows => k_is)
    (case a_least_corners => k_is)
    (case l_least_corners => k_is)
    (case c_least_corners => k_is)
    (case k_least_corners => k_is)
    (case a_open_by => k_is)
    (case l_open_by => k_is)
    (case c_open_by => k_is)
    (case k_open_by => k_is)
    (case a_derivative_from => k_is)
    (case l_derivative_from => k_is)
    (case c_derivative_from => k_is)
    (case k_derivative_from => k_is)
    (case a_open_at => k_is)
    (case l_open_at => k_is)
    (case c_open_at => k_is)
    (case k_open_at => k_is)
    (case a_order_rows => k_is)
    (case l_order_rows => k_is)
    (case c_order_rows => k_is)
    (case k_order_rows => k_is)
    (case a_open_derivatives => k_is)
    (case l_open_derivatives => k_is)
    (case c_open_derivatives => k_is)
    (case k_open_derivatives => k_is)
    (case a__law_pen => k_is)
    (case l__law_pen => k_is)
    (case c__law_pen => k_is)
    (case k__law_pen => k_is)
    (case a__law_draw => k_is)
    (case l__law_draw => k_is)
    (case c__law_draw => k_is)
    (case k__law_draw => k_is)
    (case a__law_pick => k_is)
    (case l__law_pick => k_is)
    (case c__law_pick => k_is)
    (case k__law_pick => k_is)
    (case a__law_passed => k_is)
    (case l__law_passed => k_is)
    (case c__law_passed => k_is)
    (case k__law_passed => k_is)
    (case a__law_all_counts => k_is)
    (case l__law_all_counts => k_is)
    (case c__law_all_counts => k_is)
    (case k__law_all_counts => k_is)
    (case a__law_fault => k_is)
    (case l__law_fault => k_is)
    (case c__law_fault => k_is)
    (case k__law_fault => k_is)
    (case a__law_are_due => k_is)
    (case l__law_are_due => k_is)
    (case c__law_are_due => k_is)
    (case k__law_are_due => k_is)
    (case a__law_is_under => k_is)
    (case l__law_is_under => k_is)
    (case c__law_is_under => k_is)
    (case k__law_is_under => k_is)
    (case a__law_is_open => k_is)
    (case l__law_is_open => k_is)
    (case c__law_is_open => k_is)
    (case k__law_is_open => k_is)
    (case a__law_antichain => k_is)
    (case l__law_antichain => k_is)
    (case c__law_antichain => k_is)
    (case k__law_antichain => k_is)
    (case a__law_corners => k_is)
    (case l__law_corners => k_is)
    (case c__law_corners => k_is)
    (case k__law_corners => k_is)
    (case a__law_heads_of => k_is)
    (case l__law_heads_of => k_is)
    (case c__law_heads_of => k_is)
    (case k__law_heads_of => k_is)
    (case a__law_open_list => k_is)
    (case l__law_open_list => k_is)
    (case c__law_open_list => k_is)
    (case k__law_open_list => k_is)
    (case a__law_handed_corners => k_is)
    (case l__law_handed_corners => k_is)
    (case c__law_handed_corners => k_is)
    (case k__law_handed_corners => k_is)
    (case a__law_case => k_is)
    (case l__law_case => k_is)
    (case c__law_case => k_is)
    (case k__law_case => k_is)
    (case a_law => k_is)
    (case l_law => k_is)
    (case c_law => k_is)
    (case k_law => k_is)
    (case lc_ => k_is)
    (case vv_ => first | rfl | decide +kernel)
    (case nt_ => first | rfl | decide +kernel)
    (case kc_MOST_LETTERS => k_is)
    (case kc_MOST_UNKNOWNS => k_is)
    (case kc_MOST_ORDER => k_is)
    (case z_all => k_is)
    (case z_any => k_is)
    (case z_bool => k_is)
    (case z_enumerate => k_is)
    (case z_int => k_is)
    (case z_isinstance => k_is)
    (case z_len => k_is)
    (case z_list => k_is)
    (case z_range => k_is)
    (case z_repr => k_is)
    (case z_set => k_is)
    (case z_sorted => k_is)
    (case z_sum => k_is)
    (case z_tuple => k_is)
    (case z_zip => k_is)
