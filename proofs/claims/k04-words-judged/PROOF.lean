import PyProof.Rows.All
import Wide.All
import OpenK.AllK
import Wide.FinOn
import HandS.ForMost
import HandS.Exc
import HandS.WordsExc
import HandS.Lambda
import HandS.TupAny
import HandS.IsInst
import HandS.SortInts
import HandS.Flow
import PyProof.WalksMore
import HandS.More
import HandS.ExcOwn
import HandS.CallSlots
import HandS.List
import HandS.TryMany
import HandS.ExcValue
import HandS.ExcIs
import HandS.ExcField
import HandS.ExcInit
import KE.KExcIs
import HandS.Nested
import HandS.EndTab
import KE.KNestM
import HandS.SetFor
import HandS.Conv
import PySem.Challenge.RW_neverlifted_k04_words_judged_row_by_row
set_option Elab.async false
set_option linter.all false
set_option maxRecDepth 100000
set_option maxHeartbeats 4000000
/-! MM0: values without addresses, and how they lie in the abstract heap. -/
namespace MM
open PySem PySem.Spec PyProof.Rows L2

/-- a value that never changes -/
inductive DV where
  | non | bl (b : Bool) | int (i : Int) | str (x : Str)
  | tup (xs : List DV) | lst (xs : List DV) | rol (xs : List DV)
  | dK (kvs : List (Key × DV)) | dT (kvs : List (List Key × DV))
  | ins (C : Str) (fs : List (Str × DV))
  | glo (x : Str) | ty (n : String)
  | exn (C : Str) (fs : List (Str × DV))
/-- a caught exception of the class cls stands at a, its dict at d -/
def caught (a : Addr) (cls : Value) (d : Option Addr) : HO := .ext fun h => ∃ (ob : Obj) (vs : Array Value), h.get? a = some ob ∧ Zc cls d ob ∧ ob.data = .fields vs
/-- a value of a running def: data, a cell of the store, a list or dict that nobody else knows -/
inductive UV where
  | d (x : DV) | ref (i : Nat)
  | tp (xs : List UV) | fl (xs : List UV) | own (xs : List UV) | odK (kvs : List (Key × UV)) | odT (kvs : List (List Key × UV))
  | clo (i : Nat) (caps : List UV)
/-- what a cell of the store holds -/
inductive Cel where
  | lst (xs : List UV) | obj (C : Str) (fs : List (Str × UV)) | dK (kvs : List (Key × UV)) | dT (kvs : List (List Key × UV))
  | tab (P : Addr) (q : Str)
abbrev HS := List Cel
structure Exn where
  cls : Str
  fs : List (Str × DV)
inductive MR (α : Type) where
  | ok (a : α) (h : HS) | err (e : Exn) (h : HS) | bad
/-- a lambda of the text: its own words, the names that it catches -/
structure CloI where
  params : Arguments
  body : Expr
  scope : Scope
  qual : Str
  caps : List Str
structure Cg where
  K : PySem.W.Frag
  mg : Str → Option Value
  ci : Nat → Option CloI
/-- the lambda's object at f -/
def LmO (f : Addr) (I : CloI) (cl : List (Str × Addr)) (c' : Addr) : HO := .ext fun h => ∃ pm ctv, h.get? f = some (PySem.W.kla_obj "<lambda>" I.qual I.params I.body I.scope cl pm c' ctv)
/-- a caught cell's object -/
def CelO (a : Addr) (o : Obj) : HO := .frz o (.own a)
/-- the cells that a lambda caught -/
structure CapA (Z : Addr → Prop) (H : Hp) (cl : List (Str × Addr)) (ys : List Str) (vs : List V) : Prop where
  len : vs.length = ys.length
  all : ∀ y a, cl.lookup y = some a → Z a ∧ ∃ o w, H a = some (CelO a o) ∧ o.data = .cell w
  inj : ∀ x y a, cl.lookup x = some a → cl.lookup y = some a → x = y
  has : ∀ (j : Nat) y v, ys[j]? = some y → vs[j]? = some v → ∃ a o u, cl.lookup y = some a ∧ H a = some (CelO a o) ∧ o.data = .cell (some u) ∧ RelV v u
theorem CapA.mono {Z Z' : Addr → Prop} {H H' : Hp} (hz : ∀ a, Z a → Z' a) (hk : ∀ a o, Z a → H a = some o → H' a = some o) {cl : List (Str × Addr)} {ys : List Str} {vs : List V} (h : CapA Z H cl ys vs) : CapA Z' H' cl ys vs :=
  ⟨h.len, fun y a e => let ⟨z, o, w, q, d⟩ := h.all y a e; ⟨hz a z, o, w, hk a _ z q, d⟩, h.inj, fun j y v e1 e2 => let ⟨a, o, u, q1, q2, q3⟩ := h.has j y v e1 e2; ⟨a, o, u, q1, hk a _ (h.all y a q1).1 q2, q3⟩⟩

def FzL (c : Cg) (Z : Addr → Prop) (H : Hp) (a : Addr) (xs : List V) : Prop := (Z a ∧ Rd H a (.lst xs)) ∨ ∀ H', SqL c.K H' a xs
def FzT (c : Cg) (Z : Addr → Prop) (H : Hp) (a : Addr) (xs : List V) : Prop := (Z a ∧ Rd H a (.tup xs)) ∨ ∀ H', SqT c.K H' a xs
theorem FzL.sq {c : Cg} {Z : Addr → Prop} {H : Hp} {a : Addr} {xs : List V} (h : FzL c Z H a xs) : SqL c.K H a xs := h.elim (fun h => .inl h.2) (fun h => h H)
theorem FzT.sq {c : Cg} {Z : Addr → Prop} {H : Hp} {a : Addr} {xs : List V} (h : FzT c Z H a xs) : SqT c.K H a xs := h.elim (fun h => .inl h.2) (fun h => h H)

section
variable (c : Cg) (Z : Addr → Prop) (H : Hp)
mutual
/-- frozen data in the heap -/
def RD : DV → V → Prop
  | .non, v => v = .non
  | .bl b, v => v = .bl b
  | .int i, v => v = .int i
  | .str x, v => v = .str x
  | .ty n, v => v = .ty n
  | .glo x, v => ∃ a, v = .ref a ∧ c.mg x = some (.ref a)
  | .tup xs, v => ∃ a vs, v = .ref a ∧ FzT c Z H a vs ∧ RDl xs vs
  | .lst xs, v => ∃ a vs, v = .ref a ∧ Z a ∧ H a = some (.lst vs) ∧ RDl xs vs
  | .rol xs, v => ∃ a vs, v = .ref a ∧ FzL c Z H a vs ∧ RDl xs vs
  | .dK kvs, v => ∃ a kws, v = .ref a ∧ Z a ∧ H a = some (.dK kws) ∧ RDk kvs kws
  | .dT kvs, v => ∃ a kws, v = .ref a ∧ Z a ∧ H a = some (.dT kws) ∧ RDt kvs kws
  | .ins C fs, v => ∃ a dx Ca gs, v = .ref a ∧ c.mg C = some (.ref Ca) ∧ Z a ∧ H a = some (.ins Ca dx gs) ∧ RDf fs gs
  | .exn C fs, v => ∃ a d Ca gs, v = .ref a ∧ c.mg C = some (.ref Ca) ∧ Z a ∧ H a = some (caught a (.ref Ca) (some d)) ∧ Z d ∧ H d = some (.xd gs) ∧ RDf fs gs
def RDl : List DV → List V → Prop
  | [], vs => vs = []
  | x :: xs, vs => ∃ v r, vs = v :: r ∧ RD x v ∧ RDl xs r
def RDk : List (Key × DV) → List (Key × V) → Prop
  | [], vs => vs = []
  | (k, x) :: xs, vs => ∃ v r, vs = (k, v) :: r ∧ RD x v ∧ RDk xs r
def RDt : List (List Key × DV) → List (List Key × V) → Prop
  | [], vs => vs = []
  | (k, x) :: xs, vs => ∃ v r, vs = (k, v) :: r ∧ RD x v ∧ RDt xs r
def RDf : List (Str × DV) → List (Str × V) → Prop
  | [], vs => vs = []
  | (k, x) :: xs, vs => ∃ v r, vs = (k, v) :: r ∧ RD x v ∧ RDf xs r
end
variable (ρ : List Addr)
mutual
/-- a value, and the addresses that it owns -/
def RU : UV → V → List Addr → Prop
  | .d x, v, F => F = [] ∧ RD c Z H x v
  | .ref i, v, F => F = [] ∧ ∃ a, ρ[i]? = some a ∧ v = .ref a
  | .tp xs, v, F => ∃ a vs, v = .ref a ∧ Z a ∧ Rd H a (.tup vs) ∧ RUl xs vs F
  | .fl xs, v, F => ∃ a vs, v = .ref a ∧ Z a ∧ H a = some (.lst vs) ∧ RUl xs vs F
  | .own xs, v, F => ∃ a vs G, v = .ref a ∧ H a = some (.lst vs) ∧ F = a :: G ∧ RUl xs vs G
  | .odK kvs, v, F => ∃ a kws G, v = .ref a ∧ H a = some (.dK kws) ∧ F = a :: G ∧ RUk kvs kws G
  | .odT kvs, v, F => ∃ a kws G, v = .ref a ∧ H a = some (.dT kws) ∧ F = a :: G ∧ RUt kvs kws G
  | .clo i caps, v, F => F = [] ∧ ∃ I f c' cl vs, c.ci i = some I ∧ v = .ref f ∧ Z f ∧ H f = some (LmO f I cl c') ∧ Z c' ∧ H c' = some (LamX.CodeO c' I.qual) ∧ CapA Z H cl I.caps vs ∧ RUl caps vs []
def RUl : List UV → List V → List Addr → Prop
  | [], vs, F => vs = [] ∧ F = []
  | x :: xs, vs, F => ∃ v r F1 F2, vs = v :: r ∧ F = F1 ++ F2 ∧ RU x v F1 ∧ RUl xs r F2
def RUk : List (Key × UV) → List (Key × V) → List Addr → Prop
  | [], vs, F => vs = [] ∧ F = []
  | (k, x) :: xs, vs, F => ∃ v r F1 F2, vs = (k, v) :: r ∧ F = F1 ++ F2 ∧ RU x v F1 ∧ RUk xs r F2
def RUt : List (List Key × UV) → List (List Key × V) → List Addr → Prop
  | [], vs, F => vs = [] ∧ F = []
  | (k, x) :: xs, vs, F => ∃ v r F1 F2, vs = (k, v) :: r ∧ F = F1 ++ F2 ∧ RU x v F1 ∧ RUt xs r F2
end
def RUf : List (Str × UV) → List (Str × V) → List Addr → Prop
  | [], vs, F => vs = [] ∧ F = []
  | (k, x) :: xs, vs, F => ∃ v r F1 F2, vs = (k, v) :: r ∧ F = F1 ++ F2 ∧ RU c Z H ρ x v F1 ∧ RUf xs r F2
end

theorem Rd.mono {H H' : Hp} {a : Addr} {u : HO} (hk : ∀ o, H a = some o → H' a = some o) (h : Rd H a u) : Rd H' a u := h.elim (fun h => .inl (hk _ h)) (fun ⟨o, h⟩ => .inr ⟨o, hk _ h⟩)
section
variable {c : Cg} {Z Z' : Addr → Prop} {H H' : Hp}
theorem FzL.mono (hz : ∀ a, Z a → Z' a) (hk : ∀ a o, Z a → H a = some o → H' a = some o) {a : Addr} {xs : List V} (h : FzL c Z H a xs) : FzL c Z' H' a xs :=
  h.elim (fun h => .inl ⟨hz a h.1, Rd.mono (hk a · h.1) h.2⟩) .inr
theorem FzT.mono (hz : ∀ a, Z a → Z' a) (hk : ∀ a o, Z a → H a = some o → H' a = some o) {a : Addr} {xs : List V} (h : FzT c Z H a xs) : FzT c Z' H' a xs :=
  h.elim (fun h => .inl ⟨hz a h.1, Rd.mono (hk a · h.1) h.2⟩) .inr
section
variable (hz : ∀ a, Z a → Z' a) (hk : ∀ a o, Z a → H a = some o → H' a = some o)
include hz hk
mutual
theorem RD.mono : ∀ {x : DV} {v : V}, RD c Z H x v → RD c Z' H' x v
  | .non, _, h => h
  | .bl _, _, h => h
  | .int _, _, h => h
  | .str _, _, h => h
  | .ty _, _, h => h
  | .glo _, _, h => h
  | .tup _, _, ⟨a, vs, e, f, r⟩ => ⟨a, vs, e, f.mono hz hk, RDl.mono r⟩
  | .lst _, _, ⟨a, vs, e, z, h, r⟩ => ⟨a, vs, e, hz _ z, hk _ _ z h, RDl.mono r⟩
  | .rol _, _, ⟨a, vs, e, f, r⟩ => ⟨a, vs, e, f.mono hz hk, RDl.mono r⟩
  | .dK _, _, ⟨a, vs, e, z, h, r⟩ => ⟨a, vs, e, hz _ z, hk _ _ z h, RDk.mono r⟩
  | .dT _, _, ⟨a, vs, e, z, h, r⟩ => ⟨a, vs, e, hz _ z, hk _ _ z h, RDt.mono r⟩
  | .ins _ _, _, ⟨a, dx, Ca, gs, e, m, z, h, r⟩ => ⟨a, dx, Ca, gs, e, m, hz _ z, hk _ _ z h, RDf.mono r⟩
  | .exn _ _, _, ⟨a, d, Ca, gs, e, m, z, h, z2, h2, r⟩ => ⟨a, d, Ca, gs, e, m, hz _ z, hk _ _ z h, hz _ z2, hk _ _ z2 h2, RDf.mono r⟩
theorem RDl.mono : ∀ {xs : List DV} {vs : List V}, RDl c Z H xs vs → RDl c Z' H' xs vs
  | [], _, h => h
  | _ :: _, _, ⟨v, r, e, h, t⟩ => ⟨v, r, e, RD.mono h, RDl.mono t⟩
theorem RDk.mono : ∀ {xs : List (Key × DV)} {vs : List (Key × V)}, RDk c Z H xs vs → RDk c Z' H' xs vs
  | [], _, h => h
  | (_, _) :: _, _, ⟨v, r, e, h, t⟩ => ⟨v, r, e, RD.mono h, RDk.mono t⟩
theorem RDt.mono : ∀ {xs : List (List Key × DV)} {vs : List (List Key × V)}, RDt c Z H xs vs → RDt c Z' H' xs vs
  | [], _, h => h
  | (_, _) :: _, _, ⟨v, r, e, h, t⟩ => ⟨v, r, e, RD.mono h, RDt.mono t⟩
theorem RDf.mono : ∀ {xs : List (Str × DV)} {vs : List (Str × V)}, RDf c Z H xs vs → RDf c Z' H' xs vs
  | [], _, h => h
  | (_, _) :: _, _, ⟨v, r, e, h, t⟩ => ⟨v, r, e, RD.mono h, RDf.mono t⟩
end
end
variable {ρ ρ' : List Addr}
section
variable (hr : ∀ (i : Nat) a, ρ[i]? = some a → ρ'[i]? = some a) (hz : ∀ a, Z a → Z' a) (hk : ∀ a o, Z a → H a = some o → H' a = some o)
include hr hz hk
mutual
theorem RU.mono : ∀ {x : UV} {v : V} {F : List Addr}, (∀ a ∈ F, ∀ o, H a = some o → H' a = some o) → RU c Z H ρ x v F → RU c Z' H' ρ' x v F
  | .d _, _, _, _, ⟨e, h⟩ => ⟨e, RD.mono hz hk h⟩
  | .ref _, _, _, _, ⟨e, a, h, q⟩ => ⟨e, a, hr _ _ h, q⟩
  | .tp _, _, _, f, ⟨a, vs, e, z, h, r⟩ => ⟨a, vs, e, hz _ z, Rd.mono (hk a · z) h, RUl.mono f r⟩
  | .fl _, _, _, f, ⟨a, vs, e, z, h, r⟩ => ⟨a, vs, e, hz _ z, hk _ _ z h, RUl.mono f r⟩
  | .own _, _, _, f, ⟨a, vs, G, e, h, eF, r⟩ => ⟨a, vs, G, e, f a (by rw [eF]; exact List.mem_cons_self) _ h, eF, RUl.mono (fun b hb => f b (by rw [eF]; exact List.mem_cons_of_mem _ hb)) r⟩
  | .odK _, _, _, f, ⟨a, vs, G, e, h, eF, r⟩ => ⟨a, vs, G, e, f a (by rw [eF]; exact List.mem_cons_self) _ h, eF, RUk.mono (fun b hb => f b (by rw [eF]; exact List.mem_cons_of_mem _ hb)) r⟩
  | .odT _, _, _, f, ⟨a, vs, G, e, h, eF, r⟩ => ⟨a, vs, G, e, f a (by rw [eF]; exact List.mem_cons_self) _ h, eF, RUt.mono (fun b hb => f b (by rw [eF]; exact List.mem_cons_of_mem _ hb)) r⟩
  | .clo _ _, _, _, _, ⟨e, I, f, c', cl, vs, h1, h2, h3, h4, h5, h6, h7, r⟩ => ⟨e, I, f, c', cl, vs, h1, h2, hz _ h3, hk _ _ h3 h4, hz _ h5, hk _ _ h5 h6, h7.mono hz hk, RUl.mono (fun _ z => absurd z (by simp)) r⟩
theorem RUl.mono : ∀ {xs : List UV} {vs : List V} {F : List Addr}, (∀ a ∈ F, ∀ o, H a = some o → H' a = some o) → RUl c Z H ρ xs vs F → RUl c Z' H' ρ' xs vs F
  | [], _, _, _, h => h
  | _ :: _, _, _, f, ⟨v, r, F1, F2, e, eF, h, t⟩ => ⟨v, r, F1, F2, e, eF, RU.mono (fun b hb => f b (by rw [eF]; exact List.mem_append_left _ hb)) h, RUl.mono (fun b hb => f b (by rw [eF]; exact List.mem_append_right _ hb)) t⟩
theorem RUk.mono : ∀ {xs : List (Key × UV)} {vs : List (Key × V)} {F : List Addr}, (∀ a ∈ F, ∀ o, H a = some o → H' a = some o) → RUk c Z H ρ xs vs F → RUk c Z' H' ρ' xs vs F
  | [], _, _, _, h => h
  | (_, _) :: _, _, _, f, ⟨v, r, F1, F2, e, eF, h, t⟩ => ⟨v, r, F1, F2, e, eF, RU.mono (fun b hb => f b (by rw [eF]; exact List.mem_append_left _ hb)) h, RUk.mono (fun b hb => f b (by rw [eF]; exact List.mem_append_right _ hb)) t⟩
theorem RUt.mono : ∀ {xs : List (List Key × UV)} {vs : List (List Key × V)} {F : List Addr}, (∀ a ∈ F, ∀ o, H a = some o → H' a = some o) → RUt c Z H ρ xs vs F → RUt c Z' H' ρ' xs vs F
  | [], _, _, _, h => h
  | (_, _) :: _, _, _, f, ⟨v, r, F1, F2, e, eF, h, t⟩ => ⟨v, r, F1, F2, e, eF, RU.mono (fun b hb => f b (by rw [eF]; exact List.mem_append_left _ hb)) h, RUt.mono (fun b hb => f b (by rw [eF]; exact List.mem_append_right _ hb)) t⟩
end
theorem RUf.mono : ∀ {xs : List (Str × UV)} {vs : List (Str × V)} {F : List Addr}, (∀ a ∈ F, ∀ o, H a = some o → H' a = some o) → RUf c Z H ρ xs vs F → RUf c Z' H' ρ' xs vs F
  | [], _, _, _, h => h
  | (_, _) :: _, _, _, f, ⟨v, r, F1, F2, e, eF, h, t⟩ => ⟨v, r, F1, F2, e, eF, RU.mono hr hz hk (fun b hb => f b (by rw [eF]; exact List.mem_append_left _ hb)) h, RUf.mono (fun b hb => f b (by rw [eF]; exact List.mem_append_right _ hb)) t⟩
end
end

/-! ### the slots, the store -/
/-- a cell at its address -/
def RC (c : Cg) (Z : Addr → Prop) (H : Hp) (ρ : List Addr) : Cel → Addr → List Addr → Prop
  | .lst xs, a, F => ∃ vs G, H a = some (.lst vs) ∧ F = a :: G ∧ RUl c Z H ρ xs vs G
  | .dK kvs, a, F => ∃ kws G, H a = some (.dK kws) ∧ F = a :: G ∧ RUk c Z H ρ kvs kws G
  | .dT kvs, a, F => ∃ kws G, H a = some (.dT kws) ∧ F = a :: G ∧ RUt c Z H ρ kvs kws G
  | .obj C fs, a, F => ∃ Ca dx gs G, c.mg C = some (.ref Ca) ∧ H a = some (.ins Ca dx gs) ∧ F = a :: G ∧ RUf c Z H ρ fs gs G
  | .tab P q, a, F => a = P ∧ F = [P] ∧ ∃ ps : Array Value, H P = some (.tbl ps) ∧ TriplesOk ps.toList ∧ ∀ (pos : Pos) (cv : Value), codeAmong pos ps.toList = some cv → ∃ c', cv = .ref c' ∧ Z c' ∧ H c' = some (LamX.CodeO c' q)
/-- the store h at the addresses l; ρ the whole list -/
def RHl (c : Cg) (Z : Addr → Prop) (H : Hp) (ρ : List Addr) : HS → List Addr → List Addr → Prop
  | [], l, F => l = [] ∧ F = []
  | x :: h, l, F => ∃ a r F1 F2, l = a :: r ∧ F = F1 ++ F2 ∧ RC c Z H ρ x a F1 ∧ RHl c Z H ρ h r F2
abbrev RH (c : Cg) (Z : Addr → Prop) (H : Hp) (ρ : List Addr) (h : HS) (F : List Addr) : Prop := RHl c Z H ρ h ρ F
abbrev SL := List (Option UV)
def RS (c : Cg) (Z : Addr → Prop) (H : Hp) (ρ : List Addr) : SL → L2.St → List Addr → Prop
  | [], l, F => l = [] ∧ F = []
  | none :: s, l, F => ∃ o r, l = o :: r ∧ RS c Z H ρ s r F
  | some x :: s, l, F => ∃ v r F1 F2, l = some v :: r ∧ F = F1 ++ F2 ∧ RU c Z H ρ x v F1 ∧ RS c Z H ρ s r F2
section
variable {c : Cg} {Z Z' : Addr → Prop} {H H' : Hp} {ρ ρ' : List Addr}
variable (hr : ∀ (i : Nat) a, ρ[i]? = some a → ρ'[i]? = some a) (hz : ∀ a, Z a → Z' a) (hk : ∀ a o, Z a → H a = some o → H' a = some o)
include hr hz hk
theorem RS.mono : ∀ {s : SL} {l : L2.St} {F : List Addr}, (∀ a ∈ F, ∀ o, H a = some o → H' a = some o) → RS c Z H ρ s l F → RS c Z' H' ρ' s l F
  | [], _, _, _, h => h
  | none :: _, _, _, f, ⟨o, r, e, t⟩ => ⟨o, r, e, RS.mono f t⟩
  | some _ :: _, _, _, f, ⟨v, r, F1, F2, e, eF, h, t⟩ => ⟨v, r, F1, F2, e, eF, RU.mono hr hz hk (fun b hb => f b (by rw [eF]; exact List.mem_append_left _ hb)) h, RS.mono (fun b hb => f b (by rw [eF]; exact List.mem_append_right _ hb)) t⟩
theorem RC.mono : ∀ {x : Cel} {a : Addr} {F : List Addr}, (∀ a ∈ F, ∀ o, H a = some o → H' a = some o) → RC c Z H ρ x a F → RC c Z' H' ρ' x a F
  | .lst _, _, _, f, ⟨vs, G, h, e, r⟩ => ⟨vs, G, f _ (by rw [e]; exact List.mem_cons_self) _ h, e, RUl.mono hr hz hk (fun b hb => f b (by rw [e]; exact List.mem_cons_of_mem _ hb)) r⟩
  | .dK _, _, _, f, ⟨vs, G, h, e, r⟩ => ⟨vs, G, f _ (by rw [e]; exact List.mem_cons_self) _ h, e, RUk.mono hr hz hk (fun b hb => f b (by rw [e]; exact List.mem_cons_of_mem _ hb)) r⟩
  | .dT _, _, _, f, ⟨vs, G, h, e, r⟩ => ⟨vs, G, f _ (by rw [e]; exact List.mem_cons_self) _ h, e, RUt.mono hr hz hk (fun b hb => f b (by rw [e]; exact List.mem_cons_of_mem _ hb)) r⟩
  | .obj _ _, _, _, f, ⟨Ca, dx, gs, G, m, h, e, r⟩ => ⟨Ca, dx, gs, G, m, f _ (by rw [e]; exact List.mem_cons_self) _ h, e, RUf.mono hr hz hk (fun b hb => f b (by rw [e]; exact List.mem_cons_of_mem _ hb)) r⟩
  | .tab _ _, _, _, f, ⟨e, eF, ps, h, t, r⟩ => ⟨e, eF, ps, f _ (by rw [eF]; exact List.mem_cons_self) _ h, t, fun pos cv q => let ⟨c', e1, e2, e3⟩ := r pos cv q; ⟨c', e1, hz _ e2, hk _ _ e2 e3⟩⟩
theorem RHl.mono : ∀ {x : HS} {l : List Addr} {F : List Addr}, (∀ a ∈ F, ∀ o, H a = some o → H' a = some o) → RHl c Z H ρ x l F → RHl c Z' H' ρ' x l F
  | [], _, _, _, h => h
  | _ :: _, _, _, f, ⟨v, r, F1, F2, e, eF, h, t⟩ => ⟨v, r, F1, F2, e, eF, RC.mono hr hz hk (fun b hb => f b (by rw [eF]; exact List.mem_append_left _ hb)) h, RHl.mono (fun b hb => f b (by rw [eF]; exact List.mem_append_right _ hb)) t⟩
end

/-! ### the world: cells' addresses, what is frozen, what may change -/
structure Wd where
  ρ : List Addr
  Z : Addr → Prop
  F : List Addr
structure WOk (w : Wd) (H : Hp) : Prop where
  nd : w.F.Nodup
  sep : ∀ a ∈ w.F, ¬ w.Z a
  trF : ∀ a ∈ w.F, H a ≠ none
  trZ : ∀ a, w.Z a → H a ≠ none
structure Ext (w : Wd) (H : Hp) (w' : Wd) (H' : Hp) : Prop where
  rho : ∀ (i : Nat) a, w.ρ[i]? = some a → w'.ρ[i]? = some a
  z : ∀ a, w.Z a → w'.Z a
  keep : ∀ a o, H a = some o → a ∉ w.F → H' a = some o
  new : ∀ a, w'.Z a ∨ a ∈ w'.F → w.Z a ∨ a ∈ w.F ∨ H a = none
  there : ∀ a, H a ≠ none → H' a ≠ none
theorem Ext.refl {w : Wd} {H : Hp} : Ext w H w H := ⟨fun _ _ h => h, fun _ h => h, fun _ _ h _ => h, fun _ h => h.elim .inl fun h => .inr (.inl h), fun _ h => h⟩
theorem Ext.trans {w w1 w2 : Wd} {H H1 H2 : Hp} (a : Ext w H w1 H1) (ok : WOk w1 H1) (b : Ext w1 H1 w2 H2) : Ext w H w2 H2 where
  rho := fun i x h => b.rho i x (a.rho i x h)
  z := fun x h => b.z x (a.z x h)
  keep := fun x o h n => b.keep x o (a.keep x o h n) fun hf => by
    rcases a.new x (.inr hf) with z | z | z
    · exact ok.sep x hf (a.z x z)
    · exact n z
    · rw [h] at z; cases z
  new := fun x h => by
    rcases b.new x h with z | z | z
    · exact a.new x (.inl z)
    · exact a.new x (.inr z)
    · by_cases q : H x = none
      · exact .inr (.inr q)
      · exact absurd z (a.there x q)
  there := fun x h => b.there x (a.there x h)
/-- less may change in the end -/
theorem Ext.less {w : Wd} {H H' : Hp} {ρ' : List Addr} {Z' : Addr → Prop} {F' F'' : List Addr} (a : Ext w H ⟨ρ', Z', F'⟩ H') (h : ∀ x ∈ F'', x ∈ F') : Ext w H ⟨ρ', Z', F''⟩ H' :=
  ⟨a.rho, a.z, a.keep, fun x hx => a.new x (hx.elim .inl fun q => .inr (h x q)), a.there⟩
theorem WOk.less {H : Hp} {ρ : List Addr} {Z : Addr → Prop} {F F' : List Addr} (a : WOk ⟨ρ, Z, F⟩ H) (h : F'.Sublist F) : WOk ⟨ρ, Z, F'⟩ H :=
  ⟨a.nd.sublist h, fun x hx => a.sep x (h.subset hx), fun x hx => a.trF x (h.subset hx), a.trZ⟩
/-- more may have changed from the start -/
theorem Ext.more {H H' : Hp} {ρ : List Addr} {Z : Addr → Prop} {F F' : List Addr} {ρ' : List Addr} {Z' : Addr → Prop} (a : Ext ⟨ρ, Z, F⟩ H ⟨ρ', Z', F'⟩ H') (G : List Addr) : Ext ⟨ρ, Z, G ++ F⟩ H ⟨ρ', Z', G ++ F'⟩ H' :=
  ⟨a.rho, a.z, fun x o h n => a.keep x o h fun q => n (List.mem_append_right _ q), fun x hx => by
    rcases hx with q | q
    · rcases a.new x (.inl q) with z | z | z
      · exact .inl z
      · exact .inr (.inl (List.mem_append_right _ z))
      · exact .inr (.inr z)
    · rcases List.mem_append.mp q with q | q
      · exact .inr (.inl (List.mem_append_left _ q))
      · rcases a.new x (.inr q) with z | z | z
        · exact .inl z
        · exact .inr (.inl (List.mem_append_right _ z))
        · exact .inr (.inr z), a.there⟩
/-- what stands aside stays well apart -/
theorem WOk.aside {ρ ρ' : List Addr} {Z Z' : Addr → Prop} {F F' G : List Addr} {H H' : Hp} (ok : WOk ⟨ρ, Z, G ++ F⟩ H) (a : Ext ⟨ρ, Z, F⟩ H ⟨ρ', Z', F'⟩ H') (ok' : WOk ⟨ρ', Z', F'⟩ H') : WOk ⟨ρ', Z', G ++ F'⟩ H' := by
  have nd := List.nodup_append.mp ok.nd
  have notIn : ∀ x ∈ G, ¬ (Z' x ∨ x ∈ F') := fun x hx q => by
    rcases a.new x q with z | z | z
    · exact ok.sep x (List.mem_append_left _ hx) z
    · exact nd.2.2 x hx x z rfl
    · exact ok.trF x (List.mem_append_left _ hx) z
  refine ⟨List.nodup_append.mpr ⟨nd.1, ok'.nd, fun x hx y hy e => notIn x hx (.inr (e ▸ hy))⟩, fun x hx => ?_, fun x hx => ?_, ok'.trZ⟩
  · rcases List.mem_append.mp hx with q | q
    · exact fun z => notIn x q (.inl z)
    · exact ok'.sep x q
  · rcases List.mem_append.mp hx with q | q
    · exact a.there x (ok.trF x (List.mem_append_left _ q))
    · exact ok'.trF x q
theorem aside_kept {ρ ρ' : List Addr} {Z Z' : Addr → Prop} {F F' G : List Addr} {H H' : Hp} (ok : WOk ⟨ρ, Z, G ++ F⟩ H) (a : Ext ⟨ρ, Z, F⟩ H ⟨ρ', Z', F'⟩ H') : ∀ x ∈ G, ∀ o, H x = some o → H' x = some o := fun x hx o h =>
  a.keep x o h fun q => (List.nodup_append.mp ok.nd).2.2 x hx x q rfl
theorem frozen_kept {w w' : Wd} {H H' : Hp} (ok : WOk w H) (a : Ext w H w' H') : ∀ x o, w.Z x → H x = some o → H' x = some o := fun x o z h => a.keep x o h fun q => ok.sep x q z
end MM

/-! MM1: the judgements: an expression is worth what a function of slots and store gives. -/
namespace MM
open PySem PySem.Spec PyProof.Rows L2

structure Sta (c : Cg) (w : Wd) (Fs : List Addr) (σd : SL) (hd : HS) (σ : L2.St) (H : Hp) : Prop where
  s : RS c w.Z H w.ρ σd σ Fs
  h : RH c w.Z H w.ρ hd w.F
  ok : WOk ⟨w.ρ, w.Z, Fs ++ w.F⟩ H
/-- an exception of a class of the module, its fields -/
def RX (c : Cg) (Z : Addr → Prop) (H : Hp) (e : Exn) (cls : Value) (dx : Option Addr) : Prop :=
  ∃ Ca d gs, cls = .ref Ca ∧ c.mg e.cls = some (.ref Ca) ∧ dx = some d ∧ Z d ∧ H d = some (.xd gs) ∧ RDf c Z H e.fs gs

theorem WOk.right {ρ : List Addr} {Z : Addr → Prop} {F G : List Addr} {H : Hp} (ok : WOk ⟨ρ, Z, G ++ F⟩ H) : WOk ⟨ρ, Z, F⟩ H := ok.less (List.sublist_append_right _ _)
theorem WOk.left {ρ : List Addr} {Z : Addr → Prop} {F G : List Addr} {H : Hp} (ok : WOk ⟨ρ, Z, G ++ F⟩ H) : WOk ⟨ρ, Z, G⟩ H := ok.less (List.sublist_append_left _ _)
theorem Sta.wok {c : Cg} {w : Wd} {Fs : List Addr} {σd : SL} {hd : HS} {σ : L2.St} {H : Hp} (S : Sta c w Fs σd hd σ H) : WOk w H := S.ok.right
/-- behind an expression -/
theorem Sta.ext {c : Cg} {w w' : Wd} {Fs : List Addr} {σd : SL} {hd hd' : HS} {σ : L2.St} {H H' : Hp} (S : Sta c w Fs σd hd σ H) (e : Ext w H w' H') (ok : WOk w' H') (h : RH c w'.Z H' w'.ρ hd' w'.F) : Sta c w' Fs σd hd' σ H' :=
  ⟨S.s.mono e.rho e.z (frozen_kept S.wok e) (aside_kept S.ok e), h, S.ok.aside e ok⟩

inductive Md where | E | B | C
/-- what a result's own addresses are: fresh; not the store's; any -/
def MdOk (m : Md) (w : Wd) (H : Hp) (w' : Wd) (H' : Hp) (Fv : List Addr) : Prop :=
  match m with
  | .E => Ext w H ⟨w'.ρ, w'.Z, w'.F ++ Fv⟩ H' ∧ WOk ⟨w'.ρ, w'.Z, w'.F ++ Fv⟩ H'
  | .B => Ext w H w' H' ∧ WOk w' H' ∧ ∀ a ∈ Fv, a ∉ w'.F ∧ ¬ w'.Z a ∧ H' a ≠ none
  | .C => Ext w H w' H' ∧ WOk w' H'
theorem MdOk.ext {m : Md} {w w' : Wd} {H H' : Hp} {Fv : List Addr} (h : MdOk m w H w' H' Fv) : Ext w H w' H' ∧ WOk w' H' := by
  cases m with
  | E => exact ⟨h.1.less (F'' := w'.F) fun x hx => List.mem_append_left _ hx, WOk.left h.2⟩
  | B => exact ⟨h.1, h.2.1⟩
  | C => exact h
theorem MdOk.EB {w w' : Wd} {H H' : Hp} {Fv : List Addr} (h : MdOk .E w H w' H' Fv) : MdOk .B w H w' H' Fv :=
  ⟨h.ext.1, h.ext.2, fun a ha => ⟨fun q => (List.nodup_append.mp h.2.nd).2.2 a q a ha rfl, h.2.sep a (List.mem_append_right _ ha), h.2.trF a (List.mem_append_right _ ha)⟩⟩
theorem MdOk.toC {m : Md} {w w' : Wd} {H H' : Hp} {Fv : List Addr} (h : MdOk m w H w' H' Fv) : MdOk .C w H w' H' Fv := h.ext
theorem MdOk.trans {m : Md} {w w1 w' : Wd} {H H1 H' : Hp} {Fv : List Addr} (e : Ext w H w1 H1) (ok : WOk w1 H1) (h : MdOk m w1 H1 w' H' Fv) : MdOk m w H w' H' Fv := by
  cases m with
  | E => exact ⟨e.trans ok h.1, h.2⟩
  | B => exact ⟨e.trans ok h.1, h.2⟩
  | C => exact ⟨e.trans ok h.1, h.2⟩

/-- nothing that stood is changed (where that is asked) -/
def Pu (pu : Bool) (H H' : Hp) : Prop := pu = true → ∀ a o, H a = some o → H' a = some o
theorem Pu.refl {pu : Bool} {H : Hp} : Pu pu H H := fun _ _ _ h => h
theorem Pu.trans {pu : Bool} {H H1 H2 : Hp} (a : Pu pu H H1) (b : Pu pu H1 H2) : Pu pu H H2 := fun p x o h => b p x o (a p x o h)
theorem Pu.no {H H' : Hp} : Pu false H H' := fun h => by cases h
/-- what is wanted behind an expression -/
def EPo (pu : Bool) (md : Md) (c : Cg) (W : WX) (σ : L2.St) (w : Wd) (H : Hp) (Q : VK) : MR UV → Prop
  | .ok u h' => ∀ (w' : Wd) (H' : Hp) (v : V) (Fv : List Addr), MdOk md w H w' H' Fv → Pu pu H H' → RH c w'.Z H' w'.ρ h' w'.F → RU c w'.Z H' w'.ρ u v Fv → Q v H'
  | .err e h' => ∀ (w' : Wd) (H' : Hp) (cls : Value) (dx : Option Addr), Ext w H w' H' → WOk w' H' → RH c w'.Z H' w'.ρ h' w'.F → RX c w'.Z H' e cls dx → W cls dx σ H'
  | .bad => False
abbrev ME := SL → HS → MR UV
def tV (pu : Bool) (md : Md) (c : Cg) (W : WX) (m : ME) : TE := fun σ H Q => ∃ w Fs σd hd, Sta c w Fs σd hd σ H ∧ EPo pu md c W σ w H Q (m σd hd)
theorem EPo.shift {pu : Bool} {md : Md} {c : Cg} {W : WX} {σ : L2.St} {w w1 : Wd} {H H1 : Hp} {Q : VK} {r : MR UV} (e : Ext w H w1 H1) (ok : WOk w1 H1) (pq : Pu pu H H1) (h : EPo pu md c W σ w H Q r) : EPo pu md c W σ w1 H1 Q r := by
  cases r with
  | ok u h' => exact fun w' H' v Fv m pp rh ru => h w' H' v Fv (m.trans e ok) (pq.trans pp) rh ru
  | err x h' => exact fun w' H' cls dx e' ok' rh rx => h w' H' cls dx (e.trans ok e') ok' rh rx
  | bad => exact h
theorem PE.imp {X : Cx} {e : Expr} {t t' : TE} (h : PE X e t) (i : ∀ σ H Q, t' σ H Q → t σ H Q) : PE X e t' := ⟨fun pins s σ H Q I q => h.run pins s σ H Q I (i σ H Q q)⟩
theorem PT.imp {X : Cx} {e : Expr} {t t' : TT} (h : PT X e t) (i : ∀ σ H Q, t' σ H Q → t σ H Q) : PT X e t' := ⟨fun pins s σ H Q I q => h.run pins s σ H Q I (i σ H Q q)⟩
theorem PS.imp {X : Cx} {e : Stmt} {t t' : TS} (h : PS X e t) (i : ∀ D σ H, t' D σ H → t D σ H) : PS X e t' := ⟨fun pins s σ H Q I q => h.run pins s σ H Q I (i Q σ H q)⟩
theorem PSs.imp {X : Cx} {e : List Stmt} {t t' : TS} (h : PSs X e t) (i : ∀ D σ H, t' D σ H → t D σ H) : PSs X e t' := ⟨fun pins s σ H Q I q => h.run pins s σ H Q I (i Q σ H q)⟩
theorem eB {pu : Bool} {X : Cx} {e : Expr} {c : Cg} {W : WX} {m : ME} (h : PE X e (tV pu .E c W m)) : PE X e (tV pu .B c W m) := PE.imp h fun σ H Q ⟨w, Fs, σd, hd, S, p⟩ => ⟨w, Fs, σd, hd, S, by
  revert p
  cases m σd hd with
  | ok u h' => exact fun p w' H' v Fv md pp rh ru => p w' H' v Fv md.EB pp rh ru
  | err x h' => exact id
  | bad => exact id⟩
theorem bC {pu : Bool} {md : Md} {X : Cx} {e : Expr} {c : Cg} {W : WX} {m : ME} (h : PE X e (tV pu md c W m)) : PE X e (tV pu .C c W m) := PE.imp h fun σ H Q ⟨w, Fs, σd, hd, S, p⟩ => ⟨w, Fs, σd, hd, S, by
  revert p
  cases m σd hd with
  | ok u h' => exact fun p w' H' v Fv md pp rh ru => p w' H' v Fv md.toC pp rh ru
  | err x h' => exact id
  | bad => exact id⟩

def bindM {α β : Type} (m : MR α) (f : α → HS → MR β) : MR β := match m with
  | .ok a h => f a h
  | .err e h => .err e h
  | .bad => .bad
@[simp] theorem bindM_ok {α β : Type} (a : α) (h : HS) (f : α → HS → MR β) : bindM (.ok a h) f = f a h := rfl
@[simp] theorem bindM_err {α β : Type} (e : Exn) (h : HS) (f : α → HS → MR β) : bindM (.err e h) f = .err e h := rfl
@[simp] theorem bindM_bad {α β : Type} (f : α → HS → MR β) : bindM .bad f = .bad := rfl
def ofO {α : Type} (o : Option α) (h : HS) : MR α := match o with
  | some a => .ok a h
  | none => .bad
@[simp] theorem ofO_some {α : Type} (a : α) (h : HS) : ofO (some a) h = .ok a h := rfl
@[simp] theorem ofO_none {α : Type} (h : HS) : ofO (none : Option α) h = .bad := rfl
/-- one expression, then the rest -/
theorem step1 {pu : Bool} {md : Md} {md' : Md} {c : Cg} {W : WX} {m : ME} {f : UV → HS → MR UV} {σ : L2.St} {H : Hp} {w : Wd} {Fs : List Addr} {σd : SL} {hd : HS} {Q : VK} {R : VK} (S : Sta c w Fs σd hd σ H)
    (p : EPo pu md' c W σ w H Q (bindM (m σd hd) f))
    (k : ∀ (u : UV) (h1 : HS) (w1 : Wd) (H1 : Hp) (x : V) (Fx : List Addr), Sta c w1 Fs σd h1 σ H1 → MdOk md w H w1 H1 Fx → RU c w1.Z H1 w1.ρ u x Fx → EPo pu md' c W σ w1 H1 Q (f u h1) → R x H1) : tV pu md c W m σ H R := by
  refine ⟨w, Fs, σd, hd, S, ?_⟩
  revert p
  cases m σd hd with
  | ok u h' => exact fun p w' H' v Fv mo pp rh ru => k u h' w' H' v Fv (S.ext mo.ext.1 mo.ext.2 rh) mo ru (EPo.shift mo.ext.1 mo.ext.2 pp p)
  | err x h' => exact fun p => p
  | bad => exact fun p => p
/-- a borrowed value stands through what follows -/
theorem RU.after {c : Cg} {w w' : Wd} {H H' : Hp} {u : UV} {x : V} {Fx : List Addr} (h : RU c w.Z H w.ρ u x Fx) (ok : WOk w H) (hb : ∀ a ∈ Fx, a ∉ w.F) (e : Ext w H w' H') : RU c w'.Z H' w'.ρ u x Fx :=
  h.mono e.rho e.z (frozen_kept ok e) fun a ha o ho => e.keep a o ho (hb a ha)
end MM

/-! MM2: operators, names, items, built-in calls. -/
namespace MM
open PySem PySem.Spec PyProof.Rows L2

section
variable {c : Cg} {Z : Addr → Prop} {H : Hp} {ρ : List Addr}
theorem RDl.up : ∀ {xs : List DV} {vs : List V}, RDl c Z H xs vs → RUl c Z H ρ (xs.map .d) vs []
  | [], _, h => ⟨h, rfl⟩
  | _ :: _, _, ⟨v, r, e, h, t⟩ => ⟨v, r, [], [], e, rfl, ⟨rfl, h⟩, RDl.up t⟩
theorem RUl.length : ∀ {xs : List UV} {vs : List V} {F : List Addr}, RUl c Z H ρ xs vs F → vs.length = xs.length
  | [], _, _, h => by rw [h.1]; rfl
  | _ :: _, _, _, ⟨v, r, _, _, e, _, _, t⟩ => by rw [e, List.length_cons, List.length_cons, t.length]
theorem RUl.get : ∀ {xs : List UV} {vs : List V} {F : List Addr} {i : Nat} {u : UV}, RUl c Z H ρ xs vs F → xs[i]? = some u → ∃ v G, vs[i]? = some v ∧ RU c Z H ρ u v G ∧ ∀ a ∈ G, a ∈ F
  | [], _, _, _, _, _, h => by simp at h
  | x :: xs, _, _, 0, u, ⟨v, r, F1, F2, e, eF, h, t⟩, q => by
    have q' : x = u := by simpa using q
    subst q'
    exact ⟨v, F1, by rw [e]; rfl, h, fun a ha => by rw [eF]; exact List.mem_append_left _ ha⟩
  | x :: xs, _, _, i + 1, u, ⟨v, r, F1, F2, e, eF, h, t⟩, q => by
    obtain ⟨v', G, e', h', s⟩ := RUl.get (i := i) t (by simpa using q)
    exact ⟨v', G, by rw [e]; simpa using e', h', fun a ha => by rw [eF]; exact List.mem_append_right _ (s a ha)⟩
theorem RS.get : ∀ {s : SL} {l : L2.St} {F : List Addr} {i : Nat} {u : UV}, RS c Z H ρ s l F → s[i]? = some (some u) → ∃ v G, l[i]? = some (some v) ∧ RU c Z H ρ u v G ∧ ∀ a ∈ G, a ∈ F
  | [], _, _, _, _, _, h => by simp at h
  | none :: s, _, _, 0, u, _, q => by simp at q
  | none :: s, _, _, i + 1, u, ⟨o, r, e, t⟩, q => by
    obtain ⟨v', G, e', h', s⟩ := RS.get (i := i) t (by simpa using q)
    exact ⟨v', G, by rw [e]; simpa using e', h', s⟩
  | some x :: s, _, _, 0, u, ⟨v, r, F1, F2, e, eF, h, t⟩, q => by
    have q' : x = u := by simpa using q
    subst q'
    exact ⟨v, F1, by rw [e]; rfl, h, fun a ha => by rw [eF]; exact List.mem_append_left _ ha⟩
  | some x :: s, _, _, i + 1, u, ⟨v, r, F1, F2, e, eF, h, t⟩, q => by
    obtain ⟨v', G, e', h', s⟩ := RS.get (i := i) t (by simpa using q)
    exact ⟨v', G, by rw [e]; simpa using e', h', fun a ha => by rw [eF]; exact List.mem_append_right _ (s a ha)⟩
theorem RHl.get : ∀ {h : HS} {l : List Addr} {F : List Addr} {i : Nat} {x : Cel}, RHl c Z H ρ h l F → h[i]? = some x → ∃ a G, l[i]? = some a ∧ RC c Z H ρ x a G ∧ ∀ a ∈ G, a ∈ F
  | [], _, _, _, _, _, q => by simp at q
  | x :: s, _, _, 0, u, ⟨v, r, F1, F2, e, eF, h, t⟩, q => by
    have q' : x = u := by simpa using q
    subst q'
    exact ⟨v, F1, by rw [e]; rfl, h, fun a ha => by rw [eF]; exact List.mem_append_left _ ha⟩
  | x :: s, _, _, i + 1, u, ⟨v, r, F1, F2, e, eF, h, t⟩, q => by
    obtain ⟨v', G, e', h', s⟩ := RHl.get (i := i) t (by simpa using q)
    exact ⟨v', G, by rw [e]; simpa using e', h', fun a ha => by rw [eF]; exact List.mem_append_right _ (s a ha)⟩
end

/-! ### views -/
def asL (h : HS) : UV → Option (List UV)
  | .d (.lst xs) => some (xs.map .d)
  | .d (.rol xs) => some (xs.map .d)
  | .own xs => some xs
  | .fl xs => some xs
  | .ref i => match h[i]? with
    | some (.lst xs) => some xs
    | _ => none
  | _ => none
/-- a list that is not locked -/
def asM (h : HS) : UV → Option (List UV)
  | .d (.rol _) => none
  | u => asL h u
def asT : UV → Option (List UV)
  | .d (.tup xs) => some (xs.map .d)
  | .tp xs => some xs
  | _ => none
section
variable {c : Cg} {w : Wd} {H : Hp} {h : HS} {u : UV} {v : V} {Fu : List Addr} {xs : List UV}
theorem asM_ok (hh : RH c w.Z H w.ρ h w.F) (r : RU c w.Z H w.ρ u v Fu) (e : asM h u = some xs) : ∃ a vs G, v = .ref a ∧ H a = some (.lst vs) ∧ RUl c w.Z H w.ρ xs vs G ∧ ∀ b ∈ G, b ∈ Fu ∨ b ∈ w.F := by
  cases u with
  | d x =>
    cases x with
    | lst ys =>
      obtain ⟨_, a, vs, e1, _, e2, t⟩ := r
      have e' : ys.map UV.d = xs := by simpa [asM, asL] using e
      subst e'
      exact ⟨a, vs, [], e1, e2, t.up, fun b hb => absurd hb (by simp)⟩
    | _ => simp [asM, asL] at e
  | own ys =>
    obtain ⟨a, vs, G, e1, e2, e3, t⟩ := r
    have e' : ys = xs := by simpa [asM, asL] using e
    subst e'
    exact ⟨a, vs, G, e1, e2, t, fun b hb => .inl (by rw [e3]; exact List.mem_cons_of_mem _ hb)⟩
  | fl ys =>
    obtain ⟨a, vs, e1, _, e2, t⟩ := r
    have e' : ys = xs := by simpa [asM, asL] using e
    subst e'
    exact ⟨a, vs, Fu, e1, e2, t, fun b hb => .inl hb⟩
  | ref i =>
    obtain ⟨_, a, e1, e2⟩ := r
    simp only [asM, asL] at e
    split at e
    · rename_i ys q
      cases e
      obtain ⟨a', G, e3, rc, s⟩ := hh.get q
      rw [e1] at e3; cases e3
      obtain ⟨vs, G', e4, e5, t⟩ := rc
      exact ⟨a, vs, G', e2, e4, t, fun b hb => .inr (s b (by rw [e5]; exact List.mem_cons_of_mem _ hb))⟩
    · cases e
  | _ => simp [asM, asL] at e
theorem asL_ok (hh : RH c w.Z H w.ρ h w.F) (r : RU c w.Z H w.ρ u v Fu) (e : asL h u = some xs) : ∃ a vs G, v = .ref a ∧ SqL c.K H a vs ∧ RUl c w.Z H w.ρ xs vs G ∧ ∀ b ∈ G, b ∈ Fu ∨ b ∈ w.F := by
  by_cases q : ∃ ys, u = .d (.rol ys)
  · obtain ⟨ys, rfl⟩ := q
    obtain ⟨_, a, vs, e1, f, t⟩ := r
    have e' : ys.map UV.d = xs := by simpa [asL] using e
    subst e'
    exact ⟨a, vs, [], e1, f.sq, t.up, fun b hb => absurd hb (by simp)⟩
  · have e' : asM h u = some xs := by
      rw [← e]
      unfold asM
      split
      · exact absurd ⟨_, rfl⟩ q
      · rfl
    obtain ⟨a, vs, G, e1, e2, t, s⟩ := asM_ok hh r e'
    exact ⟨a, vs, G, e1, .of e2, t, s⟩
theorem asT_ok (r : RU c w.Z H w.ρ u v Fu) (e : asT u = some xs) : ∃ a vs G, v = .ref a ∧ SqT c.K H a vs ∧ RUl c w.Z H w.ρ xs vs G ∧ ∀ b ∈ G, b ∈ Fu := by
  cases u with
  | d x =>
    cases x with
    | tup ys =>
      obtain ⟨_, a, vs, e1, f, t⟩ := r
      have e' : ys.map UV.d = xs := by simpa [asT] using e
      subst e'
      exact ⟨a, vs, [], e1, f.sq, t.up, fun b hb => absurd hb (by simp)⟩
    | _ => simp [asT] at e
  | tp ys =>
    obtain ⟨a, vs, e1, z, e2, t⟩ := r
    have e' : ys = xs := by simpa [asT] using e
    subst e'
    exact ⟨a, vs, Fu, e1, .inl e2, t, fun b hb => hb⟩
  | _ => simp [asT] at e
end
/- nothing of its own -/
mutual
def noOwn : UV → Bool
  | .d _ => true
  | .ref _ => true
  | .tp xs => noOwnL xs
  | .fl xs => noOwnL xs
  | .own _ => false
  | .odK _ => false
  | .odT _ => false
  | .clo _ _ => true
def noOwnL : List UV → Bool
  | [] => true
  | x :: xs => noOwn x && noOwnL xs
end
theorem noOwnL_eq : ∀ xs : List UV, noOwnL xs = xs.all noOwn
  | [] => by simp [noOwnL]
  | x :: xs => by simp [noOwnL, noOwnL_eq xs]
section
variable {c : Cg} {Z : Addr → Prop} {H : Hp} {ρ : List Addr}
mutual
theorem noOwn_F : ∀ {u : UV} {v : V} {F : List Addr}, noOwn u = true → RU c Z H ρ u v F → F = []
  | .d x, _, _, _, r => r.1
  | .ref i, _, _, _, r => r.1
  | .tp xs, _, _, h, ⟨a, vs, _, _, _, t⟩ => noOwnL_F (by simpa [noOwn] using h) t
  | .fl xs, _, _, h, ⟨a, vs, _, _, _, t⟩ => noOwnL_F (by simpa [noOwn] using h) t
  | .own xs, _, _, h, _ => by simp [noOwn] at h
  | .odK xs, _, _, h, _ => by simp [noOwn] at h
  | .odT xs, _, _, h, _ => by simp [noOwn] at h
  | .clo _ _, _, _, _, r => r.1
theorem noOwnL_F : ∀ {xs : List UV} {vs : List V} {F : List Addr}, noOwnL xs = true → RUl c Z H ρ xs vs F → F = []
  | [], _, _, _, r => r.2
  | x :: xs, _, _, h, ⟨v, r, F1, F2, e, eF, hx, t⟩ => by
    simp only [noOwnL, Bool.and_eq_true] at h
    rw [eF, noOwn_F h.1 hx, noOwnL_F h.2 t]; rfl
end
theorem noOwn_all {xs : List UV} {vs : List V} {F : List Addr} (h : xs.all noOwn = true) (r : RUl c Z H ρ xs vs F) : F = [] := noOwnL_F (by rw [noOwnL_eq]; exact h) r
end

/-! ### how a result is handed on -/
section
variable {c : Cg} {W : WX} {σ : L2.St} {w : Wd} {H : Hp} {Q : VK} {h : HS} {md : Md} {pu : Bool}
theorem MdOk.same {w : Wd} {H : Hp} (ok : WOk w H) : MdOk .E w H w H [] := ⟨by simpa using Ext.refl, by simpa using ok⟩
/-- a result that is data, nothing new in the heap -/
theorem fin_d {x : DV} {v : V} (p : EPo pu .E c W σ w H Q (.ok (.d x) h)) (ok : WOk w H) (hh : RH c w.Z H w.ρ h w.F) (r : RD c w.Z H x v) : Q v H := p w H v [] (.same ok) .refl hh ⟨rfl, r⟩
theorem upd_keep {H : Hp} {p : Addr} {o : HO} (hp : H p = none) : ∀ a u, H a = some u → upd H p o a = some u := fun a u e => by rw [upd_ne (ne_of_none e hp)]; exact e
theorem upd_there {H : Hp} {p : Addr} {o : HO} : ∀ a, H a ≠ none → upd H p o a ≠ none := fun a e => by
  by_cases q : a = p
  · rw [q, upd_same]; exact fun z => by cases z
  · rw [upd_ne q]; exact e
/-- a new object that is the result's own, on top of what the result's items own -/
theorem ext_new {H : Hp} {p : Addr} {o : HO} (hp : H p = none) {w : Wd} {G : List Addr} (ok : WOk ⟨w.ρ, w.Z, w.F ++ G⟩ H) : Ext ⟨w.ρ, w.Z, w.F ++ G⟩ H ⟨w.ρ, w.Z, w.F ++ (p :: G)⟩ (upd H p o) ∧ WOk ⟨w.ρ, w.Z, w.F ++ (p :: G)⟩ (upd H p o) := by
  have np : p ∉ w.F ++ G := fun q => ok.trF p q hp
  refine ⟨⟨fun _ _ e => e, fun _ e => e, fun a u e _ => upd_keep hp a u e, fun a e => ?_, upd_there⟩, ?_, fun a ha => ?_, fun a ha => ?_, fun a z => upd_there a (ok.trZ a z)⟩
  · rcases e with e | e
    · exact .inl e
    · rcases List.mem_append.mp e with q | q
      · exact .inr (.inl (List.mem_append_left _ q))
      · rcases List.mem_cons.mp q with q | q
        · rw [q]; exact .inr (.inr hp)
        · exact .inr (.inl (List.mem_append_right _ q))
  · have nd := List.nodup_append.mp ok.nd
    refine List.nodup_append.mpr ⟨nd.1, List.nodup_cons.mpr ⟨fun q => np (List.mem_append_right _ q), nd.2.1⟩, fun a ha b hb e => ?_⟩
    rcases List.mem_cons.mp hb with q | q
    · rw [q] at e; rw [e] at ha; exact np (List.mem_append_left _ ha)
    · exact nd.2.2 a ha b q e
  · rcases List.mem_append.mp ha with q | q
    · exact ok.sep a (List.mem_append_left _ q)
    · rcases List.mem_cons.mp q with q | q
      · rw [q]; exact fun z => ok.trZ p z hp
      · exact ok.sep a (List.mem_append_right _ q)
  · rcases List.mem_append.mp ha with q | q
    · exact upd_there a (ok.trF a (List.mem_append_left _ q))
    · rcases List.mem_cons.mp q with q | q
      · rw [q, upd_same]; exact fun z => by cases z
      · exact upd_there a (ok.trF a (List.mem_append_right _ q))
theorem RH_upd {c : Cg} {w : Wd} {H : Hp} {h : HS} {p : Addr} {o : HO} (hp : H p = none) (hh : RH c w.Z H w.ρ h w.F) : RH c w.Z (upd H p o) w.ρ h w.F :=
  RHl.mono (fun _ _ e => e) (fun _ z => z) (fun a u _ e => upd_keep hp a u e) (fun a _ u e => upd_keep hp a u e) hh
/-- a new list of things that own nothing -/
theorem fin_own {xs : List UV} {vs : List V} (p : EPo pu .E c W σ w H Q (.ok (.own xs) h)) (ok : WOk w H) (hh : RH c w.Z H w.ρ h w.F) {G : List Addr} (r : RUl c w.Z H w.ρ xs vs G) (hn : xs.all noOwn = true) (a : Addr) (ha : H a = none) : Q (.ref a) (upd H a (.lst vs)) := by
  have eG := noOwn_all hn r
  subst eG
  have x := ext_new (o := .lst vs) ha (w := w) (G := []) (by simpa using ok)
  refine p w _ _ [a] ⟨?_, x.2⟩ (fun _ => upd_keep ha) (RH_upd ha hh) ⟨a, vs, [], rfl, upd_same, rfl, ?_⟩
  · simpa using x.1
  · exact RUl.mono (fun _ _ e => e) (fun _ z => z) (fun a' u _ e => upd_keep ha a' u e) (fun b hb => absurd hb (by simp)) r
/-- a new tuple of data -/
theorem ext_tup {H : Hp} {p : Addr} {o : HO} (hp : H p = none) {w : Wd} (ok : WOk w H) : Ext w H ⟨w.ρ, fun a => w.Z a ∨ a = p, w.F⟩ (upd H p o) ∧ WOk ⟨w.ρ, fun a => w.Z a ∨ a = p, w.F⟩ (upd H p o) := by
  refine ⟨⟨fun _ _ e => e, fun _ e => .inl e, fun a u e _ => upd_keep hp a u e, fun a e => ?_, upd_there⟩, ok.nd, fun a ha z => ?_, fun a ha => upd_there a (ok.trF a ha), fun a z => ?_⟩
  · rcases e with (e | e) | e
    · exact .inl e
    · rw [e]; exact .inr (.inr hp)
    · exact .inr (.inl e)
  · rcases z with z | z
    · exact ok.sep a ha z
    · rw [z] at ha; exact ok.trF p ha hp
  · rcases z with z | z
    · exact upd_there a (ok.trZ a z)
    · rw [z, upd_same]; exact fun q => by cases q
theorem RH_updZ {c : Cg} {w : Wd} {H : Hp} {h : HS} {p : Addr} {o : HO} (hp : H p = none) (hh : RH c w.Z H w.ρ h w.F) : RH c (fun a => w.Z a ∨ a = p) (upd H p o) w.ρ h w.F :=
  RHl.mono (fun _ _ e => e) (fun _ z => .inl z) (fun a u _ e => upd_keep hp a u e) (fun a _ u e => upd_keep hp a u e) hh
theorem fin_tup {xs : List DV} {vs : List V} (p : EPo pu .E c W σ w H Q (.ok (.d (.tup xs)) h)) (ok : WOk w H) (hh : RH c w.Z H w.ρ h w.F) (r : RDl c w.Z H xs vs) (a : Addr) (ha : H a = none) : Q (.ref a) (upd H a (.tup vs)) := by
  have x := ext_tup (o := .tup vs) ha ok
  refine p ⟨w.ρ, fun b => w.Z b ∨ b = a, w.F⟩ _ _ [] ⟨?_, ?_⟩ (fun _ => upd_keep ha) (RH_updZ ha hh) ⟨rfl, a, vs, rfl, .inl ⟨.inr rfl, .inl upd_same⟩, ?_⟩
  · simpa using x.1
  · simpa using x.2
  · exact RDl.mono (fun _ z => .inl z) (fun b u _ e => upd_keep ha b u e) r
end
end MM

/-! MM3: freezing, argument lists, displays, operators by their functions. -/
namespace MM
open PySem PySem.Spec PyProof.Rows L2

theorem WOk.perm {ρ : List Addr} {Z : Addr → Prop} {F F' : List Addr} {H : Hp} (ok : WOk ⟨ρ, Z, F⟩ H) (p : F'.Perm F) : WOk ⟨ρ, Z, F'⟩ H :=
  ⟨p.nodup_iff.mpr ok.nd, fun a ha => ok.sep a (p.mem_iff.mp ha), fun a ha => ok.trF a (p.mem_iff.mp ha), ok.trZ⟩
theorem Ext.set {ρ ρ' : List Addr} {Z Z' : Addr → Prop} {F F' G G' : List Addr} {H H' : Hp} (e : Ext ⟨ρ, Z, F⟩ H ⟨ρ', Z', F'⟩ H') (h : ∀ a, a ∈ G ↔ a ∈ F) (h' : ∀ a, a ∈ G' ↔ a ∈ F') : Ext ⟨ρ, Z, G⟩ H ⟨ρ', Z', G'⟩ H' :=
  ⟨e.rho, e.z, fun a o q n => e.keep a o q fun z => n ((h a).mpr z), fun a q => by
    rcases e.new a (q.elim .inl fun z => .inr ((h' a).mp z)) with z | z | z
    · exact .inl z
    · exact .inr (.inl ((h a).mpr z))
    · exact .inr (.inr z), e.there⟩
theorem memApp {F G : List Addr} : ∀ a, a ∈ F ++ G ↔ a ∈ G ++ F := fun a => by rw [List.mem_append, List.mem_append]; exact Or.comm
/-- two fresh results, one behind the other -/
theorem MdOk.two {w w1 w2 : Wd} {H H1 H2 : Hp} {Fa Fr : List Addr} (a : MdOk .E w H w1 H1 Fa) (b : MdOk .E w1 H1 w2 H2 Fr) : MdOk .E w H w2 H2 (Fa ++ Fr) := by
  obtain ⟨ea, oa⟩ := a
  obtain ⟨eb, ob⟩ := b
  have pa : (Fa ++ w1.F).Perm (w1.F ++ Fa) := List.perm_append_comm
  have oa' := oa.perm pa
  have eb' := Ext.more eb Fa
  have ob' := oa'.aside eb ob
  have ea' : Ext w H ⟨w1.ρ, w1.Z, Fa ++ w1.F⟩ H1 := Ext.set (F := w.F) (F' := w1.F ++ Fa) ea (fun _ => .rfl) memApp
  have e := ea'.trans oa' eb'
  have p2 : (w2.F ++ (Fa ++ Fr)).Perm (Fa ++ (w2.F ++ Fr)) := by
    rw [← List.append_assoc, ← List.append_assoc]
    exact List.Perm.append_right _ List.perm_append_comm
  exact ⟨Ext.set (F := w.F) (F' := Fa ++ (w2.F ++ Fr)) e (fun _ => .rfl) fun x => p2.mem_iff, ob'.perm p2⟩
/-- a fresh result stands through what follows -/
theorem RU.afterE {c : Cg} {w w1 w2 : Wd} {H H1 H2 : Hp} {Fa : List Addr} {u : UV} {x : V} (a : MdOk .E w H w1 H1 Fa) (r : RU c w1.Z H1 w1.ρ u x Fa) (e : Ext w1 H1 w2 H2) : RU c w2.Z H2 w2.ρ u x Fa :=
  r.after a.ext.2 (fun b hb q => (List.nodup_append.mp a.2.nd).2.2 b q b hb rfl) e

/-! ### freezing -/
mutual
def toD : UV → Option DV
  | .d x => some x
  | .ref _ => none
  | .tp xs => (toDl xs).map .tup
  | .fl xs => (toDl xs).map .lst
  | .own xs => (toDl xs).map .lst
  | .odK kvs => (toDk kvs).map .dK
  | .odT kvs => (toDt kvs).map .dT
  | .clo _ _ => none
def toDl : List UV → Option (List DV)
  | [] => some []
  | x :: xs => match toD x, toDl xs with
    | some y, some ys => some (y :: ys)
    | _, _ => none
def toDk : List (Key × UV) → Option (List (Key × DV))
  | [] => some []
  | (k, x) :: xs => match toD x, toDk xs with
    | some y, some ys => some ((k, y) :: ys)
    | _, _ => none
def toDt : List (List Key × UV) → Option (List (List Key × DV))
  | [] => some []
  | (k, x) :: xs => match toD x, toDt xs with
    | some y, some ys => some ((k, y) :: ys)
    | _, _ => none
end
section
variable {c : Cg} {Z Z' : Addr → Prop} {H : Hp} {ρ : List Addr} (hz : ∀ a, Z a → Z' a)
include hz
mutual
theorem toD_ok : ∀ {u : UV} {v : V} {F : List Addr} {x : DV}, (∀ a ∈ F, Z' a) → RU c Z H ρ u v F → toD u = some x → RD c Z' H x v
  | .d y, _, _, _, _, r, e => by
    cases e
    exact RD.mono hz (fun _ _ _ q => q) r.2
  | .ref _, _, _, _, _, _, e => by cases e
  | .tp xs, _, _, _, f, ⟨a, vs, e1, z, e2, t⟩, e => by
    simp only [toD, Option.map_eq_some_iff] at e
    obtain ⟨ys, e3, rfl⟩ := e
    exact ⟨a, vs, e1, .inl ⟨hz _ z, e2⟩, toDl_ok f t e3⟩
  | .fl xs, _, _, _, f, ⟨a, vs, e1, z, e2, t⟩, e => by
    simp only [toD, Option.map_eq_some_iff] at e
    obtain ⟨ys, e3, rfl⟩ := e
    exact ⟨a, vs, e1, hz _ z, e2, toDl_ok f t e3⟩
  | .own xs, _, _, _, f, ⟨a, vs, G, e1, e2, eF, t⟩, e => by
    simp only [toD, Option.map_eq_some_iff] at e
    obtain ⟨ys, e3, rfl⟩ := e
    exact ⟨a, vs, e1, f a (by rw [eF]; exact List.mem_cons_self), e2, toDl_ok (fun b hb => f b (by rw [eF]; exact List.mem_cons_of_mem _ hb)) t e3⟩
  | .odK xs, _, _, _, f, ⟨a, vs, G, e1, e2, eF, t⟩, e => by
    simp only [toD, Option.map_eq_some_iff] at e
    obtain ⟨ys, e3, rfl⟩ := e
    exact ⟨a, vs, e1, f a (by rw [eF]; exact List.mem_cons_self), e2, toDk_ok (fun b hb => f b (by rw [eF]; exact List.mem_cons_of_mem _ hb)) t e3⟩
  | .odT xs, _, _, _, f, ⟨a, vs, G, e1, e2, eF, t⟩, e => by
    simp only [toD, Option.map_eq_some_iff] at e
    obtain ⟨ys, e3, rfl⟩ := e
    exact ⟨a, vs, e1, f a (by rw [eF]; exact List.mem_cons_self), e2, toDt_ok (fun b hb => f b (by rw [eF]; exact List.mem_cons_of_mem _ hb)) t e3⟩
  | .clo _ _, _, _, _, _, _, e => by cases e
theorem toDl_ok : ∀ {u : List UV} {v : List V} {F : List Addr} {x : List DV}, (∀ a ∈ F, Z' a) → RUl c Z H ρ u v F → toDl u = some x → RDl c Z' H x v
  | [], _, _, _, _, r, e => by
    cases e
    exact r.1
  | y :: ys, _, _, _, f, ⟨v, r, F1, F2, e1, eF, h, t⟩, e => by
    simp only [toDl] at e
    split at e
    · rename_i y' ys' q1 q2
      cases e
      exact ⟨v, r, e1, toD_ok (fun b hb => f b (by rw [eF]; exact List.mem_append_left _ hb)) h q1, toDl_ok (fun b hb => f b (by rw [eF]; exact List.mem_append_right _ hb)) t q2⟩
    · cases e
theorem toDk_ok : ∀ {u : List (Key × UV)} {v : List (Key × V)} {F : List Addr} {x : List (Key × DV)}, (∀ a ∈ F, Z' a) → RUk c Z H ρ u v F → toDk u = some x → RDk c Z' H x v
  | [], _, _, _, _, r, e => by
    cases e
    exact r.1
  | (k, y) :: ys, _, _, _, f, ⟨v, r, F1, F2, e1, eF, h, t⟩, e => by
    simp only [toDk] at e
    split at e
    · rename_i y' ys' q1 q2
      cases e
      exact ⟨v, r, e1, toD_ok (fun b hb => f b (by rw [eF]; exact List.mem_append_left _ hb)) h q1, toDk_ok (fun b hb => f b (by rw [eF]; exact List.mem_append_right _ hb)) t q2⟩
    · cases e
theorem toDt_ok : ∀ {u : List (List Key × UV)} {v : List (List Key × V)} {F : List Addr} {x : List (List Key × DV)}, (∀ a ∈ F, Z' a) → RUt c Z H ρ u v F → toDt u = some x → RDt c Z' H x v
  | [], _, _, _, _, r, e => by
    cases e
    exact r.1
  | (k, y) :: ys, _, _, _, f, ⟨v, r, F1, F2, e1, eF, h, t⟩, e => by
    simp only [toDt] at e
    split at e
    · rename_i y' ys' q1 q2
      cases e
      exact ⟨v, r, e1, toD_ok (fun b hb => f b (by rw [eF]; exact List.mem_append_left _ hb)) h q1, toDt_ok (fun b hb => f b (by rw [eF]; exact List.mem_append_right _ hb)) t q2⟩
    · cases e
end
end
/-- data, or a cell -/
def fz (u : UV) : Option UV := match toD u with
  | some x => some (.d x)
  | none => match u with
    | .ref i => some (.ref i)
    | .clo i cs => some (.clo i cs)
    | .own xs => if xs.all noOwn then some (.fl xs) else none
    | .fl xs => if xs.all noOwn then some (.fl xs) else none
    | .tp xs => if xs.all noOwn then some (.tp xs) else none
    | _ => none
theorem fz_noOwn {u v : UV} (h : fz u = some v) : noOwn v = true := by
  unfold fz at h
  split at h
  · cases h; rfl
  · split at h
    · cases h; rfl
    · cases h; rfl
    · split at h
      · rename_i hn; cases h; simpa [noOwn, noOwnL_eq] using hn
      · cases h
    · split at h
      · rename_i hn; cases h; simpa [noOwn, noOwnL_eq] using hn
      · cases h
    · split at h
      · rename_i hn; cases h; simpa [noOwn, noOwnL_eq] using hn
      · cases h
    · cases h
/-- what a fresh result owned is frozen -/
theorem MdOk.frz {w w1 : Wd} {H H1 : Hp} {Fa : List Addr} (a : MdOk .E w H w1 H1 Fa) : MdOk .E w H ⟨w1.ρ, fun x => w1.Z x ∨ x ∈ Fa, w1.F⟩ H1 [] := by
  obtain ⟨e, ok⟩ := a
  refine ⟨⟨e.rho, fun x z => .inl (e.z x z), e.keep, fun x h => e.new x ?_, e.there⟩, ?_⟩
  · rcases h with (h | h) | h
    · exact .inl h
    · exact .inr (List.mem_append_right _ h)
    · exact .inr (List.mem_append_left _ (by simpa using h))
  · have nd := List.nodup_append.mp ok.nd
    refine ⟨by simpa using nd.1, fun x hx z => ?_, fun x hx => ok.trF x (List.mem_append_left _ (by simpa using hx)), fun x z => ?_⟩
    · have hx' : x ∈ w1.F := by simpa using hx
      rcases z with z | z
      · exact ok.sep x (List.mem_append_left _ hx') z
      · exact nd.2.2 x hx' x z rfl
    · rcases z with z | z
      · exact ok.trZ x z
      · exact ok.trF x (List.mem_append_right _ z)
theorem RH_frz {c : Cg} {Z Z' : Addr → Prop} {H : Hp} {ρ F : List Addr} {h : HS} (hz : ∀ a, Z a → Z' a) (hh : RH c Z H ρ h F) : RH c Z' H ρ h F := RHl.mono (fun _ _ e => e) hz (fun _ _ _ e => e) (fun _ _ _ e => e) hh
theorem fz_ok {c : Cg} {Z : Addr → Prop} {H : Hp} {ρ : List Addr} {u u' : UV} {v : V} {F : List Addr} (r : RU c Z H ρ u v F) (h : fz u = some u') : RU c (fun x => Z x ∨ x ∈ F) H ρ u' v [] := by
  unfold fz at h
  split at h
  · rename_i x e
    cases h
    exact ⟨rfl, toD_ok (fun _ z => .inl z) (fun a ha => .inr ha) r e⟩
  · split at h
    · cases h
      exact ⟨rfl, r.2⟩
    · cases h
      exact RU.mono (fun _ _ e => e) (fun _ z => .inl z) (fun _ _ _ e => e) (fun _ _ _ e => e) (by obtain ⟨e, k⟩ := r; exact ⟨rfl, k⟩)
    · split at h
      · rename_i hn
        cases h
        obtain ⟨a, vs, G, e1, e2, e3, t⟩ := r
        have eG := noOwn_all hn t
        subst eG
        exact ⟨a, vs, e1, .inr (by rw [e3]; exact List.mem_cons_self), e2, RUl.mono (fun _ _ e => e) (fun _ z => .inl z) (fun _ _ _ e => e) (fun _ _ _ e => e) t⟩
      · cases h
    · split at h
      · rename_i hn
        cases h
        obtain ⟨a, vs, e1, z, e2, t⟩ := r
        have eG := noOwn_all hn t
        subst eG
        exact ⟨a, vs, e1, .inl z, e2, RUl.mono (fun _ _ e => e) (fun _ z => .inl z) (fun _ _ _ e => e) (fun _ _ _ e => e) t⟩
      · cases h
    · split at h
      · rename_i hn
        cases h
        obtain ⟨a, vs, e1, z, e2, t⟩ := r
        have eG := noOwn_all hn t
        subst eG
        exact ⟨a, vs, e1, .inl z, e2, RUl.mono (fun _ _ e => e) (fun _ z => .inl z) (fun _ _ _ e => e) (fun _ _ _ e => e) t⟩
      · cases h
    · cases h

/-! ### an expression's result frozen -/
def mFz (m : ME) : ME := fun σ h => bindM (m σ h) fun u h1 => ofO (fz u) h1
section
variable {X : Cx} {c : Cg} {W : WX} {e : Expr} {m : ME} {pu : Bool}
theorem eFz (h : PE X e (tV pu .E c W m)) : PE X e (tV pu .E c W (mFz m)) := PE.imp h fun σ H Q ⟨w, Fs, σd, hd, S, p⟩ => ⟨w, Fs, σd, hd, S, by
  unfold mFz at p
  revert p
  cases m σd hd with
  | ok u h' =>
    intro p w' H' v Fv mo pp rh ru
    have p' : EPo pu .E c W σ w H Q (ofO (fz u) h') := p
    cases q : fz u with
    | none => rw [q] at p'; exact p'.elim
    | some z =>
      rw [q] at p'
      exact p' _ H' v [] mo.frz pp (RH_frz (fun _ z => .inl z) rh) (fz_ok ru q)
  | err x h' => exact id
  | bad => exact id⟩
end

/-! ### argument lists -/
abbrev MAs := SL → HS → MR (List UV)
def APo (pu : Bool) (c : Cg) (W : WX) (σ : L2.St) (w : Wd) (H : Hp) (Q : List V → Hp → Prop) : MR (List UV) → Prop
  | .ok us h' => ∀ (w' : Wd) (H' : Hp) (vs : List V) (Fv : List Addr), MdOk .E w H w' H' Fv → Pu pu H H' → RH c w'.Z H' w'.ρ h' w'.F → RUl c w'.Z H' w'.ρ us vs Fv → Q vs H'
  | .err e h' => ∀ (w' : Wd) (H' : Hp) (cls : Value) (dx : Option Addr), Ext w H w' H' → WOk w' H' → RH c w'.Z H' w'.ρ h' w'.F → RX c w'.Z H' e cls dx → W cls dx σ H'
  | .bad => False
def tAs (pu : Bool) (c : Cg) (W : WX) (m : MAs) : TA := fun σ H Q => ∃ w Fs σd hd, Sta c w Fs σd hd σ H ∧ APo pu c W σ w H Q (m σd hd)
def aNil : MAs := fun _ h => .ok [] h
def aCons (m : ME) (ms : MAs) : MAs := fun σ h => bindM (m σ h) fun u h1 => bindM (ms σ h1) fun us h2 => .ok (u :: us) h2
section
variable {X : Cx} {c : Cg} {W : WX} {e : Expr} {es : List Expr} {m : ME} {ms : MAs} {pu : Bool}
theorem PA.imp {t t' : TA} (h : PA X es t) (i : ∀ σ H Q, t' σ H Q → t σ H Q) : PA X es t' := ⟨fun pos pins s σ H Q I q => h.run pos pins s σ H Q I (i σ H Q q)⟩
theorem as_nil : PA X [] (tAs pu c W aNil) := PA.imp pa_nil fun σ H Q ⟨w, Fs, σd, hd, S, p⟩ => p w H [] [] (.same S.wok) .refl S.h ⟨rfl, rfl⟩
theorem as_cons (ha : PE X e (tV pu .E c W m)) (hr : PA X es (tAs pu c W ms)) (hs : starEach (e :: es) X.env = (false, eval e X.env) :: starEach es X.env := by rfl) : PA X (e :: es) (tAs pu c W (aCons m ms)) :=
  PA.imp (pa_cons ha hr hs) fun σ H Q ⟨w, Fs, σd, hd, S, p⟩ => ⟨w, Fs, σd, hd, S, by
    unfold aCons at p
    revert p
    cases m σd hd with
    | err x h' => exact fun p => p
    | bad => exact fun p => p
    | ok u h1 =>
      intro p w1 H1 x Fx mo pp rh ru
      have p : APo pu c W σ w H Q (bindM (ms σd h1) fun us h2 => .ok (u :: us) h2) := p
      refine ⟨w1, Fs, σd, h1, S.ext mo.ext.1 mo.ext.2 rh, ?_⟩
      revert p
      cases ms σd h1 with
      | err x h' => exact fun p w' H' cls dx e' ok' => p w' H' cls dx (mo.ext.1.trans mo.ext.2 e') ok'
      | bad => exact fun p => p
      | ok us h2 =>
        intro p w2 H2 vs Fv mo2 pp2 rh2 ru2
        exact p w2 H2 (x :: vs) (Fx ++ Fv) (mo.two mo2) (pp.trans pp2) rh2 ⟨x, vs, Fx, Fv, rfl, rfl, ru.afterE mo mo2.ext.1, ru2⟩⟩
end
/-! ### displays -/
def mLst (ms : MAs) : ME := fun σ h => bindM (ms σ h) fun us h1 => if us.length ≤ sizeLine then .ok (.own us) h1 else .bad
def mTup (ms : MAs) : ME := fun σ h => bindM (ms σ h) fun us h1 => if us.length ≤ sizeLine then ofO ((toDl us).map fun xs => .d (.tup xs)) h1 else .bad
def mTp (ms : MAs) : ME := fun σ h => bindM (ms σ h) fun us h1 => if us.length ≤ sizeLine then .ok (.tp us) h1 else .bad
section
variable {X : Cx} {c : Cg} {W : WX} {es : List Expr} {ms : MAs} {pos : Pos} {pu : Bool}
theorem ext_newE {w w1 : Wd} {H H1 : Hp} {G : List Addr} {p : Addr} {o : HO} (mo : MdOk .E w H w1 H1 G) (hp : H1 p = none) : MdOk .E w H w1 (upd H1 p o) (p :: G) := by
  have x := ext_new (o := o) hp (w := w1) (G := G) mo.2
  exact ⟨mo.1.trans mo.2 x.1, x.2⟩
theorem e_lst (h : PA X es (tAs pu c W ms)) : PE X (.List es pos) (tV pu .E c W (mLst ms)) := PE.imp (pe_lst h) fun σ H Q ⟨w, Fs, σd, hd, S, p⟩ => ⟨w, Fs, σd, hd, S, by
  unfold mLst at p
  revert p
  cases ms σd hd with
  | err x h' => exact fun p => p
  | bad => exact fun p => p
  | ok us h1 =>
    intro p w1 H1 vs G mo pp rh ru
    have p : EPo pu .E c W σ w H Q (if us.length ≤ sizeLine then .ok (.own us) h1 else .bad) := p
    by_cases hz : us.length ≤ sizeLine
    · rw [if_pos hz] at p
      refine ⟨by rw [ru.length]; exact hz, fun a ha => ?_⟩
      refine p w1 _ _ (a :: G) (ext_newE mo ha) (pp.trans fun _ => upd_keep ha) (RH_upd ha rh) ⟨a, vs, G, rfl, upd_same, rfl, ?_⟩
      exact RUl.mono (fun _ _ e => e) (fun _ z => z) (fun b u _ e => upd_keep ha b u e) (fun b _ u e => upd_keep ha b u e) ru
    · rw [if_neg hz] at p; exact p.elim⟩
theorem e_tup {k : Nat} (h : PA X es (tAs pu c W ms)) : PE X (.Tuple es k pos) (tV pu .E c W (mTup ms)) := PE.imp (pe_tup h) fun σ H Q ⟨w, Fs, σd, hd, S, p⟩ => ⟨w, Fs, σd, hd, S, by
  unfold mTup at p
  revert p
  cases ms σd hd with
  | err x h' => exact fun p => p
  | bad => exact fun p => p
  | ok us h1 =>
    intro p w1 H1 vs G mo pp rh ru
    have p : EPo pu .E c W σ w H Q (if us.length ≤ sizeLine then ofO ((toDl us).map fun xs => .d (.tup xs)) h1 else .bad) := p
    by_cases hz : us.length ≤ sizeLine
    · rw [if_pos hz] at p
      cases q : toDl us with
      | none => rw [q] at p; exact p.elim
      | some xs =>
        rw [q] at p
        refine ⟨by rw [ru.length]; exact hz, fun a ha => ?_⟩
        have mf := mo.frz
        exact fin_tup (EPo.shift mf.ext.1 mf.ext.2 pp p) mf.ext.2 (RH_frz (fun _ z => .inl z) rh) (toDl_ok (fun _ z => .inl z) (fun b hb => .inr hb) ru q) a ha
    · rw [if_neg hz] at p; exact p.elim⟩
theorem e_tp {k : Nat} (h : PA X es (tAs pu c W ms)) : PE X (.Tuple es k pos) (tV pu .E c W (mTp ms)) := PE.imp (pe_tup h) fun σ H Q ⟨w, Fs, σd, hd, S, p⟩ => ⟨w, Fs, σd, hd, S, by
  unfold mTp at p
  revert p
  cases ms σd hd with
  | err x h' => exact fun p => p
  | bad => exact fun p => p
  | ok us h1 =>
    intro p w1 H1 vs G mo pp rh ru
    have p : EPo pu .E c W σ w H Q (if us.length ≤ sizeLine then .ok (.tp us) h1 else .bad) := p
    by_cases hz : us.length ≤ sizeLine
    · rw [if_pos hz] at p
      refine ⟨by rw [ru.length]; exact hz, fun a ha => ?_⟩
      have x := ext_tup (o := .tup vs) ha (w := ⟨w1.ρ, w1.Z, w1.F ++ G⟩) mo.2
      refine p ⟨w1.ρ, fun b => w1.Z b ∨ b = a, w1.F⟩ _ _ G ⟨mo.1.trans mo.2 x.1, x.2⟩ (pp.trans fun _ => upd_keep ha) (RH_updZ ha rh) ⟨a, vs, rfl, .inr rfl, .inl upd_same, ?_⟩
      exact RUl.mono (fun _ _ e => e) (fun _ z => .inl z) (fun b u _ e => upd_keep ha b u e) (fun b _ u e => upd_keep ha b u e) ru
    · rw [if_neg hz] at p; exact p.elim⟩
end
end MM

/-! MM4: operators, comparisons, tests. -/
namespace MM
open PySem PySem.Spec PyProof.Rows L2

instance (i j : Int) : Decidable (CMul i j) := by unfold CMul; infer_instance
instance (i j : Int) : Decidable (CDiv i j) := by unfold CDiv; infer_instance
instance (i j : Int) : Decidable (CPow i j) := by unfold CPow; infer_instance

/-! ### constants, names -/
def mK (x : DV) : ME := fun _ h => .ok (.d x) h
def mVar (i : Nat) : ME := fun σ h => match σ[i]? with
  | some (some u) => .ok u h
  | _ => .bad
def mVarE (i : Nat) : ME := fun σ h => match σ[i]? with
  | some (some u) => if noOwn u then .ok u h else .bad
  | _ => .bad
section
variable {X : Cx} {c : Cg} {W : WX} {pos : Pos} {pu : Bool}
theorem e_const {e : Expr} {v : V} {x : DV} (h : PE X e (tC v)) (r : ∀ Z H, RD c Z H x v) : PE X e (tV pu .E c W (mK x)) := PE.imp h fun σ H Q ⟨w, Fs, σd, hd, S, p⟩ => fin_d (h := hd) p S.wok S.h (r _ _)
theorem e_int {i j} : PE X (.Constant (.int i) j pos) (tV pu .E c W (mK (.int i))) := e_const pe_int fun _ _ => rfl
theorem e_bl {b j} : PE X (.Constant (.bool b) j pos) (tV pu .E c W (mK (.bl b))) := e_const pe_bl fun _ _ => rfl
theorem e_non {j} : PE X (.Constant .none j pos) (tV pu .E c W (mK .non)) := e_const pe_non fun _ _ => rfl
theorem e_str {x j} : PE X (.Constant (.str x) j pos) (tV pu .E c W (mK (.str x))) := e_const pe_str fun _ _ => rfl
theorem b_var (i : Nat) {x : Str} (h : PE X (.Name x pos) (tVar i)) : PE X (.Name x pos) (tV pu .B c W (mVar i)) := PE.imp h fun σ H Q ⟨w, Fs, σd, hd, S, p⟩ => by
  unfold mVar at p
  split at p
  · rename_i u q
    obtain ⟨v, G, e, r, s⟩ := S.s.get q
    refine ⟨v, e, p w H v G ⟨Ext.refl, S.wok, fun a ha => ?_⟩ .refl S.h r⟩
    have nd := List.nodup_append.mp S.ok.nd
    exact ⟨fun q => nd.2.2 a (s a ha) a q rfl, S.ok.sep a (List.mem_append_left _ (s a ha)), S.ok.trF a (List.mem_append_left _ (s a ha))⟩
  · exact p.elim
theorem e_var (i : Nat) {x : Str} (h : PE X (.Name x pos) (tVar i)) : PE X (.Name x pos) (tV pu .E c W (mVarE i)) := PE.imp h fun σ H Q ⟨w, Fs, σd, hd, S, p⟩ => by
  unfold mVarE at p
  split at p
  · rename_i u q
    obtain ⟨v, G, e, r, s⟩ := S.s.get q
    by_cases hn : noOwn u = true
    · rw [if_pos hn] at p
      have eG := noOwn_F hn r
      subst eG
      exact ⟨v, e, p w H v [] (.same S.wok) .refl S.h r⟩
    · rw [if_neg hn] at p; exact p.elim
  · exact p.elim
theorem e_glo {x : Str} {a : Addr} (hg : Gl X x) (hm : X.mg x = some (.ref a)) (hc : c.mg = X.mg) (hd : (x == ("__debug__" : Str)) = false := by decide) : PE X (.Name x pos) (tV pu .E c W (mK (.glo x))) :=
  e_const (pe_glob (v := .ref a) hg hm rfl hd) fun _ _ => ⟨a, rfl, by rw [hc]; exact hm⟩
theorem e_ty {x : Str} {n : String} (hg : Gl X x) (hm : X.mg x = none) (hv : bootBuiltins x = some (.type n)) (hn : x ≠ "__name__" := by decide) (hd : (x == ("__debug__" : Str)) = false := by decide) : PE X (.Name x pos) (tV pu .E c W (mK (.ty n))) :=
  e_const (pe_bltn (v := .ty n) hg hm hv rfl hn hd) fun _ _ => rfl
end

/-! ### one, two values in, one out -/
def UnS (c : Cg) (r : V → Hp → VK → Prop) (f : HS → UV → Option UV) : Prop :=
  ∀ (pu : Bool) (W : WX) (σ : L2.St) (w : Wd) (H : Hp) (h : HS) (u : UV) (x : V) (Fx : List Addr) (z : UV) (Q : VK), WOk w H → RH c w.Z H w.ρ h w.F → RU c w.Z H w.ρ u x Fx → f h u = some z → EPo pu .E c W σ w H Q (.ok z h) → r x H Q
def OpS (c : Cg) (r : R2) (f : HS → UV → UV → Option UV) : Prop :=
  ∀ (pu : Bool) (W : WX) (σ : L2.St) (w : Wd) (H : Hp) (h : HS) (u u' : UV) (x y : V) (Fx Fy : List Addr) (z : UV) (Q : VK), WOk w H → RH c w.Z H w.ρ h w.F → RU c w.Z H w.ρ u x Fx → RU c w.Z H w.ρ u' y Fy → f h u u' = some z → EPo pu .E c W σ w H Q (.ok z h) → r x y H Q
def mUn (f : HS → UV → Option UV) (m : ME) : ME := fun σ h => bindM (m σ h) fun u h1 => ofO (f h1 u) h1
def mBin (f : HS → UV → UV → Option UV) (ma mb : ME) : ME := fun σ h => bindM (ma σ h) fun u h1 => bindM (mb σ h1) fun v h2 => ofO (f h2 u v) h2
section
variable {X : Cx} {c : Cg} {W : WX} {ma mb m : ME} {σ : L2.St} {H : Hp} {Q : VK} {pu : Bool}
theorem un_ok {r : V → Hp → VK → Prop} {f : HS → UV → Option UV} (hf : UnS c r f) (h : tV pu .E c W (mUn f m) σ H Q) : tV pu .C c W m σ H fun x H1 => r x H1 Q := by
  obtain ⟨w, Fs, σd, hd, S, p⟩ := h
  refine step1 (md := .C) S p fun u h1 w1 H1 x Fx S1 mo ru p1 => ?_
  cases q : f h1 u with
  | none => rw [q] at p1; exact p1.elim
  | some z =>
    rw [q] at p1
    exact hf pu W σ w1 H1 h1 u x Fx z Q S1.wok S1.h ru q p1
theorem bin_ok {r : R2} {f : HS → UV → UV → Option UV} (hf : OpS c r f) (h : tV pu .E c W (mBin f ma mb) σ H Q) : tV pu .B c W ma σ H fun x H1 => tV pu .C c W mb σ H1 fun y H2 => r x y H2 Q := by
  obtain ⟨w, Fs, σd, hd, S, p⟩ := h
  refine step1 (md := .B) S p fun u h1 w1 H1 x Fx S1 mo ru p1 => ?_
  refine step1 (md := .C) S1 p1 fun v h2 w2 H2 y Fy S2 mo2 rv p2 => ?_
  cases q : f h2 u v with
  | none => rw [q] at p2; exact p2.elim
  | some z =>
    rw [q] at p2
    exact hf pu W σ w2 H2 h2 u v x y Fx Fy z Q S2.wok S2.h (ru.after S1.wok (fun a ha => (mo.2.2 a ha).1) mo2.ext.1) rv q p2
variable {a b : Expr} {pos : Pos}
theorem e_op {op : Operator} {r : R2} {f : HS → UV → UV → Option UV} (ho : OpR X (binaryOp op) r) (hf : OpS c r f) (ha : PE X a (tV pu .B c W ma)) (hb : PE X b (tV pu .C c W mb)) : PE X (.BinOp a op b pos) (tV pu .E c W (mBin f ma mb)) :=
  PE.imp (pe_op ho ha hb) fun _ _ _ h => bin_ok hf h
theorem e_un {op : UnaryOp} {r : V → Hp → VK → Prop} {f : HS → UV → Option UV} (ho : UnR X (unaryOp op) r) (hf : UnS c r f) (ha : PE X a (tV pu .C c W ma)) : PE X (.UnaryOp op a pos) (tV pu .E c W (mUn f ma)) :=
  PE.imp (pe_un ho ha) fun _ _ _ h => un_ok hf h
theorem e_cmp {op : CmpOp} {r : R2} {f : HS → UV → UV → Option UV} (ho : OpR X (compareOp op) r) (hf : OpS c r f) (ha : PE X a (tV pu .B c W ma)) (hb : PE X b (tV pu .C c W mb)) (hm : behindInMarks op b = false) : PE X (.Compare a [op] [b] pos) (tV pu .E c W (mBin f ma mb)) :=
  PE.imp (pe_cmpR ho ha hb hm) fun _ _ _ h => bin_ok hf h
/-- f(e), f a built-in function -/
theorem e_call1 {x : Str} {p : Pos} {id : String} {r : List V → Hp → VK → Prop} {f : HS → UV → Option UV} (hc : CallR X (.builtin id) r) (hf : UnS c (fun x H Q => r [x] H Q) f) (hg : Gl X x) (hm : X.mg x = none) (hv : bootBuiltins x = some (.builtin id)) (ha : PE X a (tV pu .C c W ma))
    (hs : starEach [a] X.env = (false, eval a X.env) :: starEach [] X.env := by rfl) (hn : x ≠ "__name__" := by decide) (hdb : (x == ("__debug__" : Str)) = false := by decide) : PE X (.Call (.Name x p) [a] [] pos) (tV pu .E c W (mUn f ma)) :=
  PE.imp (pe_callB hc hg hm hv (pa_cons ha pa_nil hs) hn hdb hs rfl) fun _ _ _ h => un_ok hf h
theorem e_call2 {x : Str} {p : Pos} {id : String} {r : List V → Hp → VK → Prop} {f : HS → UV → UV → Option UV} (hc : CallR X (.builtin id) r) (hf : OpS c (fun x y H Q => r [x, y] H Q) f) (hg : Gl X x) (hm : X.mg x = none) (hv : bootBuiltins x = some (.builtin id)) (ha : PE X a (tV pu .B c W ma)) (hb : PE X b (tV pu .C c W mb))
    (hs : starEach [a, b] X.env = (false, eval a X.env) :: starEach [b] X.env := by rfl) (hs2 : starEach [b] X.env = (false, eval b X.env) :: starEach [] X.env := by rfl) (hn : x ≠ "__name__" := by decide) (hdb : (x == ("__debug__" : Str)) = false := by decide) (hpl : (backTo pos (starEach [b] X.env)).any (·.1) = false := by rfl) : PE X (.Call (.Name x p) [a, b] [] pos) (tV pu .E c W (mBin f ma mb)) :=
  PE.imp (pe_callB hc hg hm hv (pa_cons ha (pa_cons hb pa_nil hs2) hs) hn hdb hs hpl) fun _ _ _ h => bin_ok hf h
theorem e_callTy1 {x : Str} {p : Pos} {T : String} {r : List V → Hp → VK → Prop} {f : HS → UV → Option UV} (hc : CallR X (.type T) r) (hf : UnS c (fun x H Q => r [x] H Q) f) (hg : Gl X x) (hm : X.mg x = none) (hv : bootBuiltins x = some (.type T)) (ha : PE X a (tV pu .C c W ma))
    (hs : starEach [a] X.env = (false, eval a X.env) :: starEach [] X.env := by rfl) (hn : x ≠ "__name__" := by decide) (hdb : (x == ("__debug__" : Str)) = false := by decide) : PE X (.Call (.Name x p) [a] [] pos) (tV pu .E c W (mUn f ma)) :=
  PE.imp (pe_callTy hc hg hm hv (pa_cons ha pa_nil hs) hn hdb hs rfl) fun _ _ _ h => un_ok hf h
end

/-! ### results that are data -/
theorem UnS.data {c : Cg} {r : V → Hp → VK → Prop} {f : HS → UV → Option UV}
    (k : ∀ (w : Wd) (H : Hp) (h : HS) (u : UV) (x : V) (Fx : List Addr) (z : UV) (Q : VK), WOk w H → RH c w.Z H w.ρ h w.F → RU c w.Z H w.ρ u x Fx → f h u = some z → (∀ d v, z = .d d → RD c w.Z H d v → Q v H) → (∃ d, z = .d d) ∧ r x H Q) : UnS c r f :=
  fun pu W σ w H h u x Fx z Q ok hh ru e p => (k w H h u x Fx z Q ok hh ru e fun d v ez rd => fin_d (ez ▸ p) ok hh rd).2
theorem OpS.data {c : Cg} {r : R2} {f : HS → UV → UV → Option UV}
    (k : ∀ (w : Wd) (H : Hp) (h : HS) (u u' : UV) (x y : V) (Fx Fy : List Addr) (z : UV) (Q : VK), WOk w H → RH c w.Z H w.ρ h w.F → RU c w.Z H w.ρ u x Fx → RU c w.Z H w.ρ u' y Fy → f h u u' = some z → (∀ d v, z = .d d → RD c w.Z H d v → Q v H) → r x y H Q) : OpS c r f :=
  fun pu W σ w H h u u' x y Fx Fy z Q ok hh ru ru' e p => k w H h u u' x y Fx Fy z Q ok hh ru ru' e fun d v ez rd => fin_d (ez ▸ p) ok hh rd

/-! ### arithmetic -/
def iOp (C : Int → Int → Bool) (g : Int → Int → DV) : HS → UV → UV → Option UV := fun _ u v => match u, v with
  | .d (.int i), .d (.int j) => if C i j then some (.d (g i j)) else none
  | _, _ => none
theorem iOp_ok {c : Cg} {C : Int → Int → Prop} {D : Int → Int → Bool} {g : Int → Int → DV} {gv : Int → Int → V} (hC : ∀ i j, D i j = true → C i j) (hg : ∀ i j Z H, RD c Z H (g i j) (gv i j)) : OpS c (rI C gv) (iOp D g) := OpS.data fun w H h u u' x y Fx Fy z Q ok hh ru ru' e q => by
  unfold iOp at e
  split at e
  · split at e
    · rename_i i j hd
      cases e
      exact ⟨i, j, ru.2, ru'.2, hC i j hd, q _ _ rfl (hg i j _ _)⟩
    · cases e
  · cases e
theorem iOp_ok0 {c : Cg} {g : Int → Int → DV} {gv : Int → Int → V} (hg : ∀ i j Z H, RD c Z H (g i j) (gv i j)) : OpS c (rI0 gv) (iOp (fun _ _ => true) g) := OpS.data fun w H h u u' x y Fx Fy z Q ok hh ru ru' e q => by
  unfold iOp at e
  split at e
  · rename_i i j
    cases e
    exact ⟨i, j, ru.2, ru'.2, q _ _ rfl (hg i j _ _)⟩
  · cases e
def oAdd : HS → UV → UV → Option UV := fun h u v => match u, v with
  | .d (.int i), .d (.int j) => some (.d (.int (i + j)))
  | .d (.str x), .d (.str y) => if x.length + y.length ≤ sizeLine then some (.d (.str (x ++ y))) else none
  | .d (.tup xs), .d (.tup ys) => if xs.length + ys.length ≤ sizeLine then some (.d (.tup (xs ++ ys))) else none
  | u, v => match asM h u, asM h v with
    | some xs, some ys => if xs.all noOwn && ys.all noOwn && decide (xs.length + ys.length ≤ sizeLine) then some (.own (xs ++ ys)) else none
    | _, _ => none
def rAddM (K : PySem.W.Frag) : R2 := fun x y H Q => (rI0 (fun i j => .int (i + j)) x y H Q ∨ (∃ i j, x = .str i ∧ y = .str j ∧ i.length + j.length ≤ sizeLine ∧ Q (.str (i ++ j)) H)) ∨ (rCatA K x y H Q ∨ rCat x y H Q)
theorem op_addM {X : Cx} : OpR X (binaryOp .Add) (rAddM X.K) := (op_add.or op_add_str).or (op_catA.or op_cat)
theorem RUl.app {c : Cg} {Z : Addr → Prop} {H : Hp} {ρ : List Addr} : ∀ {xs ys : List UV} {vs ws : List V} {F G : List Addr}, RUl c Z H ρ xs vs F → RUl c Z H ρ ys ws G → RUl c Z H ρ (xs ++ ys) (vs ++ ws) (F ++ G)
  | [], _, _, _, _, _, h, t => by rw [h.1, h.2]; exact t
  | _ :: _, _, _, _, _, _, ⟨v, r, F1, F2, e, eF, h, t⟩, q => ⟨v, r ++ _, F1, F2 ++ _, by rw [e]; rfl, by rw [eF, List.append_assoc], h, t.app q⟩
theorem RDl.app {c : Cg} {Z : Addr → Prop} {H : Hp} : ∀ {xs ys : List DV} {vs ws : List V}, RDl c Z H xs vs → RDl c Z H ys ws → RDl c Z H (xs ++ ys) (vs ++ ws)
  | [], _, _, _, h, t => by rw [show _ = [] from h]; exact t
  | _ :: _, _, _, _, ⟨v, r, e, h, t⟩, q => ⟨v, r ++ _, by rw [e]; rfl, h, t.app q⟩
theorem RDl.length {c : Cg} {Z : Addr → Prop} {H : Hp} : ∀ {xs : List DV} {vs : List V}, RDl c Z H xs vs → vs.length = xs.length
  | [], _, h => by rw [show _ = [] from h]; rfl
  | _ :: _, _, ⟨v, r, e, h, t⟩ => by rw [e, List.length_cons, List.length_cons, t.length]
theorem oAdd_ok {c : Cg} : OpS c (rAddM c.K) oAdd := fun pu W σ w H h u u' x y Fx Fy z Q ok hh ru ru' e p => by
  unfold oAdd at e
  split at e
  · cases e
    exact .inl (.inl ⟨_, _, ru.2, ru'.2, fin_d p ok hh rfl⟩)
  · split at e
    · rename_i hz
      cases e
      exact .inl (.inr ⟨_, _, ru.2, ru'.2, hz, fin_d p ok hh rfl⟩)
    · cases e
  · split at e
    · rename_i xs ys hz
      cases e
      obtain ⟨_, a, vs, rfl, fa, ta⟩ := ru
      obtain ⟨_, b, ws, rfl, fb, tb⟩ := ru'
      refine .inr (.inl ⟨a, b, vs, ws, rfl, rfl, fa.sq, fb.sq, by rw [ta.length, tb.length]; exact hz, fun e0 => ?_, fun e1 e2 => ?_, fun e1 e2 q hq => fin_tup p ok hh (ta.app tb) q hq⟩)
      · subst e0
        refine fin_d p ok hh ⟨b, ws, rfl, fb, ?_⟩
        have := ta.app tb
        simpa using this
      · subst e2
        refine fin_d p ok hh ⟨a, vs, rfl, fa, ?_⟩
        have := ta.app tb
        simpa using this
    · cases e
  · split at e
    · rename_i xs ys q1 q2
      split at e
      · rename_i hz
        cases e
        simp only [Bool.and_eq_true, decide_eq_true_eq] at hz
        obtain ⟨a, vs, G, rfl, ha, ta, _⟩ := asM_ok hh ru q1
        obtain ⟨b, ws, G', rfl, hb, tb, _⟩ := asM_ok hh ru' q2
        refine .inr (.inr ⟨a, b, vs, ws, rfl, rfl, ha, hb, by rw [ta.length, tb.length]; exact hz.2, fun q hq => fin_own p ok hh (ta.app tb) (by rw [List.all_append, hz.1.1, hz.1.2]; rfl) q hq⟩)
      · cases e
    · cases e
end MM

/-! MM5: more operators, comparisons, built-in functions. -/
namespace MM
open PySem PySem.Spec PyProof.Rows L2

def mapO {α β : Type} (f : α → Option β) : List α → Option (List β)
  | [] => some []
  | x :: xs => match f x, mapO f xs with
    | some y, some ys => some (y :: ys)
    | _, _ => none
theorem mapO_map {α β γ : Type} {f : α → Option β} {g : γ → α} {k : γ → β} (h : ∀ x, f (g x) = some (k x)) : ∀ xs : List γ, mapO f (xs.map g) = some (xs.map k)
  | [] => rfl
  | x :: xs => by simp only [List.map_cons, mapO, h x, mapO_map h xs]
theorem mapO_len {α β : Type} {f : α → Option β} : ∀ {xs : List α} {ys : List β}, mapO f xs = some ys → ys.length = xs.length
  | [], _, h => by cases h; rfl
  | x :: xs, _, h => by
    simp only [mapO] at h
    split at h
    · rename_i y ys q1 q2
      cases h
      rw [List.length_cons, List.length_cons, mapO_len q2]
    · cases h
/-! ### scalars -/
def uInt : UV → Option Int
  | .d (.int i) => some i
  | _ => none
def fV : UV → Option V
  | .d .non => some .non
  | .d (.bl b) => some (.bl b)
  | .d (.int i) => some (.int i)
  | .d (.str x) => some (.str x)
  | _ => none
section
variable {c : Cg} {Z : Addr → Prop} {H : Hp} {ρ : List Addr}
theorem uInt_ok {u : UV} {i : Int} {v : V} {F : List Addr} (e : uInt u = some i) (r : RU c Z H ρ u v F) : v = .int i := by
  unfold uInt at e
  split at e
  · cases e; exact r.2
  · cases e
theorem uInts_ok : ∀ {us : List UV} {ns : List Int} {vs : List V} {F : List Addr}, mapO uInt us = some ns → RUl c Z H ρ us vs F → vs = ns.map V.int
  | [], _, _, _, e, r => by cases e; exact r.1
  | u :: us, _, _, _, e, ⟨v, r, F1, F2, ev, eF, h, t⟩ => by
    simp only [mapO] at e
    split at e
    · rename_i i ns q1 q2
      cases e
      rw [ev, uInt_ok q1 h, uInts_ok q2 t]; rfl
    · cases e
theorem fV_ok {u : UV} {x : V} {v : V} {F : List Addr} (e : fV u = some x) (r : RU c Z H ρ u v F) : v = x ∧ flatV x = true := by
  unfold fV at e
  split at e <;> first | (cases e; exact ⟨r.2, rfl⟩) | cases e
theorem fVs_ok : ∀ {us : List UV} {ns : List V} {vs : List V} {F : List Addr}, mapO fV us = some ns → RUl c Z H ρ us vs F → vs = ns ∧ ns.all flatV = true
  | [], _, _, _, e, r => by cases e; exact ⟨r.1, rfl⟩
  | u :: us, _, _, _, e, ⟨v, r, F1, F2, ev, eF, h, t⟩ => by
    simp only [mapO] at e
    split at e
    · rename_i i ns q1 q2
      cases e
      have h1 := fV_ok q1 h
      have h2 := fVs_ok q2 t
      exact ⟨by rw [ev, h1.1, h2.1], by rw [List.all_cons, h1.2, h2.2]; rfl⟩
    · cases e
theorem ints_RUl : ∀ (ns : List Int), RUl c Z H ρ (ns.map fun i => .d (.int i)) (ns.map V.int) []
  | [] => ⟨rfl, rfl⟩
  | n :: ns => ⟨.int n, ns.map V.int, [], [], rfl, rfl, ⟨rfl, rfl⟩, ints_RUl ns⟩
theorem ints_RDl : ∀ (ns : List Int), RDl c Z H (ns.map .int) (ns.map V.int)
  | [] => rfl
  | n :: ns => ⟨.int n, ns.map V.int, rfl, rfl, ints_RDl ns⟩
end
/-- list or tuple -/
def asQ (h : HS) (u : UV) : Option (List UV) := match asT u with
  | some xs => some xs
  | none => asL h u
theorem asQ_ok {c : Cg} {w : Wd} {H : Hp} {h : HS} {u : UV} {v : V} {Fu : List Addr} {xs : List UV} (hh : RH c w.Z H w.ρ h w.F) (r : RU c w.Z H w.ρ u v Fu) (e : asQ h u = some xs) :
    ∃ a vs G, v = .ref a ∧ (SqL c.K H a vs ∨ SqT c.K H a vs) ∧ RUl c w.Z H w.ρ xs vs G ∧ ∀ b ∈ G, b ∈ Fu ∨ b ∈ w.F := by
  unfold asQ at e
  split at e
  · rename_i ys q
    cases e
    obtain ⟨a, vs, G, e1, e2, e3, e4⟩ := asT_ok r q
    exact ⟨a, vs, G, e1, .inr e2, e3, fun b hb => .inl (e4 b hb)⟩
  · obtain ⟨a, vs, G, e1, e2, e3, e4⟩ := asL_ok hh r e
    exact ⟨a, vs, G, e1, .inl e2, e3, e4⟩

/-! ### arithmetic -/
abbrev oSub := iOp (fun _ _ => true) (fun i j => .int (i - j))
abbrev oFdiv := iOp (fun i j => decide (CDiv i j)) (fun i j => .int (i / j))
abbrev oMod := iOp (fun _ j => decide (0 < j)) (fun i j => .int (i % j))
abbrev oPow := iOp (fun i j => decide (CPow i j)) (fun i j => .int (i ^ j.toNat))
def oMul : HS → UV → UV → Option UV := fun h u v => match u, v with
  | .d (.int i), .d (.int j) => if CMul i j then some (.d (.int (i * j))) else none
  | u, .d (.int k) => match asM h u with
    | some xs => if xs.all noOwn && decide (-(2 ^ 63) ≤ k ∧ k < 2 ^ 63 ∧ xs.length * k.toNat ≤ sizeLine) then some (.own (List.replicate k.toNat xs).flatten) else none
    | _ => none
  | _, _ => none
def oNeg : HS → UV → Option UV := fun _ u => (uInt u).map fun i => .d (.int (-i))
def rMulM : R2 := fun x y H Q => rI CMul (fun i j => .int (i * j)) x y H Q ∨ rRep x y H Q
theorem RUl.rep {c : Cg} {Z : Addr → Prop} {H : Hp} {ρ : List Addr} {xs : List UV} {vs : List V} (h : RUl c Z H ρ xs vs []) : ∀ k : Nat, RUl c Z H ρ (List.replicate k xs).flatten (List.replicate k vs).flatten []
  | 0 => ⟨rfl, rfl⟩
  | k + 1 => by
    rw [List.replicate_succ, List.replicate_succ, List.flatten_cons, List.flatten_cons]
    exact h.app (RUl.rep h k)
theorem all_rep {xs : List UV} (h : xs.all noOwn = true) : ∀ k : Nat, (List.replicate k xs).flatten.all noOwn = true
  | 0 => rfl
  | k + 1 => by
    rw [List.replicate_succ, List.flatten_cons, List.all_append, h, all_rep h k]; rfl
section
variable {X : Cx} {c : Cg}
theorem oSub_ok : OpS c (rI0 fun i j => .int (i - j)) oSub := iOp_ok0 fun _ _ _ _ => rfl
theorem oFdiv_ok : OpS c (rI CDiv fun i j => .int (i / j)) oFdiv := iOp_ok (fun _ _ h => of_decide_eq_true h) fun _ _ _ _ => rfl
theorem oMod_ok : OpS c (rI (fun _ j => 0 < j) fun i j => .int (i % j)) oMod := iOp_ok (fun _ _ h => of_decide_eq_true h) fun _ _ _ _ => rfl
theorem oPow_ok : OpS c (rI CPow fun i j => .int (i ^ j.toNat)) oPow := iOp_ok (fun _ _ h => of_decide_eq_true h) fun _ _ _ _ => rfl
theorem op_mulM : OpR X (binaryOp .Mult) rMulM := op_mul.or op_rep
theorem oMul_ok : OpS c rMulM oMul := fun pu W σ w H h u u' x y Fx Fy z Q ok hh ru ru' e p => by
  unfold oMul at e
  split at e
  · split at e
    · rename_i hc
      cases e
      exact .inl ⟨_, _, ru.2, ru'.2, hc, fin_d p ok hh rfl⟩
    · cases e
  · split at e
    · rename_i xs q
      split at e
      · rename_i hz
        cases e
        simp only [Bool.and_eq_true, decide_eq_true_eq] at hz
        obtain ⟨a, vs, G, rfl, ha, ta, _⟩ := asM_ok hh ru q
        have eG := noOwn_all hz.1 ta
        subst eG
        exact .inr ⟨a, _, vs, rfl, ru'.2, ha, hz.2.1, hz.2.2.1, by rw [ta.length]; exact hz.2.2.2, fun q hq => fin_own p ok hh (ta.rep _) (all_rep hz.1 _) q hq⟩
      · cases e
    · cases e
  · cases e
theorem oNeg_ok : UnS c (rU fun i => .int (-i)) oNeg := fun pu W σ w H h u x Fx z Q ok hh ru e p => by
  unfold oNeg at e
  rw [Option.map_eq_some_iff] at e
  obtain ⟨i, q, rfl⟩ := e
  exact ⟨i, uInt_ok q ru, fin_d p ok hh rfl⟩

/-! ### comparisons -/
def oLt (s : Bool) (g : Int → Int → Bool) : HS → UV → UV → Option UV := fun _ u v => match u, v with
  | .d (.int i), .d (.int j) => some (.d (.bl (g i j)))
  | _, _ => none
abbrev cLt := oLt true fun i j => decide (i < j)
abbrev cLe := oLt true fun i j => decide (i ≤ j)
abbrev cGt := oLt true fun i j => decide (j < i)
abbrev cGe := oLt true fun i j => decide (j ≤ i)
theorem oLt_ok {s : Bool} {g : Int → Int → Bool} : OpS c (rI0 fun i j => .bl (g i j)) (oLt s g) := OpS.data fun w H h u u' x y Fx Fy z Q ok hh ru ru' e q => by
  unfold oLt at e
  split at e
  · rename_i i j
    cases e
    exact ⟨i, j, ru.2, ru'.2, q _ _ rfl rfl⟩
  · cases e
/-- is None -/
def isNon : UV → Bool
  | .d .non => true
  | _ => false
def oIs : HS → UV → UV → Option UV := fun _ u v => match v with
  | .d .non => some (.d (.bl (isNon u)))
  | _ => none
def oIsNot : HS → UV → UV → Option UV := fun _ u v => match v with
  | .d .non => some (.d (.bl (!isNon u)))
  | _ => none
theorem isNon_ok {Z : Addr → Prop} {H : Hp} {ρ : List Addr} {u : UV} {x : V} {F : List Addr} (r : RU c Z H ρ u x F) : decide (x = .non) = isNon u := by
  cases u with
  | d y =>
    obtain ⟨_, r⟩ := r
    cases y with
    | non => rw [show x = _ from r]; rfl
    | bl b => rw [show x = _ from r]; rfl
    | int b => rw [show x = _ from r]; rfl
    | str b => rw [show x = _ from r]; rfl
    | ty b => rw [show x = _ from r]; rfl
    | tup xs => obtain ⟨a, _, rfl, _⟩ := r; rfl
    | lst xs => obtain ⟨a, _, rfl, _⟩ := r; rfl
    | rol xs => obtain ⟨a, _, rfl, _⟩ := r; rfl
    | dK xs => obtain ⟨a, _, rfl, _⟩ := r; rfl
    | dT xs => obtain ⟨a, _, rfl, _⟩ := r; rfl
    | ins C xs => obtain ⟨a, _, _, _, rfl, _⟩ := r; rfl
    | exn C xs => obtain ⟨a, _, _, _, rfl, _⟩ := r; rfl
    | glo x => obtain ⟨a, rfl, _⟩ := r; rfl
  | ref i => obtain ⟨_, a, _, rfl⟩ := r; rfl
  | tp xs => obtain ⟨a, _, rfl, _⟩ := r; rfl
  | fl xs => obtain ⟨a, _, rfl, _⟩ := r; rfl
  | own xs => obtain ⟨a, _, _, rfl, _⟩ := r; rfl
  | odK xs => obtain ⟨a, _, _, rfl, _⟩ := r; rfl
  | odT xs => obtain ⟨a, _, _, rfl, _⟩ := r; rfl
  | clo i xs => obtain ⟨_, _, f, _, _, _, _, rfl, _⟩ := r; rfl
theorem oIs_ok : OpS c (fun x y H Q => y = .non ∧ Q (.bl (decide (x = .non))) H) oIs := OpS.data fun w H h u u' x y Fx Fy z Q ok hh ru ru' e q => by
  unfold oIs at e
  split at e
  · cases e
    refine ⟨ru'.2, ?_⟩
    rw [isNon_ok ru]
    exact q _ _ rfl rfl
  · cases e
theorem oIsNot_ok : OpS c (fun x y H Q => y = .non ∧ Q (.bl (!decide (x = .non))) H) oIsNot := OpS.data fun w H h u u' x y Fx Fy z Q ok hh ru ru' e q => by
  unfold oIsNot at e
  split at e
  · cases e
    refine ⟨ru'.2, ?_⟩
    rw [isNon_ok ru]
    exact q _ _ rfl rfl
  · cases e
end

/-! ### == of data -/
mutual
def dP : DV → Option PyData
  | .non => some .none
  | .bl b => some (.bool b)
  | .int i => some (.int i)
  | .str x => some (.str x)
  | .tup xs => (dPl xs).map .tuple
  | .lst xs => (dPl xs).map .list
  | .rol xs => (dPl xs).map .list
  | .dK _ => none
  | .dT _ => none
  | .ins _ _ => none
  | .exn _ _ => none
  | .glo _ => none
  | .ty _ => none
def dPl : List DV → Option (List PyData)
  | [] => some []
  | x :: xs => match dP x, dPl xs with
    | some y, some ys => some (y :: ys)
    | _, _ => none
end
section
variable {c : Cg} {Z : Addr → Prop} {H : Hp}
mutual
theorem dP_ok : ∀ {x : DV} {v : V} {d : PyData}, RD c Z H x v → dP x = some d → Dp c.K H v d
  | .non, _, _, r, e => by cases e; rw [show _ = _ from r]; exact .non
  | .bl _, _, _, r, e => by cases e; rw [show _ = _ from r]; exact .bl _
  | .int _, _, _, r, e => by cases e; rw [show _ = _ from r]; exact .int _
  | .str _, _, _, r, e => by cases e; rw [show _ = _ from r]; exact .str _
  | .tup xs, _, _, ⟨a, vs, e1, f, t⟩, e => by
    simp only [dP, Option.map_eq_some_iff] at e
    obtain ⟨ds, q, rfl⟩ := e
    rw [e1]; exact .tup f.sq (dPl_ok t q)
  | .lst xs, _, _, ⟨a, vs, e1, _, f, t⟩, e => by
    simp only [dP, Option.map_eq_some_iff] at e
    obtain ⟨ds, q, rfl⟩ := e
    rw [e1]; exact .lst (.of f) (dPl_ok t q)
  | .rol xs, _, _, ⟨a, vs, e1, f, t⟩, e => by
    simp only [dP, Option.map_eq_some_iff] at e
    obtain ⟨ds, q, rfl⟩ := e
    rw [e1]; exact .lst f.sq (dPl_ok t q)
  | .dK _, _, _, _, e => by cases e
  | .dT _, _, _, _, e => by cases e
  | .ins _ _, _, _, _, e => by cases e
  | .exn _ _, _, _, _, e => by cases e
  | .glo _, _, _, _, e => by cases e
  | .ty _, _, _, _, e => by cases e
theorem dPl_ok : ∀ {x : List DV} {v : List V} {d : List PyData}, RDl c Z H x v → dPl x = some d → DpAll c.K H v d
  | [], _, _, r, e => by cases e; rw [show _ = _ from r]; exact .nil
  | x :: xs, _, _, ⟨v, r, e1, h, t⟩, e => by
    simp only [dPl] at e
    split at e
    · rename_i y ys q1 q2
      cases e
      rw [e1]; exact .cons (dP_ok h q1) (dPl_ok t q2)
    · cases e
end
end
/-- data as it is now -/
def dat (h : HS) : UV → Option DV
  | .ref i => match h[i]? with
    | some (.lst xs) => (toDl xs).map .lst
    | _ => none
  | u => toD u
theorem dat_ok {c : Cg} {w : Wd} {H : Hp} {h : HS} {u : UV} {v : V} {F : List Addr} {x : DV} (hh : RH c w.Z H w.ρ h w.F) (r : RU c w.Z H w.ρ u v F) (e : dat h u = some x) : RD c (fun _ => True) H x v := by
  unfold dat at e
  split at e
  · rename_i i
    split at e
    · rename_i xs q
      rw [Option.map_eq_some_iff] at e
      obtain ⟨ys, q2, rfl⟩ := e
      obtain ⟨_, a, e1, rfl⟩ := r
      obtain ⟨a', G, e3, ⟨vs, G', e4, e5, t⟩, s⟩ := hh.get q
      rw [e1] at e3; cases e3
      exact ⟨a, vs, rfl, trivial, e4, toDl_ok (fun _ _ => trivial) (fun _ _ => trivial) t q2⟩
    · cases e
  · exact toD_ok (fun _ _ => trivial) (fun _ _ => trivial) r e
def eqD (x y : DV) : Option Bool := match dP x, dP y with
  | some a, some b => if SeqAt.shaped a && SeqAt.shaped b then some (PyData.eqv a b) else none
  | _, _ => none
def oEq (neg : Bool) : HS → UV → UV → Option UV := fun h u v => match dat h u, dat h v with
  | some x, some y => (eqD x y).map fun b => .d (.bl (if neg then !b else b))
  | _, _ => none
section
variable {c : Cg}
theorem eqD_ok {Z : Addr → Prop} {H : Hp} {x y : DV} {v u : V} {b : Bool} (rx : RD c Z H x v) (ry : RD c Z H y u) (e : eqD x y = some b) : ∃ d f, Dp c.K H v d ∧ Dp c.K H u f ∧ SeqAt.shaped d = true ∧ SeqAt.shaped f = true ∧ b = PyData.eqv d f := by
  unfold eqD at e
  split at e
  · rename_i d f q1 q2
    split at e
    · rename_i hs
      cases e
      rw [Bool.and_eq_true] at hs
      exact ⟨d, f, dP_ok rx q1, dP_ok ry q2, hs.1, hs.2, rfl⟩
    · cases e
  · cases e
theorem oEq_ok : OpS c (rEqD c.K) (oEq false) := OpS.data fun w H h u u' x y Fx Fy z Q ok hh ru ru' e q => by
  unfold oEq at e
  split at e
  · rename_i d f q1 q2
    rw [Option.map_eq_some_iff] at e
    obtain ⟨b, e1, rfl⟩ := e
    obtain ⟨d', f', h1, h2, h3, h4, rfl⟩ := eqD_ok (dat_ok hh ru q1) (dat_ok hh ru' q2) e1
    exact ⟨d', f', h1, h2, h3, h4, q _ _ rfl rfl⟩
  · cases e
theorem oNe_ok : OpS c (rNeD c.K) (oEq true) := OpS.data fun w H h u u' x y Fx Fy z Q ok hh ru ru' e q => by
  unfold oEq at e
  split at e
  · rename_i d f q1 q2
    rw [Option.map_eq_some_iff] at e
    obtain ⟨b, e1, rfl⟩ := e
    obtain ⟨d', f', h1, h2, h3, h4, rfl⟩ := eqD_ok (dat_ok hh ru q1) (dat_ok hh ru' q2) e1
    exact ⟨d', f', h1, h2, h3, h4, q _ _ rfl rfl⟩
  · cases e
end

/-! ### in -/
def oIn (neg : Bool) : HS → UV → UV → Option UV := fun h u v => match fV u, (asQ h v).bind (mapO fV) with
  | some x, some vs => some (.d (.bl (if neg then !inV x vs else inV x vs)))
  | _, _ => none
section
variable {c : Cg} {X : Cx}
theorem oIn_ok {neg : Bool} : OpS c (rIn c.K neg) (oIn neg) := OpS.data fun w H h u u' x y Fx Fy z Q ok hh ru ru' e q => by
  unfold oIn at e
  split at e
  · rename_i x' vs q1 q2
    cases e
    rw [Option.bind_eq_some_iff] at q2
    obtain ⟨us, q2, q3⟩ := q2
    obtain ⟨a, ws, G, e1, e2, e3, _⟩ := asQ_ok hh ru' q2
    obtain ⟨e4, e5⟩ := fVs_ok q3 e3
    subst e4
    obtain ⟨e6, e7⟩ := fV_ok q1 ru
    subst e6
    exact ⟨a, ws, e1, e2, e7, e5, q _ _ rfl rfl⟩
  · cases e

/-! ### built-in functions -/
def lenU (h : HS) : UV → Option Nat
  | .d (.str x) => if x.length ≤ sizeLine then some x.length else none
  | u => (asQ h u).map (·.length)
def fLen : HS → UV → Option UV := fun h u => (lenU h u).map fun (n : Nat) => .d (.int (n : Int))
theorem fLen_ok : UnS c (fun x H Q => ∃ y n, [x] = [y] ∧ LenV c.K y H n ∧ Q (.int n) H) fLen := fun pu W σ w H h u x Fx z Q ok hh ru e p => by
  unfold fLen at e
  rw [Option.map_eq_some_iff] at e
  obtain ⟨n, q, rfl⟩ := e
  refine ⟨x, n, rfl, ?_, fin_d p ok hh rfl⟩
  unfold lenU at q
  split at q
  · split at q
    · rename_i hz
      cases q
      rw [show x = _ from ru.2]
      exact ⟨hz, rfl⟩
    · cases q
  · rw [Option.map_eq_some_iff] at q
    obtain ⟨xs, q, rfl⟩ := q
    obtain ⟨a, ws, G, rfl, e2, e3, _⟩ := asQ_ok hh ru q
    rcases e2 with e2 | e2
    · exact .inl ⟨ws, e2, e3.length.symm⟩
    · exact .inr ⟨ws, e2, e3.length.symm⟩
def fAbs : HS → UV → Option UV := fun _ u => (uInt u).map fun i => .d (.int (if i < 0 then -i else i))
theorem fAbs_ok : UnS c (fun x H Q => ∃ i, [x] = [.int i] ∧ Q (.int (if i < 0 then -i else i)) H) fAbs := fun pu W σ w H h u x Fx z Q ok hh ru e p => by
  unfold fAbs at e
  rw [Option.map_eq_some_iff] at e
  obtain ⟨i, q, rfl⟩ := e
  exact ⟨i, by rw [uInt_ok q ru], fin_d p ok hh rfl⟩
def fInt : HS → UV → Option UV := fun _ u => match u with
  | .d (.int i) => some (.d (.int i))
  | .d (.bl k) => some (.d (.int (if k then 1 else 0)))
  | _ => none
theorem fInt_ok : UnS c (fun x H Q => (∃ i, [x] = [.int i] ∧ Q (.int i) H) ∨ ∃ k, [x] = [.bl k] ∧ Q (.int (if k then 1 else 0)) H) fInt := fun pu W σ w H h u x Fx z Q ok hh ru e p => by
  unfold fInt at e
  split at e
  · cases e
    exact .inl ⟨_, by rw [show x = _ from ru.2], fin_d p ok hh rfl⟩
  · cases e
    exact .inr ⟨_, by rw [show x = _ from ru.2], fin_d p ok hh rfl⟩
  · cases e
end
end MM

/-! MM6: items, slices, sums, tests. -/
namespace MM
open PySem PySem.Spec PyProof.Rows L2

/-! ### items -/
def OpM (md : Md) (c : Cg) (r : R2) (f : HS → UV → UV → Option UV) : Prop :=
  ∀ (pu : Bool) (W : WX) (σ : L2.St) (w : Wd) (H : Hp) (h : HS) (u u' : UV) (x y : V) (Fx Fy : List Addr) (z : UV) (Q : VK), WOk w H → RH c w.Z H w.ρ h w.F → RU c w.Z H w.ρ u x Fx → RU c w.Z H w.ρ u' y Fy → f h u u' = some z → EPo pu md c W σ w H Q (.ok z h) → r x y H Q
section
variable {X : Cx} {c : Cg} {W : WX} {ma mb m : ME} {σ : L2.St} {H : Hp} {Q : VK} {a b : Expr} {pos : Pos} {pu : Bool}
theorem bin_okM {md : Md} {r : R2} {f : HS → UV → UV → Option UV} (hf : OpM md c r f) (h : tV pu md c W (mBin f ma mb) σ H Q) : tV pu .B c W ma σ H fun x H1 => tV pu .C c W mb σ H1 fun y H2 => r x y H2 Q := by
  obtain ⟨w, Fs, σd, hd, S, p⟩ := h
  refine step1 (md := .B) S p fun u h1 w1 H1 x Fx S1 mo ru p1 => ?_
  refine step1 (md := .C) S1 p1 fun v h2 w2 H2 y Fy S2 mo2 rv p2 => ?_
  cases q : f h2 u v with
  | none => rw [q] at p2; exact p2.elim
  | some z =>
    rw [q] at p2
    exact hf pu W σ w2 H2 h2 u v x y Fx Fy z Q S2.wok S2.h (ru.after S1.wok (fun a ha => (mo.2.2 a ha).1) mo2.ext.1) rv q p2
def itemU (h : HS) (u v : UV) : Option UV := match uInt v with
  | some i => match asQ h u with
    | some xs => atI xs i
    | none => match u with
      | .d (.str x) => if x.length ≤ sizeLine then (atI x.cps.toList i).map fun k => .d (.str ⟨#[k]⟩) else none
      | _ => none
  | none => none
def oItem (h : HS) (u v : UV) : Option UV := match itemU h u v with
  | some z => if noOwn z then some z else none
  | none => none
theorem atI_RU {c : Cg} {Z : Addr → Prop} {H : Hp} {ρ : List Addr} {xs : List UV} {vs : List V} {F : List Addr} {i : Int} {z : UV} (h : RUl c Z H ρ xs vs F) (e : atI xs i = some z) : ∃ v G, atI vs i = some v ∧ RU c Z H ρ z v G := by
  unfold atI at e ⊢
  rw [h.length]
  cases q : ixN xs.length i with
  | none => rw [q] at e; cases e
  | some j =>
    rw [q] at e
    obtain ⟨v, G, e1, e2, _⟩ := h.get (i := j) (by simpa using e)
    exact ⟨v, G, by simpa using e1, e2⟩
theorem itemU_ok {w : Wd} {h : HS} {u v z : UV} {x y : V} {Fx Fy : List Addr} (hh : RH c w.Z H w.ρ h w.F) (ru : RU c w.Z H w.ρ u x Fx) (rv : RU c w.Z H w.ρ v y Fy) (e : itemU h u v = some z) (q : ∀ t G, RU c w.Z H w.ρ z t G → Q t H) : rIx c.K x y H Q := by
  unfold itemU at e
  split at e
  · rename_i i q1
    have ey := uInt_ok q1 rv
    split at e
    · rename_i xs q2
      obtain ⟨a, vs, G, e1, e2, e3, _⟩ := asQ_ok hh ru q2
      obtain ⟨t, G', e4, e5⟩ := atI_RU e3 e
      rcases e2 with e2 | e2
      · exact .inl ⟨a, vs, i, t, e1, ey, e2, e4, q t G' e5⟩
      · exact .inr (.inl ⟨a, vs, i, t, e1, ey, e2, e4, q t G' e5⟩)
    · split at e
      · split at e
        · rename_i hz
          rw [Option.map_eq_some_iff] at e
          obtain ⟨k, e, rfl⟩ := e
          exact .inr (.inr ⟨_, i, k, ru.2, ey, hz, e, q _ [] ⟨rfl, rfl⟩⟩)
        · cases e
      · cases e
  · cases e
theorem itemC_ok : OpM .C c (rIx c.K) itemU := fun pu W σ w H h u u' x y Fx Fy z Q ok hh ru ru' e p =>
  itemU_ok hh ru ru' e fun t G r => p w H t G ⟨Ext.refl, ok⟩ .refl hh r
theorem oItem_ok : OpS c (rIx c.K) oItem := fun pu W σ w H h u u' x y Fx Fy z Q ok hh ru ru' e p => by
  unfold oItem at e
  split at e
  · rename_i z' q
    split at e
    · rename_i hn
      cases e
      refine itemU_ok hh ru ru' q fun t G r => ?_
      have eG := noOwn_F hn r
      subst eG
      exact p w H t [] (.same ok) .refl hh r
    · cases e
  · cases e
/-- a[b], handed on -/
theorem e_ix (hK : c.K = X.K) (ha : PE X a (tV pu .B c W ma)) (hb : PE X b (tV pu .C c W mb)) (hs : PlainIx b) : PE X (.Subscript a b pos) (tV pu .E c W (mBin oItem ma mb)) :=
  PE.imp (pe_ix ix_seq ha hb hs) fun _ _ _ h => by rw [← hK]; exact bin_ok oItem_ok h
/-- a[b], looked at -/
theorem c_ix (hK : c.K = X.K) (ha : PE X a (tV pu .B c W ma)) (hb : PE X b (tV pu .C c W mb)) (hs : PlainIx b) : PE X (.Subscript a b pos) (tV pu .C c W (mBin itemU ma mb)) :=
  PE.imp (pe_ix ix_seq ha hb hs) fun _ _ _ h => by rw [← hK]; exact bin_okM itemC_ok h

/-- a written dict of the module by text keys -/
def tabGet (t : List (Str × DV)) : HS → UV → Option UV := fun _ u => match u with
  | .d (.str x) => (t.lookup x).map .d
  | _ => none
def TabOk (c : Cg) (w0 : World) (p : Addr) (t : List (Str × DV)) : Prop := ∀ x d, t.lookup x = some d → ∃ v, KDct c.K w0 p x v ∧ ∀ Z H, RD c Z H d v
theorem e_tab {x : Str} {px : Pos} {p : Addr} {t : List (Str × DV)} (hK : c.K = X.K) (hg : Gl X x) (hm : X.mg x = some (.ref p)) (ht : TabOk c X.w p t) (hb : PE X b (tV pu .C c W mb)) (hs : PlainIx b) (hd : (x == ("__debug__" : Str)) = false := by decide) :
    PE X (.Subscript (.Name x px) b pos) (tV pu .E c W (mUn (tabGet t) mb)) :=
  PE.imp (pe_ix ix_kdict (pe_glob (v := .ref p) hg hm rfl hd) hb hs) fun σ H Q h => by
    refine un_ok (r := fun y H2 Q => rIxD X.K X.w (.ref p) y H2 Q) (fun pu W σ w H h u x Fx z Q ok hh ru e q => ?_) h
    unfold tabGet at e
    split at e
    · rename_i y
      rw [Option.map_eq_some_iff] at e
      obtain ⟨d, e, rfl⟩ := e
      obtain ⟨v, k, r⟩ := ht y d e
      rw [hK] at k
      exact ⟨p, y, v, rfl, ru.2, k, fin_d q ok hh (r _ _)⟩
    · cases e

/-! ### slices -/
def cutL {α : Type} (xs : List α) (lo hi : Option Int) : List α := (xs.drop (HT.sIx xs.length 0 lo)).take (HT.sIx xs.length xs.length hi - HT.sIx xs.length 0 lo)
theorem RUl.drop {Z : Addr → Prop} {ρ : List Addr} : ∀ {xs : List UV} {vs : List V} (n : Nat), RUl c Z H ρ xs vs [] → RUl c Z H ρ (xs.drop n) (vs.drop n) []
  | _, _, 0, h => h
  | [], _, n + 1, h => by rw [h.1]; exact ⟨rfl, rfl⟩
  | _ :: _, _, n + 1, ⟨v, r, F1, F2, e, eF, h, t⟩ => by
    have := List.append_eq_nil_iff.mp eF.symm
    rw [this.2] at t
    rw [e]; exact RUl.drop n t
theorem RUl.take {Z : Addr → Prop} {ρ : List Addr} : ∀ {xs : List UV} {vs : List V} (n : Nat), RUl c Z H ρ xs vs [] → RUl c Z H ρ (xs.take n) (vs.take n) []
  | _, _, 0, h => ⟨rfl, rfl⟩
  | [], _, n + 1, h => by rw [h.1]; exact ⟨rfl, rfl⟩
  | _ :: _, _, n + 1, ⟨v, r, F1, F2, e, eF, h, t⟩ => by
    have := List.append_eq_nil_iff.mp eF.symm
    rw [this.2] at t
    rw [this.1] at h
    rw [e]; exact ⟨v, r.take n, [], [], rfl, rfl, h, RUl.take n t⟩
theorem RDl.drop {Z : Addr → Prop} : ∀ {xs : List DV} {vs : List V} (n : Nat), RDl c Z H xs vs → RDl c Z H (xs.drop n) (vs.drop n)
  | _, _, 0, h => h
  | [], _, n + 1, h => by rw [show _ = [] from h]; rfl
  | _ :: _, _, n + 1, ⟨v, r, e, h, t⟩ => by rw [e]; exact RDl.drop n t
theorem RDl.take {Z : Addr → Prop} : ∀ {xs : List DV} {vs : List V} (n : Nat), RDl c Z H xs vs → RDl c Z H (xs.take n) (vs.take n)
  | _, _, 0, h => rfl
  | [], _, n + 1, h => by rw [show _ = [] from h]; rfl
  | _ :: _, _, n + 1, ⟨v, r, e, h, t⟩ => by rw [e]; exact ⟨v, r.take n, rfl, h, RDl.take n t⟩
theorem all_cut {xs : List UV} {lo hi : Option Int} (h : xs.all noOwn = true) : (cutL xs lo hi).all noOwn = true := by
  rw [List.all_eq_true] at h ⊢
  exact fun x hx => h x (List.mem_of_mem_drop (List.mem_of_mem_take hx))
def sliceU (h : HS) (u : UV) (lo hi : Option Int) : Option UV := match u with
  | .d (.tup xs) => some (.d (.tup (cutL xs lo hi)))
  | u => match asL h u with
    | some xs => if xs.all noOwn then some (.own (cutL xs lo hi)) else none
    | none => none
abbrev MO := SL → HS → MR (Option Int)
def oNo : MO := fun _ h => .ok none h
def oYes (m : ME) : MO := fun σ h => bindM (m σ h) fun u h1 => ofO ((uInt u).map some) h1
def mSlice (m : ME) (lo hi : MO) : ME := fun σ h => bindM (m σ h) fun u h1 => bindM (lo σ h1) fun l h2 => bindM (hi σ h2) fun r h3 => ofO (sliceU h3 u l r) h3
def tO (pu : Bool) (c : Cg) (W : WX) (m : MO) : TO := fun σ H Q => ∃ w Fs σd hd, Sta c w Fs σd hd σ H ∧ match m σd hd with
  | .ok o h' => ∀ (w' : Wd) (H' : Hp), Ext w H w' H' → WOk w' H' → Pu pu H H' → RH c w'.Z H' w'.ρ h' w'.F → Q o H'
  | .err e h' => ∀ (w' : Wd) (H' : Hp) (cls : Value) (dx : Option Addr), Ext w H w' H' → WOk w' H' → RH c w'.Z H' w'.ρ h' w'.F → RX c w'.Z H' e cls dx → W cls dx σ H'
  | .bad => False
theorem PO.imp {e : Option Expr} {t t' : TO} (h : PO X e t) (i : ∀ σ H Q, t' σ H Q → t σ H Q) : PO X e t' := ⟨fun pins s σ H Q I q => h.run pins s σ H Q I (i σ H Q q)⟩
theorem o_no : PO X none (tO pu c W oNo) := PO.imp po_none fun σ H Q ⟨w, Fs, σd, hd, S, p⟩ => p w H Ext.refl S.wok .refl S.h
theorem o_yes (h : PE X a (tV pu .C c W m)) : PO X (some a) (tO pu c W (oYes m)) := PO.imp (po_some h) fun σ H Q ⟨w, Fs, σd, hd, S, p⟩ => ⟨w, Fs, σd, hd, S, by
  unfold oYes at p
  revert p
  cases m σd hd with
  | err x h' => exact fun p => p
  | bad => exact fun p => p
  | ok u h1 =>
    intro p w1 H1 x Fx mo pp rh ru
    cases q : uInt u with
    | none => simp only [bindM_ok, q, Option.map_none, ofO_none] at p
    | some i =>
      simp only [bindM_ok, q, Option.map_some, ofO_some] at p
      exact ⟨i, uInt_ok q ru, p w1 H1 mo.1 mo.2 pp rh⟩⟩
def rSlM (K : PySem.W.Frag) : V → Option Int → Option Int → Hp → VK → Prop := fun x lo hi H Q => rSlA K x lo hi H Q ∨ rSlL K x lo hi H Q
theorem cut_whole {α : Type} {xs : List α} {lo hi : Option Int} (h1 : HT.sIx xs.length 0 lo = 0) (h2 : HT.sIx xs.length xs.length hi = xs.length) : cutL xs lo hi = xs := by
  unfold cutL
  rw [h1, h2]
  simp
theorem sliceU_ok {w : Wd} {h : HS} {u z : UV} {x : V} {Fx : List Addr} {lo hi : Option Int} (ok : WOk w H) (hh : RH c w.Z H w.ρ h w.F) (ru : RU c w.Z H w.ρ u x Fx) (e : sliceU h u lo hi = some z) (p : EPo pu .E c W σ w H Q (.ok z h)) : rSlM c.K x lo hi H Q := by
  unfold sliceU at e
  split at e
  · rename_i xs
    cases e
    obtain ⟨_, a, vs, rfl, f, t⟩ := ru
    have tt : RDl c w.Z H (cutL xs lo hi) (cutV vs lo hi) := by
      show RDl c w.Z H ((xs.drop _).take _) ((vs.drop _).take _)
      rw [t.length]
      exact (t.drop _).take _
    refine .inl ⟨a, vs, rfl, f.sq, fun e => ?_, fun _ q hq => fin_tup p ok hh tt q hq⟩
    rw [t.length] at e
    rw [cut_whole e.1 e.2] at p
    exact fin_d p ok hh ⟨a, vs, rfl, f, t⟩
  · split at e
    · rename_i xs q
      split at e
      · rename_i hn
        cases e
        obtain ⟨a, vs, G, rfl, e1, t, _⟩ := asL_ok hh ru q
        have eG := noOwn_all hn t
        subst eG
        have tt : RUl c w.Z H w.ρ (cutL xs lo hi) (cutV vs lo hi) [] := by
          show RUl c w.Z H w.ρ ((xs.drop _).take _) ((vs.drop _).take _) []
          rw [t.length]
          exact (t.drop _).take _
        exact .inr ⟨a, vs, rfl, e1, fun q hq => fin_own p ok hh tt (all_cut hn) q hq⟩
      · cases e
    · cases e
theorem e_slice {lo hi : Option Expr} {ml mh : MO} {p2 : Pos} (hK : c.K = X.K) (ha : PE X a (tV pu .B c W m)) (hl : PO X lo (tO pu c W ml)) (hh : PO X hi (tO pu c W mh)) : PE X (.Subscript a (.Slice lo hi none p2) pos) (tV pu .E c W (mSlice m ml mh)) :=
  PE.imp (pe_slice (sl_tupA.or sl_list) ha hl hh) fun σ H Q ⟨w, Fs, σd, hd, S, p⟩ => by
    refine step1 (md := .B) S p fun u h1 w1 H1 x Fx S1 mo ru p1 => ?_
    refine ⟨w1, Fs, σd, h1, S1, ?_⟩
    revert p1
    cases ml σd h1 with
    | err e h' => exact fun p => p
    | bad => exact fun p => p
    | ok l h2 =>
      intro p1 w2 H2 e2 o2 pp2 r2
      have S2 := S1.ext e2 o2 r2
      have p2 := EPo.shift e2 o2 pp2 p1
      refine ⟨w2, Fs, σd, h2, S2, ?_⟩
      revert p2
      simp only [bindM_ok]
      cases mh σd h2 with
      | err e h' => exact fun p => p
      | bad => exact fun p => p
      | ok r h3 =>
        intro p2 w3 H3 e3 o3 pp3 r3
        have p3 := EPo.shift e3 o3 pp3 p2
        simp only [bindM_ok] at p3
        cases q : sliceU h3 u l r with
        | none => rw [q] at p3; exact p3.elim
        | some z =>
          rw [q] at p3
          have := sliceU_ok o3 r3 (ru.after S1.wok (fun a ha => (mo.2.2 a ha).1) (e2.trans o2 e3)) q p3
          rw [hK] at this
          exact this
end

/-! ### sum, max, min -/
section
variable {X : Cx} {c : Cg}
theorem iter_intTup {prog : Program} {w : World} {A : Around} {E : Value → Shared → Prop} {s : Shared} {l : Addr} {items : Array Value} {Q : Value → Shared → Prop} (hl : s.heap.IsTuple l items)
    (h : ∀ s₂ : Shared, s₂ = { s with heap := s.heap.push { cls := .type "tuple_iterator", data := .fields #[.ref l, .int 0 0] } } →
      (s₂.heap.IsTupleIter s.heap.objs.size l 0 ∧ s₂.heap.IsTuple l items) → (∀ b ∈ [s.heap.objs.size, l], b < s₂.heap.objs.size) → l ≠ s.heap.objs.size → Q (.ref s.heap.objs.size) s₂) :
    wpAny (model prog w) A (pyIter (.ref l)) Q E s := by
  have hlt : l < s.heap.objs.size := by obtain ⟨_, e, _⟩ := hl; exact Heap.lt_size e
  refine wpAny_pyIter_tuple hl (h _ rfl ⟨⟨_, Heap.get?_push_size _ rfl, rfl, rfl⟩, ?_⟩ (fun b hb => ?_) (Nat.ne_of_lt hlt))
  · obtain ⟨o, e, r⟩ := hl
    exact ⟨o, Heap.get?_push_of_some _ e, r⟩
  · show b < (s.heap.push _).objs.size
    rw [Heap.size_push]
    rcases List.mem_cons.mp hb with rfl | hb
    · exact Nat.lt_succ_self _
    · rcases List.mem_cons.mp hb with rfl | hb
      · exact Nat.lt_succ_of_lt hlt
      · cases hb
theorem kept_of1 {s : Shared} {h' : Heap} {ob : Obj} (hk : ∀ b o, b ∉ [s.heap.objs.size] → (s.heap.push ob).get? b = some o → h'.get? b = some o) : ∀ b o, s.heap.get? b = some o → h'.get? b = some o := fun b o e => by
  refine hk b o (fun hm => ?_) (Heap.get?_push_of_some _ e)
  rcases List.mem_cons.mp hm with e1 | hm
  · exact absurd (e1 ▸ Heap.lt_size e) (Nat.lt_irrefl _)
  · cases hm
def rSumT (K : PySem.W.Frag) : List V → Hp → VK → Prop := fun vs H Q => ∃ (a : Addr) (ns : List Int), vs = [V.ref a] ∧ SqT K H a (ns.map V.int) ∧ Q (.int ns.sum) H
theorem cr_sumT (hc : X.calm = true) : CallR X (.builtin "sum") (rSumT X.K) := by
  intro pins s σ H vs us Q I r h
  obtain ⟨a, ns, rfl, hs, q⟩ := h
  obtain ⟨its, rv, hl, _⟩ := I.tuple hs
  rw [Vals.ref1 r]
  have hi := rv.ints
  obtain ⟨xs, e⟩ := hi.allInts.items
  have hn : numsOf (intItems xs).toList = ns := by rw [← e]; exact hi.numsOf
  rw [nums_intItems] at hn
  rw [e] at hl
  refine call_sum_walkG (iter_intTup (show s.heap.IsTuple a (intItems xs) from hl) fun s₂ e st hfp hlI => ?_)
  subst e
  refine ⟨_, _, _, _, _, _, numAt xs, rfl, Walks.tuple (A := X.A.in1) (I.ok.hd hc) _ a hlI (intItems xs), st, hfp, (fun _ _ => intItems_at), fun h' tk t' hk => ?_⟩
  refine ⟨.int ns.sum, H, I.kept (kept_of1 hk), ⟨t', ?_⟩, q⟩
  rw [show (intItems xs).size = xs.size by simp [intItems], preSum_eq, List.take_of_length_le (by simp), hn]
def fSum : HS → UV → Option UV := fun h u => ((asQ h u).bind (mapO uInt)).map fun ns => .d (.int ns.sum)
theorem fSum_ok : UnS c (fun x H Q => rSum c.K [x] H Q ∨ rSumT c.K [x] H Q) fSum := fun pu W σ w H h u x Fx z Q ok hh ru e p => by
  unfold fSum at e
  rw [Option.map_eq_some_iff] at e
  obtain ⟨ns, e, rfl⟩ := e
  rw [Option.bind_eq_some_iff] at e
  obtain ⟨us, e1, e2⟩ := e
  obtain ⟨a, vs, G, rfl, e3, e4, _⟩ := asQ_ok hh ru e1
  have ev := uInts_ok e2 e4
  subst ev
  rcases e3 with e3 | e3
  · exact .inl ⟨a, ns, rfl, e3, fin_d p ok hh rfl⟩
  · exact .inr ⟨a, ns, rfl, e3, fin_d p ok hh rfl⟩
theorem cr_sumM (hc : X.calm = true) : CallR X (.builtin "sum") (fun xs H Q => rSum X.K xs H Q ∨ rSumT X.K xs H Q) := (cr_sum hc).or (cr_sumT hc)
def lmax : List Int → Int
  | [] => 0
  | [x] => x
  | x :: y :: r => max x (lmax (y :: r))
def lmin : List Int → Int
  | [] => 0
  | [x] => x
  | x :: y :: r => min x (lmin (y :: r))
theorem lmax_mem : ∀ {ns : List Int}, ns ≠ [] → lmax ns ∈ ns
  | [], h => absurd rfl h
  | [x], _ => by simp [lmax]
  | x :: y :: r, _ => by
    have ih := lmax_mem (ns := y :: r) (by simp)
    simp only [lmax]
    rcases Int.le_total x (lmax (y :: r)) with h | h
    · rw [Int.max_eq_right h]; exact List.mem_cons_of_mem _ ih
    · rw [Int.max_eq_left h]; exact List.mem_cons_self
theorem lmax_ge : ∀ {ns : List Int} {m : Int}, m ∈ ns → m ≤ lmax ns
  | [], _, h => absurd h (by simp)
  | [x], m, h => by simp at h; simp [lmax, h]
  | x :: y :: r, m, h => by
    simp only [lmax]
    rcases List.mem_cons.mp h with h | h
    · rw [h]; exact Int.le_max_left _ _
    · exact Int.le_trans (lmax_ge h) (Int.le_max_right _ _)
theorem lmin_mem : ∀ {ns : List Int}, ns ≠ [] → lmin ns ∈ ns
  | [], h => absurd rfl h
  | [x], _ => by simp [lmin]
  | x :: y :: r, _ => by
    have ih := lmin_mem (ns := y :: r) (by simp)
    simp only [lmin]
    rcases Int.le_total x (lmin (y :: r)) with h | h
    · rw [Int.min_eq_left h]; exact List.mem_cons_self
    · rw [Int.min_eq_right h]; exact List.mem_cons_of_mem _ ih
theorem lmin_le : ∀ {ns : List Int} {m : Int}, m ∈ ns → lmin ns ≤ m
  | [], _, h => absurd h (by simp)
  | [x], m, h => by simp at h; simp [lmin, h]
  | x :: y :: r, m, h => by
    simp only [lmin]
    rcases List.mem_cons.mp h with h | h
    · rw [h]; exact Int.min_le_left _ _
    · exact Int.le_trans (Int.min_le_right _ _) (lmin_le h)
def fMax : HS → UV → Option UV := fun h u => match (asL h u).bind (mapO uInt) with
  | some (n :: ns) => some (.d (.int (lmax (n :: ns))))
  | _ => none
def fMin : HS → UV → Option UV := fun h u => match (asL h u).bind (mapO uInt) with
  | some (n :: ns) => some (.d (.int (lmin (n :: ns))))
  | _ => none
theorem fMax_ok : UnS c (fun x H Q => rMax c.K [x] H Q) fMax := fun pu W σ w H h u x Fx z Q ok hh ru e p => by
  unfold fMax at e
  split at e
  · rename_i n ns q
    cases e
    rw [Option.bind_eq_some_iff] at q
    obtain ⟨us, e1, e2⟩ := q
    obtain ⟨a, vs, G, rfl, e3, e4, _⟩ := asL_ok hh ru e1
    have ev := uInts_ok e2 e4
    subst ev
    refine ⟨a, n :: ns, rfl, e3, by simp, fun m h1 h2 => ?_⟩
    have : m = lmax (n :: ns) := Int.le_antisymm (lmax_ge h1) (h2 _ (lmax_mem (by simp)))
    rw [this]
    exact fin_d p ok hh rfl
  · cases e
theorem fMin_ok : UnS c (fun x H Q => rMin c.K [x] H Q) fMin := fun pu W σ w H h u x Fx z Q ok hh ru e p => by
  unfold fMin at e
  split at e
  · rename_i n ns q
    cases e
    rw [Option.bind_eq_some_iff] at q
    obtain ⟨us, e1, e2⟩ := q
    obtain ⟨a, vs, G, rfl, e3, e4, _⟩ := asL_ok hh ru e1
    have ev := uInts_ok e2 e4
    subst ev
    refine ⟨a, n :: ns, rfl, e3, by simp, fun m h1 h2 => ?_⟩
    have : m = lmin (n :: ns) := Int.le_antisymm (h2 _ (lmin_mem (by simp))) (lmin_le h1)
    rw [this]
    exact fin_d p ok hh rfl
  · cases e
def fMax2 : HS → UV → UV → Option UV := fun _ u v => match uInt u, uInt v with
  | some i, some j => some (.d (.int (if j > i then j else i)))
  | _, _ => none
def fMin2 : HS → UV → UV → Option UV := fun _ u v => match uInt u, uInt v with
  | some i, some j => some (.d (.int (if j < i then j else i)))
  | _, _ => none
theorem fMax2_ok : OpS c (fun x y H Q => ∃ i j, [x, y] = [.int i, .int j] ∧ Q (.int (if j > i then j else i)) H) fMax2 := OpS.data fun w H h u u' x y Fx Fy z Q ok hh ru ru' e q => by
  unfold fMax2 at e
  split at e
  · rename_i i j q1 q2
    cases e
    exact ⟨i, j, by rw [uInt_ok q1 ru, uInt_ok q2 ru'], q _ _ rfl rfl⟩
  · cases e
theorem fMin2_ok : OpS c (fun x y H Q => ∃ i j, [x, y] = [.int i, .int j] ∧ Q (.int (if j < i then j else i)) H) fMin2 := OpS.data fun w H h u u' x y Fx Fy z Q ok hh ru ru' e q => by
  unfold fMin2 at e
  split at e
  · rename_i i j q1 q2
    cases e
    exact ⟨i, j, by rw [uInt_ok q1 ru, uInt_ok q2 ru'], q _ _ rfl rfl⟩
  · cases e

/-! ### list, tuple -/
def fList : HS → UV → Option UV := fun h u => match asQ h u with
  | some xs => if xs.all noOwn then some (.own xs) else none
  | none => none
theorem fList_ok : UnS c (fun x H Q => ∃ p ys, [x] = [.ref p] ∧ (SqL c.K H p ys ∨ SqT c.K H p ys) ∧ ∀ l, H l = none → Q (.ref l) (upd H l (.lst ys))) fList := fun pu W σ w H h u x Fx z Q ok hh ru e p => by
  unfold fList at e
  split at e
  · rename_i xs q
    split at e
    · rename_i hn
      cases e
      obtain ⟨a, vs, G, rfl, e1, t, _⟩ := asQ_ok hh ru q
      exact ⟨a, vs, rfl, e1, fun q hq => fin_own p ok hh t hn q hq⟩
    · cases e
  · cases e
def uD : UV → Option DV
  | .d x => some x
  | _ => none
theorem uDs_ok {Z : Addr → Prop} {H : Hp} {ρ : List Addr} : ∀ {us : List UV} {ns : List DV} {vs : List V} {F : List Addr}, mapO uD us = some ns → RUl c Z H ρ us vs F → RDl c Z H ns vs
  | [], _, _, _, e, r => by cases e; exact r.1
  | u :: us, _, _, _, e, ⟨v, r, F1, F2, ev, eF, h, t⟩ => by
    simp only [mapO] at e
    split at e
    · rename_i i ns q1 q2
      cases e
      refine ⟨v, r, ev, ?_, uDs_ok q2 t⟩
      cases u with
      | d x => cases q1; exact h.2
      | _ => cases q1
    · cases e
def fTuple : HS → UV → Option UV := fun h u => match u with
  | .d (.tup xs) => some (.d (.tup xs))
  | u => ((asL h u).bind (mapO uD)).map fun xs => .d (.tup xs)
theorem fTuple_ok : UnS c (fun x H Q => ∃ p ys, [x] = [.ref p] ∧ ((SqL c.K H p ys ∧ ∀ l, H l = none → Q (.ref l) (upd H l (.tup ys))) ∨ (SqT c.K H p ys ∧ Q (.ref p) H))) fTuple := fun pu W σ w H h u x Fx z Q ok hh ru e p => by
  unfold fTuple at e
  split at e
  · cases e
    obtain ⟨_, a, vs, rfl, f, t⟩ := ru
    exact ⟨a, vs, rfl, .inr ⟨f.sq, fin_d p ok hh ⟨a, vs, rfl, f, t⟩⟩⟩
  · rw [Option.map_eq_some_iff] at e
    obtain ⟨xs, e, rfl⟩ := e
    rw [Option.bind_eq_some_iff] at e
    obtain ⟨us, e1, e2⟩ := e
    obtain ⟨a, vs, G, rfl, e3, t, _⟩ := asL_ok hh ru e1
    exact ⟨a, vs, rfl, .inl ⟨e3, fun q hq => fin_tup p ok hh (uDs_ok e2 t) q hq⟩⟩
end
end MM

/-! MM7: isinstance, tests, and, or, not, conditional expressions. -/
namespace MM
open PySem PySem.Spec PyProof.Rows L2

/-! ### isinstance of built-in types -/
def tyName (h : HS) : UV → Option String
  | .d .non => some "NoneType"
  | .d (.bl _) => some "bool"
  | .d (.int _) => some "int"
  | .d (.str _) => some "str"
  | .d (.tup _) => some "tuple"
  | .d (.lst _) => some "list"
  | .d (.dK _) => some "dict"
  | .d (.dT _) => some "dict"
  | .tp _ => some "tuple"
  | .own _ => some "list"
  | .fl _ => some "list"
  | .odK _ => some "dict"
  | .odT _ => some "dict"
  | .ref i => match h[i]? with
    | some (.lst _) => some "list"
    | some (.dK _) => some "dict"
    | some (.dT _) => some "dict"
    | _ => none
  | _ => none
def isTy (t n : String) : Option Bool :=
  if n = "bool" ∨ n = "int" ∨ n = "str" ∨ n = "list" ∨ n = "tuple" ∨ n = "dict" then
    if t = "NoneType" ∨ t = "bool" ∨ t = "int" ∨ t = "str" ∨ t = "list" ∨ t = "tuple" ∨ t = "dict" then some (t == n || (t == "bool" && n == "int")) else none
  else none
theorem isTy_ok {t n : String} {b : Bool} (h : isTy t n = some b) : kitB t n = some b := by
  unfold isTy at h
  split at h
  · rename_i h1
    split at h
    · rename_i h2
      cases h
      rcases h1 with h1 | h1 | h1 | h1 | h1 | h1 <;> subst h1 <;> rcases h2 with h2 | h2 | h2 | h2 | h2 | h2 | h2 <;> subst h2 <;> decide +kernel
    · cases h
  · cases h
theorem tyName_ok {c : Cg} {w : Wd} {H : Hp} {h : HS} {u : UV} {v : V} {F : List Addr} {t : String} (hh : RH c w.Z H w.ρ h w.F) (r : RU c w.Z H w.ρ u v F) (e : tyName h u = some t) : TyX c.K H v (.type t) := by
  cases u with
  | d x =>
    obtain ⟨_, r⟩ := r
    cases x with
    | non => cases e; rw [show v = _ from r]; exact .base .non
    | bl b => cases e; rw [show v = _ from r]; exact .base (.bl _)
    | int b => cases e; rw [show v = _ from r]; exact .base (.int _)
    | str b => cases e; rw [show v = _ from r]; exact .base (.str _)
    | lst xs =>
      cases e
      obtain ⟨a, vs, rfl, _, f, _⟩ := r
      exact .base (.lst f)
    | tup xs =>
      cases e
      obtain ⟨a, vs, rfl, f, _⟩ := r
      rcases f with ⟨_, f | ⟨o, f⟩⟩ | f
      · exact .base (.tup f)
      · exact .fTuple f
      · rcases f (fun _ => none) with (f | ⟨o, f⟩) | ⟨o, its, n, k, k2, _⟩
        · cases f
        · cases f
        · exact .kTuple k k2
    | dK xs =>
      cases e
      obtain ⟨a, vs, rfl, _, f, _⟩ := r
      exact .base (.dK f)
    | dT xs =>
      cases e
      obtain ⟨a, vs, rfl, _, f, _⟩ := r
      exact .base (.dT f)
    | _ => cases e
  | tp xs =>
    cases e
    obtain ⟨a, vs, rfl, _, f | ⟨o, f⟩, _⟩ := r
    · exact .base (.tup f)
    · exact .fTuple f
  | own xs =>
    cases e
    obtain ⟨a, vs, G, rfl, f, _⟩ := r
    exact .base (.lst f)
  | fl xs =>
    cases e
    obtain ⟨a, vs, rfl, _, f, _⟩ := r
    exact .base (.lst f)
  | odK xs =>
    cases e
    obtain ⟨a, vs, G, rfl, f, _⟩ := r
    exact .base (.dK f)
  | odT xs =>
    cases e
    obtain ⟨a, vs, G, rfl, f, _⟩ := r
    exact .base (.dT f)
  | clo i xs => cases e
  | ref i =>
    obtain ⟨_, a, e1, rfl⟩ := r
    unfold tyName at e
    dsimp only at e
    split at e
    · rename_i xs q
      cases e
      obtain ⟨a', G, e3, ⟨vs, G', e4, _⟩, _⟩ := hh.get q
      rw [e1] at e3; cases e3
      exact .base (.lst e4)
    · rename_i xs q
      cases e
      obtain ⟨a', G, e3, ⟨vs, G', e4, _⟩, _⟩ := hh.get q
      rw [e1] at e3; cases e3
      exact .base (.dK e4)
    · rename_i xs q
      cases e
      obtain ⟨a', G, e3, ⟨vs, G', e4, _⟩, _⟩ := hh.get q
      rw [e1] at e3; cases e3
      exact .base (.dT e4)
    · cases e
def fIsi : HS → UV → UV → Option UV := fun h u v => match v with
  | .d (.ty n) => ((tyName h u).bind fun t => isTy t n).map fun b => .d (.bl b)
  | _ => none
theorem fIsi_ok {c : Cg} : OpS c (fun x y H Q => rIsi c.K [x, y] H Q) fIsi := OpS.data fun w H h u u' x y Fx Fy z Q ok hh ru ru' e q => by
  unfold fIsi at e
  split at e
  · rename_i n
    rw [Option.map_eq_some_iff] at e
    obtain ⟨b, e, rfl⟩ := e
    rw [Option.bind_eq_some_iff] at e
    obtain ⟨t, e1, e2⟩ := e
    rw [show y = _ from ru'.2]
    exact ⟨x, .ty n, .type t, .type n, b, rfl, .ty n, tyName_ok hh ru e1, kit_ty (isTy_ok e2), q _ _ rfl rfl⟩
  · cases e

/-! ### tests -/
abbrev MT := SL → HS → MR Bool
def TPo (pu : Bool) (c : Cg) (W : WX) (σ : L2.St) (w : Wd) (H : Hp) (Q : Bool → Hp → Prop) : MR Bool → Prop
  | .ok b h' => ∀ (w' : Wd) (H' : Hp), Ext w H w' H' → WOk w' H' → Pu pu H H' → RH c w'.Z H' w'.ρ h' w'.F → Q b H'
  | .err e h' => ∀ (w' : Wd) (H' : Hp) (cls : Value) (dx : Option Addr), Ext w H w' H' → WOk w' H' → RH c w'.Z H' w'.ρ h' w'.F → RX c w'.Z H' e cls dx → W cls dx σ H'
  | .bad => False
def tB2 (pu : Bool) (c : Cg) (W : WX) (m : MT) : TT := fun σ H Q => ∃ w Fs σd hd, Sta c w Fs σd hd σ H ∧ TPo pu c W σ w H Q (m σd hd)
theorem TPo.shift {pu : Bool} {c : Cg} {W : WX} {σ : L2.St} {w w1 : Wd} {H H1 : Hp} {Q : Bool → Hp → Prop} {r : MR Bool} (e : Ext w H w1 H1) (ok : WOk w1 H1) (pq : Pu pu H H1) (h : TPo pu c W σ w H Q r) : TPo pu c W σ w1 H1 Q r := by
  cases r with
  | ok u h' => exact fun w' H' m o pp rh => h w' H' (e.trans ok m) o (pq.trans pp) rh
  | err x h' => exact fun w' H' cls dx e' ok' rh rx => h w' H' cls dx (e.trans ok e') ok' rh rx
  | bad => exact h
def uBl : UV → Option Bool
  | .d (.bl b) => some b
  | _ => none
theorem uBl_ok {c : Cg} {Z : Addr → Prop} {H : Hp} {ρ : List Addr} {u : UV} {i : Bool} {v : V} {F : List Addr} (e : uBl u = some i) (r : RU c Z H ρ u v F) : v = .bl i := by
  unfold uBl at e
  split at e
  · cases e; exact r.2
  · cases e
/-- a value's truth -/
def truU (h : HS) : UV → Option Bool
  | .d .non => some false
  | .d (.bl b) => some b
  | .d (.int i) => some (i != 0)
  | .d (.str x) => if x.length ≤ sizeLine then some ((x.length : Int) != 0) else none
  | .d (.dK kvs) => some (!kvs.isEmpty)
  | .odK kvs => some (!kvs.isEmpty)
  | u => (asQ h u).map fun xs => !xs.isEmpty
theorem isEmpty_RUl {c : Cg} {Z : Addr → Prop} {H : Hp} {ρ : List Addr} {xs : List UV} {vs : List V} {F : List Addr} (t : RUl c Z H ρ xs vs F) : vs.isEmpty = xs.isEmpty := by
  have := t.length
  cases xs <;> cases vs <;> simp_all
theorem isEmpty_RDk {c : Cg} {Z : Addr → Prop} {H : Hp} {xs : List (Key × DV)} {vs : List (Key × V)} (t : RDk c Z H xs vs) : vs.isEmpty = xs.isEmpty := by
  cases xs with
  | nil => rw [show vs = _ from t]; rfl
  | cons x xs => obtain ⟨v, r, rfl, _⟩ := t; rfl
theorem isEmpty_RUk {c : Cg} {Z : Addr → Prop} {H : Hp} {ρ : List Addr} {xs : List (Key × UV)} {vs : List (Key × V)} {F : List Addr} (t : RUk c Z H ρ xs vs F) : vs.isEmpty = xs.isEmpty := by
  cases xs with
  | nil => rw [t.1]; rfl
  | cons x xs => obtain ⟨v, r, _, _, rfl, _⟩ := t; rfl
theorem truU_ok {c : Cg} {w : Wd} {H : Hp} {h : HS} {u : UV} {v : V} {F : List Addr} {b : Bool} (hh : RH c w.Z H w.ρ h w.F) (r : RU c w.Z H w.ρ u v F) (e : truU h u = some b) : TruV c.K v H b := by
  unfold truU at e
  split at e
  · cases e; rw [show v = _ from r.2]; rfl
  · cases e; rw [show v = _ from r.2]; rfl
  · cases e; rw [show v = _ from r.2]; rfl
  · split at e
    · rename_i hz
      cases e; rw [show v = _ from r.2]; exact ⟨hz, rfl⟩
    · cases e
  · cases e
    obtain ⟨_, a, vs, rfl, _, f, t⟩ := r
    exact .inr (.inr ⟨vs, f, by rw [isEmpty_RDk t]⟩)
  · cases e
    obtain ⟨a, vs, G, rfl, f, _, t⟩ := r
    exact .inr (.inr ⟨vs, f, by rw [isEmpty_RUk t]⟩)
  · rw [Option.map_eq_some_iff] at e
    obtain ⟨xs, e, rfl⟩ := e
    obtain ⟨a, vs, G, rfl, e2, t, _⟩ := asQ_ok hh r e
    rcases e2 with e2 | e2
    · exact .inl ⟨vs, e2, by rw [isEmpty_RUl t]⟩
    · exact .inr (.inl ⟨vs, e2, by rw [isEmpty_RUl t]⟩)
/-- a bool's value as a test -/
def mTst (m : ME) : MT := fun σ h => bindM (m σ h) fun u h1 => ofO (uBl u) h1
/-- a value's truth as a test -/
def mTru (m : ME) : MT := fun σ h => bindM (m σ h) fun u h1 => ofO (truU h1 u) h1
def mNot (m : MT) : MT := fun σ h => bindM (m σ h) fun b h1 => .ok (!b) h1
def mAnd (m n : MT) : MT := fun σ h => bindM (m σ h) fun b h1 => if b then n σ h1 else .ok false h1
def mOr (m n : MT) : MT := fun σ h => bindM (m σ h) fun b h1 => if b then .ok true h1 else n σ h1
section
variable {X : Cx} {c : Cg} {W : WX} {ma mb m : ME} {mt mu : MT} {σ : L2.St} {H : Hp} {a b : Expr} {rest : List Expr} {pos : Pos} {pu : Bool}
/-- a value, then what a test makes of it -/
theorem stepT {md : Md} {f : UV → HS → MR Bool} {w : Wd} {Fs : List Addr} {σd : SL} {hd : HS} {Q : Bool → Hp → Prop} {R : VK} (S : Sta c w Fs σd hd σ H) (p : TPo pu c W σ w H Q (bindM (m σd hd) f))
    (k : ∀ (u : UV) (h1 : HS) (w1 : Wd) (H1 : Hp) (x : V) (Fx : List Addr), Sta c w1 Fs σd h1 σ H1 → MdOk md w H w1 H1 Fx → RU c w1.Z H1 w1.ρ u x Fx → TPo pu c W σ w1 H1 Q (f u h1) → R x H1) : tV pu md c W m σ H R := by
  refine ⟨w, Fs, σd, hd, S, ?_⟩
  revert p
  cases m σd hd with
  | ok u h' => exact fun p w' H' v Fv mo pp rh ru => k u h' w' H' v Fv (S.ext mo.ext.1 mo.ext.2 rh) mo ru (TPo.shift mo.ext.1 mo.ext.2 pp p)
  | err x h' => exact fun p => p
  | bad => exact fun p => p
/-- a test, then the rest -/
theorem stepB {md : Md} {f : Bool → HS → MR UV} {w : Wd} {Fs : List Addr} {σd : SL} {hd : HS} {Q : VK} {R : Bool → Hp → Prop} (S : Sta c w Fs σd hd σ H) (p : EPo pu md c W σ w H Q (bindM (mt σd hd) f))
    (k : ∀ (u : Bool) (h1 : HS) (w1 : Wd) (H1 : Hp), Sta c w1 Fs σd h1 σ H1 → EPo pu md c W σ w1 H1 Q (f u h1) → R u H1) : tB2 pu c W mt σ H R := by
  refine ⟨w, Fs, σd, hd, S, ?_⟩
  revert p
  cases mt σd hd with
  | ok u h' => exact fun p w' H' e o pp rh => k u h' w' H' (S.ext e o rh) (EPo.shift e o pp p)
  | err x h' => exact fun p => p
  | bad => exact fun p => p
theorem stepBB {f : Bool → HS → MR Bool} {w : Wd} {Fs : List Addr} {σd : SL} {hd : HS} {Q R : Bool → Hp → Prop} (S : Sta c w Fs σd hd σ H) (p : TPo pu c W σ w H Q (bindM (mt σd hd) f))
    (k : ∀ (u : Bool) (h1 : HS) (w1 : Wd) (H1 : Hp), Sta c w1 Fs σd h1 σ H1 → TPo pu c W σ w1 H1 Q (f u h1) → R u H1) : tB2 pu c W mt σ H R := by
  refine ⟨w, Fs, σd, hd, S, ?_⟩
  revert p
  cases mt σd hd with
  | ok u h' => exact fun p w' H' e o pp rh => k u h' w' H' (S.ext e o rh) (TPo.shift e o pp p)
  | err x h' => exact fun p => p
  | bad => exact fun p => p
theorem TPo.fin {h : HS} {w : Wd} {Q : Bool → Hp → Prop} {k : Bool} (p : TPo pu c W σ w H Q (.ok k h)) (ok : WOk w H) (hh : RH c w.Z H w.ρ h w.F) : Q k H := p w H Ext.refl ok .refl hh
theorem tst_ok {Q : Bool → Hp → Prop} (h : tB2 pu c W (mTst m) σ H Q) : tV pu .C c W m σ H fun x H' => ∃ k, x = .bl k ∧ Q k H' := by
  obtain ⟨w, Fs, σd, hd, S, p⟩ := h
  refine stepT (md := .C) S p fun u h1 w1 H1 x Fx S1 mo ru p1 => ?_
  cases q : uBl u with
  | none => rw [q] at p1; exact p1.elim
  | some k => rw [q] at p1; exact ⟨k, uBl_ok q ru, p1.fin S1.wok S1.h⟩
/-- a comparison as a test -/
theorem t_cmp {op : CmpOp} {r : R2} {f : HS → UV → UV → Option UV} (ho : OpR X (compareOp op) r) (hf : OpS c r f) (ha : PE X a (tV pu .B c W ma)) (hb : PE X b (tV pu .C c W mb)) (hm : behindInMarks op b = false) :
    PT X (.Compare a [op] [b] pos) (tB2 pu c W (mTst (mBin f ma mb))) :=
  PT.imp (pt_cmpR ho ha hb hm) fun σ H Q h => by
    obtain ⟨w, Fs, σd, hd, S, p⟩ := h
    show tV pu .B c W ma σ H fun x H1 => tV pu .C c W mb σ H1 fun y H2 => r x y H2 fun z H3 => ∃ k, z = .bl k ∧ Q k H3
    have h2 : tV pu .E c W (mBin f ma mb) σ H fun z H3 => ∃ k, z = .bl k ∧ Q k H3 := by
      refine stepT (md := .E) S p fun u h1 w1 H1 x Fx S1 mo ru p1 => ?_
      cases q : uBl u with
      | none => rw [q] at p1; exact p1.elim
      | some k => rw [q] at p1; exact ⟨k, uBl_ok q ru, p1.fin S1.wok S1.h⟩
    exact bin_ok hf h2
/-- a value as a test, by its truth -/
theorem t_tru (hK : c.K = X.K) (ha : PE X a (tV pu .C c W m)) (he : ∀ whole, isTrue a X.env whole = (do let v ← whole; standAt a.pos; holding [v] (truthy v))) : PT X a (tB2 pu c W (mTru m)) :=
  PT.imp (pt_truth ha he) fun σ H Q ⟨w, Fs, σd, hd, S, p⟩ => by
    refine stepT (md := .C) S p fun u h1 w1 H1 x Fx S1 mo ru p1 => ?_
    cases q : truU h1 u with
    | none => rw [q] at p1; exact p1.elim
    | some k => rw [q] at p1; exact ⟨k, by rw [← hK]; exact truU_ok S1.h ru q, p1.fin S1.wok S1.h⟩
theorem t_not (ha : PT X a (tB2 pu c W mt)) : PT X (.UnaryOp .Not a pos) (tB2 pu c W (mNot mt)) :=
  PT.imp (pt_not ha) fun σ H Q ⟨w, Fs, σd, hd, S, p⟩ => stepBB S p fun u h1 w1 H1 S1 p1 => p1.fin S1.wok S1.h
theorem PW.imp {e : Expr} {t t' : TT} (h : PW X e t) (i : ∀ σ H Q, t' σ H Q → t σ H Q) : PW X e t' := ⟨fun wh pins s σ H Q I q => h.run wh pins s σ H Q I (i σ H Q q)⟩
theorem w_and1 (ha : PT X a (tB2 pu c W mt)) : PW X (.BoolOp .And [a] pos) (tB2 pu c W mt) := pw_and1 ha
theorem w_or1 (ha : PT X a (tB2 pu c W mt)) : PW X (.BoolOp .Or [a] pos) (tB2 pu c W mt) := pw_or1 ha
theorem w_and (ha : PT X a (tB2 pu c W mt)) (hb : PW X (.BoolOp .And (b :: rest) pos) (tB2 pu c W mu)) : PW X (.BoolOp .And (a :: b :: rest) pos) (tB2 pu c W (mAnd mt mu)) :=
  PW.imp (pw_and ha hb) fun σ H Q ⟨w, Fs, σd, hd, S, p⟩ => stepBB S p fun u h1 w1 H1 S1 p1 => by
    cases u with
    | true => rw [if_pos rfl] at p1 ⊢; exact ⟨w1, Fs, σd, h1, S1, p1⟩
    | false => rw [if_neg Bool.false_ne_true] at p1 ⊢; exact p1.fin S1.wok S1.h
theorem w_or (ha : PT X a (tB2 pu c W mt)) (hb : PW X (.BoolOp .Or (b :: rest) pos) (tB2 pu c W mu)) : PW X (.BoolOp .Or (a :: b :: rest) pos) (tB2 pu c W (mOr mt mu)) :=
  PW.imp (pw_or ha hb) fun σ H Q ⟨w, Fs, σd, hd, S, p⟩ => stepBB S p fun u h1 w1 H1 S1 p1 => by
    cases u with
    | true => rw [if_pos rfl] at p1 ⊢; exact p1.fin S1.wok S1.h
    | false => rw [if_neg Bool.false_ne_true] at p1 ⊢; exact ⟨w1, Fs, σd, h1, S1, p1⟩

/-! ### as values -/
def mNotV (m : ME) : ME := fun σ h => bindM (m σ h) fun u h1 => ofO ((truU h1 u).map fun k => .d (.bl (!k))) h1
/-- a and b: the first where it is untrue -/
def mAndV (m n : ME) : ME := fun σ h => bindM (m σ h) fun u h1 => bindM (ofO (truU h1 u) h1) fun k h2 => if k then n σ h2 else .ok u h2
def mOrV (m n : ME) : ME := fun σ h => bindM (m σ h) fun u h1 => bindM (ofO (truU h1 u) h1) fun k h2 => if k then .ok u h2 else n σ h2
def mIf (t : MT) (m n : ME) : ME := fun σ h => bindM (t σ h) fun k h1 => if k then m σ h1 else n σ h1
theorem e_one {op} {md : Md} (h : PE X a (tV pu md c W m)) : PE X (.BoolOp op [a] pos) (tV pu md c W m) := pe_one h
theorem e_not (hK : c.K = X.K) (ha : PE X a (tV pu .C c W m)) : PE X (.UnaryOp .Not a pos) (tV pu .E c W (mNotV m)) :=
  PE.imp (pe_notT ha) fun σ H Q ⟨w, Fs, σd, hd, S, p⟩ => step1 (md := .C) S p fun u h1 w1 H1 x Fx S1 mo ru p1 => by
    cases q : truU h1 u with
    | none => rw [q] at p1; exact p1.elim
    | some k => rw [q] at p1; exact ⟨k, by rw [← hK]; exact truU_ok S1.h ru q, fin_d p1 S1.wok S1.h rfl⟩
theorem e_and (hK : c.K = X.K) (ha : PE X a (tV pu .E c W ma)) (hb : PE X (.BoolOp .And (b :: rest) pos) (tV pu .E c W mb)) : PE X (.BoolOp .And (a :: b :: rest) pos) (tV pu .E c W (mAndV ma mb)) :=
  PE.imp (pe_andT ha hb) fun σ H Q ⟨w, Fs, σd, hd, S, p⟩ => by
    refine ⟨w, Fs, σd, hd, S, ?_⟩
    unfold mAndV at p
    revert p
    cases ma σd hd with
    | err x h' => exact fun p => p
    | bad => exact fun p => p
    | ok u h1 =>
      intro p w1 H1 x Fx mo pp rh ru
      simp only [bindM_ok] at p
      cases q : truU h1 u with
      | none => rw [q] at p; exact p.elim
      | some k =>
        rw [q] at p
        refine ⟨k, by rw [← hK]; exact truU_ok rh ru q, ?_⟩
        cases k with
        | true =>
          simp only [ofO_some, bindM_ok, if_pos] at p ⊢
          exact ⟨w1, Fs, σd, h1, S.ext mo.ext.1 mo.ext.2 rh, EPo.shift mo.ext.1 mo.ext.2 pp p⟩
        | false =>
          simp only [ofO_some, bindM_ok, Bool.false_eq_true, if_false] at p ⊢
          exact p w1 H1 x Fx mo pp rh ru
theorem e_or (hK : c.K = X.K) (ha : PE X a (tV pu .E c W ma)) (hb : PE X (.BoolOp .Or (b :: rest) pos) (tV pu .E c W mb)) : PE X (.BoolOp .Or (a :: b :: rest) pos) (tV pu .E c W (mOrV ma mb)) :=
  PE.imp (pe_orT ha hb) fun σ H Q ⟨w, Fs, σd, hd, S, p⟩ => by
    refine ⟨w, Fs, σd, hd, S, ?_⟩
    unfold mOrV at p
    revert p
    cases ma σd hd with
    | err x h' => exact fun p => p
    | bad => exact fun p => p
    | ok u h1 =>
      intro p w1 H1 x Fx mo pp rh ru
      simp only [bindM_ok] at p
      cases q : truU h1 u with
      | none => rw [q] at p; exact p.elim
      | some k =>
        rw [q] at p
        refine ⟨k, by rw [← hK]; exact truU_ok rh ru q, ?_⟩
        cases k with
        | false =>
          simp only [ofO_some, bindM_ok, Bool.false_eq_true, if_false] at p ⊢
          exact ⟨w1, Fs, σd, h1, S.ext mo.ext.1 mo.ext.2 rh, EPo.shift mo.ext.1 mo.ext.2 pp p⟩
        | true =>
          simp only [ofO_some, bindM_ok, if_pos] at p ⊢
          exact p w1 H1 x Fx mo pp rh ru
theorem e_if {md : Md} {t : Expr} (ht : PT X t (tB2 pu c W mt)) (ha : PE X a (tV pu md c W ma)) (hb : PE X b (tV pu md c W mb)) : PE X (.IfExp t a b pos) (tV pu md c W (mIf mt ma mb)) :=
  PE.imp (pe_ifExp ht ha hb) fun σ H Q ⟨w, Fs, σd, hd, S, p⟩ => stepB S p fun u h1 w1 H1 S1 p1 => by
    cases u with
    | true => rw [if_pos rfl] at p1 ⊢; exact ⟨w1, Fs, σd, h1, S1, p1⟩
    | false => rw [if_neg Bool.false_ne_true] at p1 ⊢; exact ⟨w1, Fs, σd, h1, S1, p1⟩
/-- a op1 b op2 c of ints -/
def mChain (g g' : Int → Int → Bool) (ma mb mc : ME) : ME := fun σ h => bindM (ma σ h) fun u h1 => bindM (mb σ h1) fun v h2 => match uInt u, uInt v with
  | some i, some j => if g i j then bindM (mc σ h2) fun x h3 => match uInt x with
      | some k => .ok (.d (.bl (g' j k))) h3
      | none => .bad
    else .ok (.d (.bl false)) h2
  | _, _ => .bad
theorem chain_ok {g g' : Int → Int → Bool} {mc : ME} {Q : VK} (h : tV pu .E c W (mChain g g' ma mb mc) σ H Q) : tChain (rI0 fun i j => .bl (g i j)) (rI0 fun i j => .bl (g' i j)) (tV pu .B c W ma) (tV pu .B c W mb) (tV pu .C c W mc) σ H Q := by
  obtain ⟨w, Fs, σd, hd, S, p⟩ := h
  refine step1 (md := .B) S p fun u h1 w1 H1 x Fx S1 mo ru p1 => ?_
  refine step1 (md := .B) S1 p1 fun v h2 w2 H2 y Fy S2 mo2 rv p2 => ?_
  cases q1 : uInt u with
  | none => simp only [q1] at p2; exact p2.elim
  | some i =>
    cases q2 : uInt v with
    | none => simp only [q1, q2] at p2; exact p2.elim
    | some j =>
      simp only [q1, q2] at p2
      refine ⟨i, j, uInt_ok q1 ru, uInt_ok q2 rv, g i j, rfl, ?_⟩
      by_cases hg : g i j = true
      · rw [if_pos hg] at p2 ⊢
        refine step1 (md := .C) S2 p2 fun x3 h3 w3 H3 z Fz S3 mo3 rz p3 => ?_
        cases q3 : uInt x3 with
        | none => simp only [q3] at p3; exact p3.elim
        | some k =>
          simp only [q3] at p3
          exact ⟨j, k, uInt_ok q2 rv, uInt_ok q3 rz, fin_d p3 S3.wok S3.h rfl⟩
      · rw [if_neg hg] at p2 ⊢
        exact fin_d p2 S2.wok S2.h rfl
theorem e_chain {op op' : CmpOp} {g g' : Int → Int → Bool} {d : Expr} {mc : ME} (ho : OpR X (compareOp op) (rI0 fun i j => .bl (g i j))) (ho' : OpR X (compareOp op') (rI0 fun i j => .bl (g' i j))) (ha : PE X a (tV pu .B c W ma)) (hb : PE X b (tV pu .B c W mb)) (hd : PE X d (tV pu .C c W mc))
    (hm : lastMarks [op, op'] [b, d] = false := by with_unfolding_all rfl) : PE X (.Compare a [op, op'] [b, d] pos) (tV pu .E c W (mChain g g' ma mb mc)) := PE.imp (pe_chain ho ho' ha hb hd hm) fun _ _ _ h => chain_ok h
theorem t_chain {op op' : CmpOp} {g g' : Int → Int → Bool} {d : Expr} {mc : ME} (ho : OpR X (compareOp op) (rI0 fun i j => .bl (g i j))) (ho' : OpR X (compareOp op') (rI0 fun i j => .bl (g' i j))) (ha : PE X a (tV pu .B c W ma)) (hb : PE X b (tV pu .B c W mb)) (hd : PE X d (tV pu .C c W mc))
    (hm : lastMarks [op, op'] [b, d] = false := by with_unfolding_all rfl) : PT X (.Compare a [op, op'] [b, d] pos) (tB2 pu c W (mTst (mChain g g' ma mb mc))) := PT.imp (pt_chain ho ho' ha hb hd hm) fun σ H Q ⟨w, Fs, σd, hd, S, p⟩ => by
    have h2 : tV pu .E c W (mChain g g' ma mb mc) σ H fun z H3 => ∃ k, z = .bl k ∧ Q k H3 := by
      refine stepT (md := .E) S p fun u h1 w1 H1 x Fx S1 mo ru p1 => ?_
      cases q : uBl u with
      | none => rw [q] at p1; exact p1.elim
      | some k => rw [q] at p1; exact ⟨k, uBl_ok q ru, p1.fin S1.wok S1.h⟩
    exact chain_ok h2
end
end MM

/-! MM8: statements. -/
namespace MM
open PySem PySem.Spec PyProof.Rows L2

inductive RS' where
  | nx (σ : SL) (h : HS) | rt (u : UV) (h : HS) | bk (σ : SL) (h : HS) | ct (σ : SL) (h : HS) | ex (e : Exn) (σ : SL) (h : HS) | bad
abbrev MS := SL → HS → RS'
/-- the whole world: the slots' own addresses, then the store's -/
abbrev full (w : Wd) (Fs : List Addr) : Wd := ⟨w.ρ, w.Z, Fs ++ w.F⟩
def SPo (c : Cg) (W : WX) (w0 : Wd) (H : Hp) (D : Ends) : RS' → Prop
  | .nx σd' h' => ∀ (w' : Wd) (Fs' : List Addr) (σ' : L2.St) (H' : Hp), Ext w0 H (full w' Fs') H' → Sta c w' Fs' σd' h' σ' H' → D.nx σ' H'
  | .bk σd' h' => ∀ (w' : Wd) (Fs' : List Addr) (σ' : L2.St) (H' : Hp), Ext w0 H (full w' Fs') H' → Sta c w' Fs' σd' h' σ' H' → D.bk σ' H'
  | .ct σd' h' => ∀ (w' : Wd) (Fs' : List Addr) (σ' : L2.St) (H' : Hp), Ext w0 H (full w' Fs') H' → Sta c w' Fs' σd' h' σ' H' → D.ct σ' H'
  | .rt u h' => ∀ (w' : Wd) (H' : Hp) (v : V) (Fv : List Addr), Ext w0 H ⟨w'.ρ, w'.Z, w'.F ++ Fv⟩ H' → WOk ⟨w'.ρ, w'.Z, w'.F ++ Fv⟩ H' → RH c w'.Z H' w'.ρ h' w'.F → RU c w'.Z H' w'.ρ u v Fv → D.rt v H'
  | .ex e σd' h' => ∀ (w' : Wd) (Fs' : List Addr) (σ' : L2.St) (H' : Hp) (cls : Value) (dx : Option Addr), Ext w0 H (full w' Fs') H' → Sta c w' Fs' σd' h' σ' H' → RX c w'.Z H' e cls dx → W cls dx σ' H'
  | .bad => False
def tS (c : Cg) (W : WX) (m : MS) : TS := fun D σ H => ∃ w Fs σd hd, Sta c w Fs σd hd σ H ∧ SPo c W (full w Fs) H D (m σd hd)
theorem SPo.shift {c : Cg} {W : WX} {w0 w1 : Wd} {H H1 : Hp} {D : Ends} {r : RS'} (e : Ext w0 H w1 H1) (ok : WOk w1 H1) (h : SPo c W w0 H D r) : SPo c W w1 H1 D r := by
  cases r with
  | nx σ h' => exact fun w' Fs' σ' H' e' S => h w' Fs' σ' H' (e.trans ok e') S
  | bk σ h' => exact fun w' Fs' σ' H' e' S => h w' Fs' σ' H' (e.trans ok e') S
  | ct σ h' => exact fun w' Fs' σ' H' e' S => h w' Fs' σ' H' (e.trans ok e') S
  | rt u h' => exact fun w' H' v Fv e' o rh ru => h w' H' v Fv (e.trans ok e') o rh ru
  | ex x σ h' => exact fun w' Fs' σ' H' cls dx e' S rx => h w' Fs' σ' H' cls dx (e.trans ok e') S rx
  | bad => exact h
theorem Ext.full {w w' : Wd} {H H' : Hp} (e : Ext w H w' H') (Fs : List Addr) : Ext (full w Fs) H (full w' Fs) H' := Ext.more (ρ := w.ρ) (Z := w.Z) (ρ' := w'.ρ) (Z' := w'.Z) e Fs
def bindS (m : MR UV) (σ : SL) (f : UV → HS → RS') : RS' := match m with
  | .ok u h => f u h
  | .err e h => .ex e σ h
  | .bad => .bad
def bindT (m : MR Bool) (σ : SL) (f : Bool → HS → RS') : RS' := match m with
  | .ok u h => f u h
  | .err e h => .ex e σ h
  | .bad => .bad
@[simp] theorem bindS_ok (u : UV) (h : HS) (σ : SL) (f : UV → HS → RS') : bindS (.ok u h) σ f = f u h := rfl
@[simp] theorem bindS_err (u : Exn) (h : HS) (σ : SL) (f : UV → HS → RS') : bindS (.err u h) σ f = .ex u σ h := rfl
@[simp] theorem bindS_bad (σ : SL) (f : UV → HS → RS') : bindS .bad σ f = .bad := rfl
@[simp] theorem bindT_ok (u : Bool) (h : HS) (σ : SL) (f : Bool → HS → RS') : bindT (.ok u h) σ f = f u h := rfl
@[simp] theorem bindT_err (u : Exn) (h : HS) (σ : SL) (f : Bool → HS → RS') : bindT (.err u h) σ f = .ex u σ h := rfl
@[simp] theorem bindT_bad (σ : SL) (f : Bool → HS → RS') : bindT .bad σ f = .bad := rfl

section
variable {X : Cx} {c : Cg} {W : WX} {m ma mb : ME} {mt : MT} {σ : L2.St} {H : Hp} {a b e : Expr} {pos : Pos} {pu : Bool} {D : Ends}
/-- an expression within a statement -/
theorem stepS {md : Md} {f : UV → HS → RS'} {w : Wd} {Fs : List Addr} {σd : SL} {hd : HS} {R : VK} (S : Sta c w Fs σd hd σ H) (p : SPo c W (full w Fs) H D (bindS (m σd hd) σd f))
    (k : ∀ (u : UV) (h1 : HS) (w1 : Wd) (H1 : Hp) (x : V) (Fx : List Addr), Sta c w1 Fs σd h1 σ H1 → MdOk md w H w1 H1 Fx → Pu pu H H1 → RU c w1.Z H1 w1.ρ u x Fx → SPo c W (full w1 Fs) H1 D (f u h1) → R x H1) : tV pu md c W m σ H R := by
  refine ⟨w, Fs, σd, hd, S, ?_⟩
  revert p
  cases m σd hd with
  | ok u h' =>
    intro p w' H' v Fv mo pp rh ru
    have S' := S.ext mo.ext.1 mo.ext.2 rh
    exact k u h' w' H' v Fv S' mo pp ru (SPo.shift (mo.ext.1.full Fs) S'.ok p)
  | err x h' => exact fun p w' H' cls dx e' ok' rh rx => p w' Fs σ H' cls dx (e'.full Fs) (S.ext e' ok' rh) rx
  | bad => exact fun p => p
theorem stepST {f : Bool → HS → RS'} {w : Wd} {Fs : List Addr} {σd : SL} {hd : HS} {R : Bool → Hp → Prop} (S : Sta c w Fs σd hd σ H) (p : SPo c W (full w Fs) H D (bindT (mt σd hd) σd f))
    (k : ∀ (u : Bool) (h1 : HS) (w1 : Wd) (H1 : Hp), Sta c w1 Fs σd h1 σ H1 → SPo c W (full w1 Fs) H1 D (f u h1) → R u H1) : tB2 pu c W mt σ H R := by
  refine ⟨w, Fs, σd, hd, S, ?_⟩
  revert p
  cases mt σd hd with
  | ok u h' =>
    intro p w' H' e' ok' pp rh
    have S' := S.ext e' ok' rh
    exact k u h' w' H' S' (SPo.shift (e'.full Fs) S'.ok p)
  | err x h' => exact fun p w' H' cls dx e' ok' rh rx => p w' Fs σ H' cls dx (e'.full Fs) (S.ext e' ok' rh) rx
  | bad => exact fun p => p
theorem SPo.next {σd : SL} {hd : HS} {w : Wd} {Fs : List Addr} (p : SPo c W (full w Fs) H D (.nx σd hd)) (S : Sta c w Fs σd hd σ H) : D.nx σ H := p w Fs σ H Ext.refl S

/-! ### a slot is stored -/
theorem RS.set {Z : Addr → Prop} {ρ : List Addr} {u : UV} {v : V} {Fv : List Addr} (r : RU c Z H ρ u v Fv) : ∀ {s : SL} {l : L2.St} {F : List Addr} (i : Nat), RS c Z H ρ s l F → ∃ F' F0, RS c Z H ρ (s.set i (some u)) (l.set i (some v)) F' ∧ F0.Sublist F ∧ (F'.Perm (F0 ++ Fv) ∨ F' = F0)
  | [], _, F, i, h => by
    rw [h.1, h.2]
    exact ⟨[], [], ⟨rfl, rfl⟩, List.Sublist.refl _, .inr rfl⟩
  | none :: s, _, F, 0, ⟨o, r', e, t⟩ => by
    rw [e]
    exact ⟨Fv ++ F, F, ⟨v, r', Fv, F, rfl, rfl, r, t⟩, List.Sublist.refl _, .inl List.perm_append_comm⟩
  | some x :: s, _, F, 0, ⟨v', r', F1, F2, e, eF, h, t⟩ => by
    rw [e, eF]
    exact ⟨Fv ++ F2, F2, ⟨v, r', Fv, F2, rfl, rfl, r, t⟩, List.sublist_append_right _ _, .inl List.perm_append_comm⟩
  | none :: s, _, F, i + 1, ⟨o, r', e, t⟩ => by
    obtain ⟨F', F0, h1, h2, h3⟩ := RS.set r i t
    rw [e]
    exact ⟨F', F0, ⟨o, _, rfl, h1⟩, h2, h3⟩
  | some x :: s, _, F, i + 1, ⟨v', r', F1, F2, e, eF, h, t⟩ => by
    obtain ⟨F', F0, h1, h2, h3⟩ := RS.set r i t
    rw [e, eF]
    refine ⟨F1 ++ F', F1 ++ F0, ⟨v', _, F1, F', rfl, rfl, h, h1⟩, List.Sublist.append_left h2 F1, ?_⟩
    rcases h3 with h3 | h3
    · refine .inl ?_
      rw [List.append_assoc]
      exact List.Perm.append_left F1 h3
    · exact .inr (by rw [h3])
/-- the same heap, no more in the end -/
theorem Ext.sub {ρ : List Addr} {Z : Addr → Prop} {F F' : List Addr} {H : Hp} (h : ∀ a ∈ F', a ∈ F) : Ext ⟨ρ, Z, F⟩ H ⟨ρ, Z, F'⟩ H :=
  ⟨fun _ _ e => e, fun _ z => z, fun _ _ e _ => e, fun a e => e.elim .inl fun q => .inr (.inl (h a q)), fun _ e => e⟩
abbrev fullv (w : Wd) (Fs Fv : List Addr) : Wd := ⟨w.ρ, w.Z, Fs ++ (w.F ++ Fv)⟩
theorem fullv_nil (w : Wd) (Fs : List Addr) : fullv w Fs [] = full w Fs := by unfold fullv full; rw [List.append_nil]
/-- an expression whose result is to be kept -/
theorem stepE {f : UV → HS → RS'} {w : Wd} {Fs : List Addr} {σd : SL} {hd : HS} {R : VK} (S : Sta c w Fs σd hd σ H) (p : SPo c W (full w Fs) H D (bindS (m σd hd) σd f))
    (k : ∀ (u : UV) (h1 : HS) (w1 : Wd) (H1 : Hp) (x : V) (Fx : List Addr), Sta c w1 Fs σd h1 σ H1 → WOk (fullv w1 Fs Fx) H1 → Pu pu H H1 → RU c w1.Z H1 w1.ρ u x Fx → SPo c W (fullv w1 Fs Fx) H1 D (f u h1) → R x H1) : tV pu .E c W m σ H R := by
  refine ⟨w, Fs, σd, hd, S, ?_⟩
  revert p
  cases m σd hd with
  | ok u h' =>
    intro p w' H' v Fv mo pp rh ru
    have S' := S.ext mo.ext.1 mo.ext.2 rh
    have ok := S.ok.aside mo.1 mo.2
    exact k u h' w' H' v Fv S' ok pp ru (SPo.shift (Ext.more (ρ := w.ρ) (Z := w.Z) (ρ' := w'.ρ) (Z' := w'.Z) mo.1 Fs) ok p)
  | err x h' => exact fun p w' H' cls dx e' ok' rh rx => p w' Fs σ H' cls dx (e'.full Fs) (S.ext e' ok' rh) rx
  | bad => exact fun p => p
theorem SPo.store {u : UV} {v : V} {Fv : List Addr} {σd : SL} {hd : HS} {w : Wd} {Fs : List Addr} {i : Nat} (S : Sta c w Fs σd hd σ H) (ok : WOk (fullv w Fs Fv) H) (ru : RU c w.Z H w.ρ u v Fv)
    (p : SPo c W (fullv w Fs Fv) H D (.nx (σd.set i (some u)) hd)) : D.nx (σ.set i (some v)) H := by
  obtain ⟨F', F0, h1, h2, h3⟩ := RS.set ru i S.s
  have o1 : WOk ⟨w.ρ, w.Z, F0 ++ (w.F ++ Fv)⟩ H := ok.less (List.Sublist.append_right h2 _)
  have ok' : WOk ⟨w.ρ, w.Z, F' ++ w.F⟩ H := by
    rcases h3 with h3 | h3
    · refine o1.perm ?_
      have q : (F' ++ w.F).Perm ((F0 ++ Fv) ++ w.F) := List.Perm.append_right _ h3
      rw [List.append_assoc] at q
      exact q.trans (List.Perm.append_left F0 List.perm_append_comm)
    · rw [h3]
      exact o1.less (List.Sublist.append_left (List.sublist_append_left _ _) F0)
  refine p w F' _ H (Ext.sub fun a ha => ?_) ⟨h1, S.h, ok'⟩
  rcases List.mem_append.mp ha with q | q
  · rcases h3 with h3 | h3
    · rcases List.mem_append.mp (h3.mem_iff.mp q) with q | q
      · exact List.mem_append_left _ (h2.subset q)
      · exact List.mem_append_right _ (List.mem_append_right _ q)
    · rw [h3] at q; exact List.mem_append_left _ (h2.subset q)
  · exact List.mem_append_right _ (List.mem_append_left _ q)

/-! ### small statements -/
def sSet (i : Nat) (m : ME) : MS := fun σ h => bindS (m σ h) σ fun u h1 => .nx (σ.set i (some u)) h1
def sDrop (m : ME) : MS := fun σ h => bindS (m σ h) σ fun _ h1 => .nx σ h1
def sRet (m : ME) : MS := fun σ h => bindS (m σ h) σ fun u h1 => .rt u h1
def sRetN : MS := fun _ h => .rt (.d .non) h
/-- the slot's own value is given away -/
def sMove (i : Nat) : MS := fun σ h => match σ[i]? with
  | some (some u) => .rt u h
  | _ => .bad
def sPass : MS := fun σ h => .nx σ h
def sBrk : MS := fun σ h => .bk σ h
def sCnt : MS := fun σ h => .ct σ h
def sIf (t : MT) (a b : MS) : MS := fun σ h => bindT (t σ h) σ fun k h1 => if k then a σ h1 else b σ h1
def thenS (r : RS') (f : SL → HS → RS') : RS' := match r with
  | .nx σ h => f σ h
  | r => r
def sSeq (a b : MS) : MS := fun σ h => thenS (a σ h) b
def sBad : MS := fun _ _ => .bad
@[simp] theorem thenS_nx (σ : SL) (h : HS) (f : SL → HS → RS') : thenS (.nx σ h) f = f σ h := rfl
@[simp] theorem thenS_rt (u : UV) (h : HS) (f : SL → HS → RS') : thenS (.rt u h) f = .rt u h := rfl
@[simp] theorem thenS_bk (σ : SL) (h : HS) (f : SL → HS → RS') : thenS (.bk σ h) f = .bk σ h := rfl
@[simp] theorem thenS_ct (σ : SL) (h : HS) (f : SL → HS → RS') : thenS (.ct σ h) f = .ct σ h := rfl
@[simp] theorem thenS_ex (e : Exn) (σ : SL) (h : HS) (f : SL → HS → RS') : thenS (.ex e σ h) f = .ex e σ h := rfl
@[simp] theorem thenS_bad (f : SL → HS → RS') : thenS .bad f = .bad := rfl
variable {st : Stmt} {sts : List Stmt} {ms ns : MS}
theorem s_set {i : Nat} {x : Str} {p' : Pos} (hs : PE X e (tV pu .E c W m) → PS X (.Assign [.Name x p'] e pos) (tAsg (tV pu .E c W m) (gName i))) (he : PE X e (tV pu .E c W m)) : PS X (.Assign [.Name x p'] e pos) (tS c W (sSet i m)) :=
  PS.imp (hs he) fun D σ H ⟨w, Fs, σd, hd, S, p⟩ => stepE S p fun u h1 w1 H1 x Fx S1 ok pp ru p1 => SPo.store S1 ok ru p1
theorem s_drop (he : PE X e (tV pu .C c W m)) (hs : swapsWith e none pos.line X.env = pure false := by rfl) : PS X (.Expr e pos) (tS c W (sDrop m)) :=
  PS.imp (ps_expr he hs) fun D σ H ⟨w, Fs, σd, hd, S, p⟩ => stepS S p fun u h1 w1 H1 x Fx S1 mo pp ru p1 => SPo.next p1 S1
theorem s_ret (he : PE X e (tV pu .E c W m)) : PS X (.Return (some e) pos) (tS c W (sRet m)) :=
  PS.imp (ps_ret he) fun D σ H ⟨w, Fs, σd, hd, S, p⟩ => stepE S p fun u h1 w1 H1 x Fx S1 ok pp ru p1 => p1 w1 H1 x Fx (Ext.sub fun a ha => List.mem_append_right _ ha) ok.right S1.h ru
theorem s_retN : PS X (.Return none pos) (tS c W sRetN) :=
  PS.imp ps_retN fun D σ H ⟨w, Fs, σd, hd, S, p⟩ => p w H .non [] (by simpa using Ext.sub fun a ha => List.mem_append_right _ ha) (by simpa using S.wok) S.h ⟨rfl, rfl⟩
theorem RS.split {Z : Addr → Prop} {ρ : List Addr} : ∀ {s : SL} {l : L2.St} {F : List Addr} {i : Nat} {u : UV}, RS c Z H ρ s l F → s[i]? = some (some u) → ∃ v G, l[i]? = some (some v) ∧ RU c Z H ρ u v G ∧ G.Sublist F
  | [], _, _, _, _, _, h => by simp at h
  | none :: s, _, _, 0, u, _, q => by simp at q
  | none :: s, _, _, i + 1, u, ⟨o, r, e, t⟩, q => by
    obtain ⟨v', G, e', h', s⟩ := RS.split (i := i) t (by simpa using q)
    exact ⟨v', G, by rw [e]; simpa using e', h', s⟩
  | some x :: s, _, _, 0, u, ⟨v, r, F1, F2, e, eF, h, t⟩, q => by
    have q' : x = u := by simpa using q
    subst q'
    exact ⟨v, F1, by rw [e]; rfl, h, by rw [eF]; exact List.sublist_append_left _ _⟩
  | some x :: s, _, _, i + 1, u, ⟨v, r, F1, F2, e, eF, h, t⟩, q => by
    obtain ⟨v', G, e', h', s⟩ := RS.split (i := i) t (by simpa using q)
    exact ⟨v', G, by rw [e]; simpa using e', h', by rw [eF]; exact s.trans (List.sublist_append_right _ _)⟩
theorem s_move (i : Nat) {x : Str} {p' : Pos} (h : PE X (.Name x p') (tVar i)) : PS X (.Return (some (.Name x p')) pos) (tS c W (sMove i)) :=
  PS.imp (ps_ret h) fun D σ H ⟨w, Fs, σd, hd, S, p⟩ => by
    unfold sMove at p
    split at p
    · rename_i u q
      obtain ⟨v, G, e, r, s⟩ := S.s.split q
      have okG : WOk ⟨w.ρ, w.Z, w.F ++ G⟩ H := (S.ok.less (List.Sublist.append_right s w.F)).perm List.perm_append_comm
      refine ⟨v, e, p w H v G (Ext.sub fun a ha => ?_) okG S.h r⟩
      rcases List.mem_append.mp ha with q | q
      · exact List.mem_append_right _ q
      · exact List.mem_append_left _ (s.subset q)
    · exact p.elim
theorem s_pass : PS X (.Pass pos) (tS c W sPass) := PS.imp ps_pass fun D σ H ⟨w, Fs, σd, hd, S, p⟩ => SPo.next p S
theorem s_brk : PS X (.Break pos) (tS c W sBrk) := PS.imp ps_break fun D σ H ⟨w, Fs, σd, hd, S, p⟩ => p w Fs σ H Ext.refl S
theorem s_cnt : PS X (.Continue pos) (tS c W sCnt) := PS.imp ps_continue fun D σ H ⟨w, Fs, σd, hd, S, p⟩ => p w Fs σ H Ext.refl S
theorem s_doc {x j pos'} : PS X (.Expr (.Constant (.str x) j pos) pos') (tS c W sPass) := PS.imp ps_doc fun D σ H ⟨w, Fs, σd, hd, S, p⟩ => SPo.next p S
/-- code that is never come to -/
theorem s_bad : PS X st (tS c W sBad) := PS.imp ps_never fun D σ H ⟨w, Fs, σd, hd, S, p⟩ => p
theorem ss_bad : PSs X sts (tS c W sBad) := PSs.imp pss_never fun D σ H ⟨w, Fs, σd, hd, S, p⟩ => p
theorem ss_nil : PSs X [] (tS c W sPass) := PSs.imp pss_nil fun D σ H ⟨w, Fs, σd, hd, S, p⟩ => SPo.next p S
theorem ss_one (h : PS X st (tS c W ms)) : PSs X [st] (tS c W ms) := pss_one h
theorem ss_cons (h : PS X st (tS c W ms)) (h2 : PSs X sts (tS c W ns)) : PSs X (st :: sts) (tS c W (sSeq ms ns)) :=
  PSs.imp (pss_cons h h2) fun D σ H ⟨w, Fs, σd, hd, S, p⟩ => ⟨w, Fs, σd, hd, S, by
    unfold sSeq at p
    revert p
    cases ms σd hd with
    | nx σ1 h1 => exact fun p w' Fs' σ' H' e S' => ⟨w', Fs', σ1, h1, S', SPo.shift e S'.ok p⟩
    | rt u h' => exact fun p => p
    | bk σ' h' => exact fun p => p
    | ct σ' h' => exact fun p => p
    | ex e σ' h' => exact fun p => p
    | bad => exact fun p => p⟩
theorem s_if {body els : List Stmt} {t : Expr} (ht : PT X t (tB2 pu c W mt)) (ha : PSs X body (tS c W ms)) (hb : PSs X els (tS c W ns)) : PS X (.If t body els pos) (tS c W (sIf mt ms ns)) :=
  PS.imp (ps_if ht ha hb) fun D σ H ⟨w, Fs, σd, hd, S, p⟩ => stepST S p fun u h1 w1 H1 S1 p1 => by
    cases u with
    | true => rw [if_pos rfl] at p1 ⊢; exact ⟨w1, Fs, σd, h1, S1, p1⟩
    | false => rw [if_neg Bool.false_ne_true] at p1 ⊢; exact ⟨w1, Fs, σd, h1, S1, p1⟩
/-- name op= e of ints -/
def sAug (i : Nat) (g : Int → Int → Int) (m : ME) : MS := fun σ h => match σ[i]? with
  | some (some u) => match uInt u with
    | some a => bindS (m σ h) σ fun v h1 => match uInt v with
      | some b => .nx (σ.set i (some (.d (.int (g a b))))) h1
      | none => .bad
    | none => .bad
  | _ => .bad
theorem s_aug {i : Nat} {x : Str} {p' : Pos} {op : Operator} {g : Int → Int → Int} {ti : TIp} (hti : ti = ipI g) (hs : PE X e (tV pu .C c W m) → PS X (.AugAssign (.Name x p') op e pos) (tAug i (tV pu .C c W m) ti)) (he : PE X e (tV pu .C c W m)) :
    PS X (.AugAssign (.Name x p') op e pos) (tS c W (sAug i g m)) := by
  subst hti
  refine PS.imp (hs he) fun D σ H ⟨w, Fs, σd, hd, S, p⟩ => ?_
  unfold sAug at p
  split at p
  · rename_i u q
    split at p
    · rename_i a qa
      obtain ⟨v, G, e1, r, s⟩ := S.s.get q
      refine ⟨v, e1, stepS (md := .C) S p fun u2 h1 w1 H1 y Fy S1 mo pp ru p1 => ?_⟩
      cases qb : uInt u2 with
      | none => rw [qb] at p1; exact p1.elim
      | some b =>
        rw [qb] at p1
        refine ⟨a, b, uInt_ok qa r, uInt_ok qb ru, ?_⟩
        exact SPo.store (u := .d (.int (g a b))) (Fv := []) S1 (by rw [fullv_nil]; exact S1.ok) ⟨rfl, rfl⟩ (by rw [fullv_nil]; exact p1)
    · exact p.elim
  · exact p.elim
end
end MM

/-! MM9: calls and bodies of defs. -/
namespace MM
open PySem PySem.Spec PyProof.Rows L2

abbrev MF := List UV → HS → MR UV
def CPo (c : Cg) (w : Wd) (H : Hp) (Q : VK) (E : XK) : MR UV → Prop
  | .ok u h' => ∀ (w' : Wd) (H' : Hp) (v : V) (Fv : List Addr), MdOk .E w H w' H' Fv → RH c w'.Z H' w'.ρ h' w'.F → RU c w'.Z H' w'.ρ u v Fv → Q v H'
  | .err e h' => ∀ (w' : Wd) (H' : Hp) (cls : Value) (dx : Option Addr), Ext w H w' H' → WOk w' H' → RH c w'.Z H' w'.ρ h' w'.F → RX c w'.Z H' e cls dx → E cls dx H'
  | .bad => False
/-- a def's promise by its function: n parameters -/
def spM (c : Cg) (n : Nat) (f : MF) : Sp := fun vs H Q E => vs.length = n ∧ ∃ w us hd, WOk w H ∧ RH c w.Z H w.ρ hd w.F ∧ RUl c w.Z H w.ρ us vs [] ∧ CPo c w H Q E (f us hd)
/-- the function of a body with N names -/
def fnM (N : Nat) (b : MS) : MF := fun us h => match b (us.map some ++ List.replicate (N - us.length) none) h with
  | .nx _ h' => .ok (.d .non) h'
  | .rt u h' => .ok u h'
  | .ex e _ h' => .err e h'
  | _ => .bad
section
variable {c : Cg} {Z : Addr → Prop} {H : Hp} {ρ : List Addr}
theorem RS.nones : ∀ (n : Nat), RS c Z H ρ (List.replicate n none) (List.replicate n none) []
  | 0 => ⟨rfl, rfl⟩
  | n + 1 => ⟨none, List.replicate n none, rfl, RS.nones n⟩
theorem RS.start {k : Nat} : ∀ {us : List UV} {vs : List V}, RUl c Z H ρ us vs [] → RS c Z H ρ (us.map some ++ List.replicate k none) (vs.map some ++ List.replicate k none) []
  | [], _, h => by rw [h.1]; exact RS.nones k
  | u :: us, _, ⟨v, r, F1, F2, e, eF, h, t⟩ => by
    have q := List.append_eq_nil_iff.mp eF.symm
    rw [q.1] at h
    rw [q.2] at t
    rw [e]
    exact ⟨v, r.map some ++ List.replicate k none, [], [], rfl, rfl, h, RS.start t⟩
end
/-- a def's body keeps the promise of its function -/
theorem body_ok {c : Cg} {N n : Nat} {b : MS} {vs : List V} {H : Hp} {Q : VK} {E : XK} (Ns : List Str) (hN : Ns.length = N) (h : spM c n (fnM N b) vs H Q E) :
    tS c (fun cls d _ H => E cls d H) b { nx := fun _ H' => Q .non H', rt := Q } (L2.start Ns vs) H := by
  obtain ⟨hn, w, us, hd, ok, rh, ru, p⟩ := h
  have el : vs.length = us.length := ru.length
  have St0 : Sta c w [] (us.map some ++ List.replicate (N - us.length) none) hd (L2.start Ns vs) H := by
    refine ⟨?_, rh, ok⟩
    unfold L2.start
    rw [hN, el]
    exact RS.start ru
  refine ⟨w, [], _, hd, St0, ?_⟩
  unfold fnM at p
  revert p
  cases b (us.map some ++ List.replicate (N - us.length) none) hd with
  | nx σ h' => exact fun p w' Fs' σ' H' e S => p w' H' .non [] ⟨Ext.less (w := w) e fun a ha => List.mem_append_right Fs' (by rw [List.append_nil] at ha; exact ha), by rw [List.append_nil]; exact S.wok⟩ S.h ⟨rfl, rfl⟩
  | rt u h' => exact fun p w' H' v Fv e o rh ru => p w' H' v Fv ⟨e, o⟩ rh ru
  | ex x σ h' => exact fun p w' Fs' σ' H' cls dx e S rx => p w' H' cls dx (Ext.less (w := w) e fun a ha => List.mem_append_right Fs' ha) S.wok S.h rx
  | bk σ h' => exact fun p => p.elim
  | ct σ h' => exact fun p => p.elim
  | bad => exact fun p => p.elim
theorem spM_len {c : Cg} {n : Nat} {f : MF} {ps : List Str} (h : ps.length = n) : ∀ vs H Q E, spM c n f vs H Q E → vs.length = ps.length := fun vs H Q E q => by rw [q.1, h]

/-! ### calls -/
def mCall (f : MF) (ms : MAs) : ME := fun σ h => bindM (ms σ h) fun us h1 => if us.all noOwn then f us h1 else .bad
def mCall0 (f : MF) : ME := fun _ h => f [] h
section
variable {X : Cx} {c : Cg} {W : WX} {σ : L2.St} {H : Hp} {ms : MAs} {e : Expr} {es : List Expr} {pos p : Pos} {x : Str} {fa : Addr} {fd : FuncData} {ps : List Str} {k n : Nat} {f : MF}
theorem CPo.of {w : Wd} {Q : VK} {r : MR UV} (h : EPo false .E c W σ w H Q r) : CPo c w H Q (WE W σ) r := by
  cases r with
  | ok u h' => exact fun w' H' v Fv mo rh ru => h w' H' v Fv mo .no rh ru
  | err x h' => exact h
  | bad => exact h
theorem call_args {Q : VK} (h : tV false .E c W (mCall f ms) σ H Q) (hn : ∀ σd hd us h1, ms σd hd = .ok us h1 → us.length = n) : tAs false c W ms σ H fun vs H1 => spM c n f (vs ++ []) H1 Q (WE W σ) := by
  obtain ⟨w, Fs, σd, hd, S, p⟩ := h
  refine ⟨w, Fs, σd, hd, S, ?_⟩
  unfold mCall at p
  have hn' := hn σd hd
  revert p hn'
  cases ms σd hd with
  | err x h' => exact fun p _ => p
  | bad => exact fun p _ => p
  | ok us h1 =>
    intro p hn' w1 H1 vs Fv mo pp rh ru
    simp only [bindM_ok] at p
    by_cases hno : us.all noOwn = true
    · rw [if_pos hno] at p
      have eF := noOwn_all hno ru
      subst eF
      rw [List.append_nil]
      exact ⟨by rw [ru.length]; exact hn' us h1 rfl, w1, us, h1, mo.ext.2, rh, ru, CPo.of (EPo.shift mo.ext.1 mo.ext.2 .no p)⟩
    · rw [if_neg hno] at p; exact p.elim
/-- how many arguments -/
def ArgN (ms : MAs) (n : Nat) : Prop := ∀ σd hd us h1, ms σd hd = .ok us h1 → us.length = n
theorem argN_nil : ArgN aNil 0 := fun _ _ _ _ h => by cases h; rfl
theorem argN_cons {m : ME} {n : Nat} (h : ArgN ms n) : ArgN (aCons m ms) (n + 1) := fun σd hd us h1 e => by
  unfold aCons at e
  cases q : m σd hd with
  | err x h' => rw [q] at e; cases e
  | bad => rw [q] at e; cases e
  | ok u h' =>
    rw [q] at e
    simp only [bindM_ok] at e
    cases q2 : ms σd h' with
    | err x h' => rw [q2] at e; cases e
    | bad => rw [q2] at e; cases e
    | ok us2 h2 =>
      rw [q2] at e
      simp only [bindM_ok] at e
      cases e
      rw [List.length_cons, h _ _ _ _ q2]
/-- f(e, ..) of a def of the module -/
theorem e_call (F : FnOk X.prog X.w X.K X.mg X.base (L2.CX X.prog X.w) k fa fd ps (spM c n f)) (hr : Room k X.A) (hg : Gl X x) (hm : X.mg x = some (.ref fa)) (hk : PySem.W.keepIn X.K (.ref fa) = true) (hb : Binds X.K fd ps []) (tk : Takes X W)
    (ha : PA X (e :: es) (tAs false c W ms)) (hn : ArgN ms n) (hdb : (x == ("__debug__" : Str)) = false := by decide) (he : starEach (e :: es) X.env = (false, eval e X.env) :: starEach es X.env := by rfl) (hpl : (backTo pos (starEach es X.env)).any (·.1) = false := by rfl) :
    PE X (.Call (.Name x p) (e :: es) [] pos) (tV false .E c W (mCall f ms)) :=
  PE.imp (pe_callSD (E := WE W) F hr hg hm hk hb .nil (fun σ => passAt tk σ) ha hdb he hpl) fun σ H Q h => call_args h hn
theorem e_call0 (F : FnOk X.prog X.w X.K X.mg X.base (L2.CX X.prog X.w) k fa fd ps (spM c 0 f)) (hr : Room k X.A) (hg : Gl X x) (hm : X.mg x = some (.ref fa)) (hk : PySem.W.keepIn X.K (.ref fa) = true) (hb : Binds X.K fd ps []) (tk : Takes X W)
    (hdb : (x == ("__debug__" : Str)) = false := by decide) : PE X (.Call (.Name x p) [] [] pos) (tV false .E c W (mCall0 f)) := by
  refine ⟨fun pins s σ H Q I h => ?_⟩
  obtain ⟨w, Fs, σd, hd, S, p⟩ := h
  refine wpAny_Call_Name_kw (ld_glob I hg hm ?_ hdb)
  exact PySem.W.callWith_K0 I.kIn hk (run_fnSD (us := []) (vs := []) (dvs := []) (E := WE W) F hr hb .nil (passAt tk σ) I .nil ⟨rfl, w, [], hd, S.wok, S.h, ⟨rfl, rfl⟩, CPo.of p⟩)
end
/-- THE RULE of a def: its promise by its body's derivation -/
theorem def_ok {P : Program} {w : World} {K : PySem.W.Frag} {mg : Str → Option Value} {base : Heap} {c : Cg} {x qual : Str} {st : Stmt} {f : Addr} {fd : FuncData} {N ps : List Str} {k n nN : Nat} {b : MS} (F : Fun K x qual st f fd) (S : FnScope N ps (defScope st))
    (hn : ps.length = n) (hN : N.length = nN)
    (hbody : ∀ (X : Cx) (W : WX), X.prog = P → X.w = w → X.K = K → X.mg = mg → X.base = base → X.N = N → X.env.scope = defScope st → X.calm = true → X.fn = (fun _ => true) → Room k X.A → Takes X W → (X.stack = X.env :: X.outer) → (X.env.frame = some X.env.locals) → PassesOwn (model X.prog X.w) X.A X.env X.xe → PSs X (defBody st) (tS c W b)) :
    FnOk P w K mg base (L2.CX P w) (k + 1) f fd ps (spM c n (fnM nN b)) := by
  refine F.okX S (spM_len hn) fun cdv A outer s H vs Q E hr h => ⟨_, hbody _ _ rfl rfl rfl rfl rfl rfl rfl rfl rfl hr (takes_of rfl rfl rfl rfl) rfl rfl (passes_of rfl), ?_⟩
  exact body_ok N hN h
end MM

/-! MM10: where a derivation stands; for loops. -/
namespace MM
open PySem PySem.Spec PyProof.Rows L2

structure Cc (c : Cg) (P : Program) (w : World) (base : Heap) (N : List Str) (sc : Scope) (k : Nat) (X : Cx) (W : WX) : Prop where
  eP : X.prog = P
  ew : X.w = w
  eK : c.K = X.K
  emg : c.mg = X.mg
  ebase : X.base = base
  eN : X.N = N
  esc : X.env.scope = sc
  calm : X.calm = true
  room : Room k X.A
  tk : Takes X W
  po : PassesOwn (model X.prog X.w) X.A X.env X.xe
  fk : sc.kind = .function
  nd : X.N.Nodup
section
variable {c : Cg} {P : Program} {w : World} {base : Heap} {N : List Str} {sc : Scope} {k : Nat} {X : Cx} {W : WX}
theorem Cc.v (C : Cc c P w base N sc k X W) (i : Nat) {x : Str} {pos : Pos} (hi : N[i]? = some x) (hv : Vis sc x) (hd : (x == ("__debug__" : Str)) = false := by decide) (hcd : (x == ("__classdict__" : Str)) = false := by decide) : PE X (.Name x pos) (tVar i) :=
  pe_var (by rw [C.eN]; exact hi) (by rw [C.esc]; exact hv) hd hcd
theorem Cc.gl (C : Cc c P w base N sc k X W) {x : Str} (h : sc.names.lookup x = some .globalImplicit) : Gl X x := by
  show X.env.scope.names.lookup x = _
  rw [C.esc]; exact h
theorem Cc.lc (C : Cc c P w base N sc k X W) {x : Str} (h : Loc sc x) : Loc X.env.scope x := by rw [C.esc]; exact h
theorem Cc.ni (C : Cc c P w base N sc k X W) {i : Nat} {x : Str} (h : N[i]? = some x) : X.N[i]? = some x := by rw [C.eN]; exact h
theorem Cc.mgo (C : Cc c P w base N sc k X W) {x : Str} {o : Option Value} (h : c.mg x = o) : X.mg x = o := by rw [← C.emg]; exact h

/-! ### storing a slot -/
theorem Sta.put {w : Wd} {Fs Fv : List Addr} {σd : SL} {hd : HS} {σ : L2.St} {H : Hp} {u : UV} {v : V} {i : Nat} (S : Sta c w Fs σd hd σ H) (ok : WOk (fullv w Fs Fv) H) (ru : RU c w.Z H w.ρ u v Fv) :
    ∃ F', Sta c w F' (σd.set i (some u)) hd (σ.set i (some v)) H ∧ Ext (fullv w Fs Fv) H (full w F') H := by
  let D : Ends := ⟨fun σ' H' => ∃ F', Sta c w F' (σd.set i (some u)) hd σ' H' ∧ Ext (fullv w Fs Fv) H (full w F') H', fun _ _ => True, fun _ _ => True, fun _ _ => True⟩
  obtain ⟨F', F0, h1, h2, h3⟩ := RS.set ru i S.s
  have o1 : WOk ⟨w.ρ, w.Z, F0 ++ (w.F ++ Fv)⟩ H := ok.less (List.Sublist.append_right h2 _)
  have ok' : WOk ⟨w.ρ, w.Z, F' ++ w.F⟩ H := by
    rcases h3 with h3 | h3
    · refine o1.perm ?_
      have q : (F' ++ w.F).Perm ((F0 ++ Fv) ++ w.F) := List.Perm.append_right _ h3
      rw [List.append_assoc] at q
      exact q.trans (List.Perm.append_left F0 List.perm_append_comm)
    · rw [h3]
      exact o1.less (List.Sublist.append_left (List.sublist_append_left _ _) F0)
  refine ⟨F', ⟨h1, S.h, ok'⟩, Ext.sub fun a ha => ?_⟩
  rcases List.mem_append.mp ha with q | q
  · rcases h3 with h3 | h3
    · rcases List.mem_append.mp (h3.mem_iff.mp q) with q | q
      · exact List.mem_append_left _ (h2.subset q)
      · exact List.mem_append_right _ (List.mem_append_right _ q)
    · rw [h3] at q; exact List.mem_append_left _ (h2.subset q)
  · exact List.mem_append_right _ (List.mem_append_left _ q)

/-! ### targets -/
abbrev TD := UV → SL → Option SL
def TgS (c : Cg) (g : TG) (td : TD) : Prop := ∀ (w : Wd) (Fs : List Addr) (σd : SL) (hd : HS) (σ : L2.St) (H : Hp) (u : UV) (v : V) (σd' : SL) (Q : L2.St → Hp → Prop), Sta c w Fs σd hd σ H → RU c w.Z H w.ρ u v [] → td u σd = some σd' →
  (∀ (Fs' : List Addr) (σ' : L2.St), Ext (full w Fs) H (full w Fs') H → Sta c w Fs' σd' hd σ' H → Q σ' H) → g v σ H Q
def tdN (i : Nat) : TD := fun u σ => some (σ.set i (some u))
theorem tgN (i : Nat) : TgS c (gName i) (tdN i) := fun w Fs σd hd σ H u v σd' Q S ru e k => by
  cases e
  obtain ⟨F', S', x⟩ := S.put (Fv := []) (i := i) (by rw [fullv_nil]; exact S.ok) ru
  rw [fullv_nil] at x
  exact k F' _ x S'
/-- several targets, by values -/
def TgsS (c : Cg) (g : TGs) (td : List UV → SL → Option SL) : Prop := ∀ (w : Wd) (Fs : List Addr) (σd : SL) (hd : HS) (σ : L2.St) (H : Hp) (us : List UV) (vs : List V) (σd' : SL) (Q : L2.St → Hp → Prop), Sta c w Fs σd hd σ H → RUl c w.Z H w.ρ us vs [] → td us σd = some σd' →
  (∀ (Fs' : List Addr) (σ' : L2.St), Ext (full w Fs) H (full w Fs') H → Sta c w Fs' σd' hd σ' H → Q σ' H) → g vs σ H Q
def tdNil : List UV → SL → Option SL := fun us σ => match us with
  | [] => some σ
  | _ => none
def tdCons (t : TD) (r : List UV → SL → Option SL) : List UV → SL → Option SL := fun us σ => match us with
  | u :: us => (t u σ).bind (r us)
  | [] => none
theorem tgsNil : TgsS c gNil tdNil := fun w Fs σd hd σ H us vs σd' Q S ru e k => by
  unfold tdNil at e
  split at e
  · cases e
    exact ⟨ru.1, k Fs σ Ext.refl S⟩
  · cases e
theorem tgsCons {g : TG} {gs : TGs} {t : TD} {r : List UV → SL → Option SL} (h : TgS c g t) (h2 : TgsS c gs r) : TgsS c (gCons g gs) (tdCons t r) := fun w Fs σd hd σ H us vs σd' Q S ru e k => by
  unfold tdCons at e
  split at e
  · rename_i u us'
    rw [Option.bind_eq_some_iff] at e
    obtain ⟨σ1, e1, e2⟩ := e
    obtain ⟨v, vr, F1, F2, ev, eF, hu, t2⟩ := ru
    have q := List.append_eq_nil_iff.mp eF.symm
    rw [q.1] at hu
    rw [q.2] at t2
    exact ⟨v, vr, ev, h w Fs σd hd σ H u v σ1 _ S hu e1 fun Fs1 σ' x S1 => h2 w Fs1 σ1 hd σ' H us' vr σd' Q S1 t2 e2 fun Fs2 σ2 x2 S2 => k Fs2 σ2 (x.trans S1.ok x2) S2⟩
  · cases e
/-- (a, b, ..) of a tuple's things -/
def tdT (n : Nat) (r : List UV → SL → Option SL) : TD := fun u σ => match asT u with
  | some us => if us.length = n ∧ us.all noOwn = true then r us σ else none
  | none => none
theorem tgT {gs : TGs} {n : Nat} {r : List UV → SL → Option SL} (h : TgsS c gs r) : TgS c (gTup c.K n gs) (tdT n r) := fun w Fs σd hd σ H u v σd' Q S ru e k => by
  unfold tdT at e
  split at e
  · rename_i us q
    split at e
    · rename_i hn
      obtain ⟨a, vs, G, rfl, hq, t, _⟩ := asT_ok ru q
      have eG := noOwn_all hn.2 t
      subst eG
      exact ⟨a, vs, rfl, hq, by rw [t.length]; exact hn.1, h w Fs σd hd σ H us vs σd' Q S t e k⟩
    · cases e
  · cases e

/-! ### what is walked -/
/-- things that never change their order -/
def frzQ : UV → Option (List UV)
  | .d (.lst xs) => some (xs.map .d)
  | .d (.rol xs) => some (xs.map .d)
  | .d (.tup xs) => some (xs.map .d)
  | .tp xs => if xs.all noOwn then some xs else none
  | .fl xs => if xs.all noOwn then some xs else none
  | _ => none
theorem frzQ_ok {w : Wd} {H : Hp} {u : UV} {v : V} {F : List Addr} {xs : List UV} (r : RU c w.Z H w.ρ u v F) (e : frzQ u = some xs) : ∃ a vs, v = .ref a ∧ RUl c w.Z H w.ρ xs vs [] ∧
    ((∀ (w2 : Wd) (H2 : Hp), (∀ x, w.Z x → w2.Z x) → (∀ x o, w.Z x → H x = some o → H2 x = some o) → SqL c.K H2 a vs) ∨ (∀ (w2 : Wd) H2, (∀ x, w.Z x → w2.Z x) → (∀ x o, w.Z x → H x = some o → H2 x = some o) → SqT c.K H2 a vs)) := by
  unfold frzQ at e
  split at e
  · cases e
    obtain ⟨_, a, vs, rfl, z, f, t⟩ := r
    exact ⟨a, vs, rfl, t.up, .inl fun w2 H2 _ k => .of (k _ _ z f)⟩
  · cases e
    obtain ⟨_, a, vs, rfl, f, t⟩ := r
    exact ⟨a, vs, rfl, t.up, .inl fun w2 H2 hz k => (f.mono hz k).sq⟩
  · cases e
    obtain ⟨_, a, vs, rfl, f, t⟩ := r
    exact ⟨a, vs, rfl, t.up, .inr fun w2 H2 hz k => (f.mono hz k).sq⟩
  · split at e
    · rename_i hn
      cases e
      obtain ⟨a, vs, rfl, z, f, t⟩ := r
      have eG := noOwn_all hn t
      subst eG
      exact ⟨a, vs, rfl, t, .inr fun w2 H2 hz k => .inl (Rd.mono (k a · z) f)⟩
    · cases e
  · split at e
    · rename_i hn
      cases e
      obtain ⟨a, vs, rfl, z, f, t⟩ := r
      have eG := noOwn_all hn t
      subst eG
      exact ⟨a, vs, rfl, t, .inl fun w2 H2 _ k => .of (k _ _ z f)⟩
    · cases e
  · cases e
/-- a list or a tuple, walked -/
def iSeq (K : PySem.W.Frag) (tl : TE) : TI := fun σ H R => tl σ H fun x H1 => ∃ a, x = .ref a ∧ (((∃ xs, SqL K H1 a xs) ∧ R (Itl K a) H1) ∨ ((∃ xs, SqT K H1 a xs) ∧ R (Itt K a) H1))
theorem pi_seq {tg l : Expr} {tl : TE} (hl : PE X l tl) : PI X tg l (iSeq X.K tl) := by
  refine ⟨fun pins s σ H R I h => thn (hl.run pins s σ H _ I h) ?_⟩
  rintro v s1 ⟨x, H1, I1, r1, a, e, q⟩
  subst e
  cases r1
  have fp : ∀ (ob : Obj) (H' : Hp), H' = H1 → ∀ b ∈ [s1.heap.objs.size], FpOk X pins H' b := fun ob H' e b hb => by
    obtain rfl : b = s1.heap.objs.size := by simpa using hb
    subst e
    exact I1.fpOk (Nat.le_refl _) (I1.hok.fresh (Nat.le_refl _))
  rcases q with ⟨⟨xs, hq⟩, q⟩ | ⟨⟨xs, hq⟩, q⟩
  · obtain ⟨its, rv, p, hz⟩ := I1.list hq
    exact wpAny_pyIter_list p.isList ⟨s1.heap.objs.size, [s1.heap.objs.size], _, _, H1, rfl, I1.kept (t' := s1.toks) fun b o e => Heap.get?_push_of_some _ e, turn_list a _, ⟨_, Heap.get?_push_size _ rfl, rfl, rfl⟩, fp default H1 rfl, q⟩
  · obtain ⟨its, rv, p, hz⟩ := I1.tuple hq
    exact wpAny_pyIter_tuple (show s1.heap.IsTuple a its.toArray from p) ⟨s1.heap.objs.size, [s1.heap.objs.size], _, _, H1, rfl, I1.kept (t' := s1.toks) fun b o e => Heap.get?_push_of_some _ e, turn_tuple a _, ⟨_, Heap.get?_push_size _ rfl, rfl, rfl⟩, fp default H1 rfl, q⟩

/-! ### for -/
theorem uInt0 : uInt (.d (.int 0)) = some 0 := rfl
def rangeU (lo : Int) (n : Nat) : List UV := (List.range n).map fun (m : Nat) => .d (.int (lo + (m : Int)))
theorem rangeU_len (lo : Int) (n : Nat) : (rangeU lo n).length = n := by unfold rangeU; rw [List.length_map, List.length_range]
def loopL (f : UV → SL → HS → RS') : List UV → SL → HS → RS'
  | [], σ, h => .nx σ h
  | x :: xs, σ, h => match f x σ h with
    | .nx σ' h' => loopL f xs σ' h'
    | .ct σ' h' => loopL f xs σ' h'
    | .bk σ' h' => .nx σ' h'
    | r => r
def turnF (td : TD) (b : MS) : UV → SL → HS → RS' := fun u σ h => match td u σ with
  | some σ' => b σ' h
  | none => .bad
def sFor (m : ME) (td : TD) (b : MS) : MS := fun σ h => bindS (m σ h) σ fun u h1 => match frzQ u with
  | some xs => loopL (turnF td b) xs σ h1
  | none => .bad
def sForR (lo hi : ME) (td : TD) (b : MS) : MS := fun σ h => bindS (lo σ h) σ fun u h1 => bindS (hi σ h1) σ fun v h2 => match uInt u, uInt v with
  | some i, some j => if -(2 ^ 62) ≤ i ∧ i < 2 ^ 62 ∧ -(2 ^ 62) ≤ j ∧ j < 2 ^ 62 then loopL (turnF td b) (rangeU i (j - i).toNat) σ h2 else .bad
  | _, _ => .bad
/-- one turn -/
theorem turn_ok {g : TG} {td : TD} {b : MS} {xs : List UV} {u : UV} {v : V} {w0 wv : Wd} {H0 : Hp} {D : Ends} {Fs : List Addr} {σd : SL} {hd : HS} {σ : L2.St} {H : Hp} {Pn : L2.St → Hp → Prop} (hg : TgS c g td)
    (S : Sta c wv Fs σd hd σ H) (ru : RU c wv.Z H wv.ρ u v []) (p : SPo c W (full wv Fs) H D (loopL (turnF td b) (u :: xs) σd hd))
    (k : ∀ (w' : Wd) (Fs' : List Addr) (σd' : SL) (hd' : HS) (σ' : L2.St) (H' : Hp), Ext (full wv Fs) H (full w' Fs') H' → Sta c w' Fs' σd' hd' σ' H' → SPo c W (full w' Fs') H' D (loopL (turnF td b) xs σd' hd') → Pn σ' H') :
    g v σ H fun σ2 H2 => tS c W b { D with nx := Pn, ct := Pn, bk := D.nx } σ2 H2 := by
  unfold loopL turnF at p
  cases q : td u σd with
  | none => simp only [q] at p; exact p.elim
  | some σ1 =>
    simp only [q] at p
    refine hg wv Fs σd hd σ H u v σ1 _ S ru q fun Fs1 σ' x S1 => ⟨wv, Fs1, σ1, hd, S1, ?_⟩
    have p1 := SPo.shift x S1.ok p
    revert p1
    cases b σ1 hd with
    | nx σ2 h2 => exact fun p1 w' Fs' σ' H' e S' => k w' Fs' σ2 h2 σ' H' (x.trans S1.ok e) S' (SPo.shift e S'.ok p1)
    | ct σ2 h2 => exact fun p1 w' Fs' σ' H' e S' => k w' Fs' σ2 h2 σ' H' (x.trans S1.ok e) S' (SPo.shift e S'.ok p1)
    | bk σ2 h2 => exact fun p1 w' Fs' σ' H' e S' => p1 w' Fs' σ' H' e S'
    | rt u h2 => exact fun p1 => p1
    | ex e σ2 h2 => exact fun p1 => p1
    | bad => exact fun p1 => p1
theorem RUl.drop_get {Z : Addr → Prop} {H : Hp} {ρ : List Addr} {xs : List UV} {vs : List V} {i : Nat} {v : V} (t : RUl c Z H ρ xs vs []) (e : vs[i]? = some v) : ∃ u, xs.drop i = u :: xs.drop (i + 1) ∧ RU c Z H ρ u v [] := by
  have hlt : i < xs.length := by
    rw [← t.length]
    exact (List.getElem?_eq_some_iff.mp e).1
  have hx : xs[i]? = some xs[i] := List.getElem?_eq_getElem hlt
  obtain ⟨v', G, e1, r, s⟩ := t.get hx
  rw [e] at e1; cases e1
  have eG : G = [] := by
    cases G with
    | nil => rfl
    | cons a G => exact absurd (s a List.mem_cons_self) (by simp)
  subst eG
  exact ⟨xs[i], List.drop_eq_getElem_cons hlt, r⟩
theorem s_for {tg iter : Expr} {body : List Stmt} {g : TG} {td : TD} {m : ME} {mb : MS} {pos : Pos} {pu : Bool} (hK : c.K = X.K) (hp : PassesOwn (model X.prog X.w) X.A X.env X.xe) (hc : X.calm = true) (hi : PE X iter (tV pu .E c W m)) (hg : PG X tg g) (hgs : TgS c g td) (hb : PSs X body (tS c W mb))
    (hs : ∀ x, foldedSetIterable iter X.env x = pure x := by intro _; rfl) : PS X (.For tg iter body [] pos) (tS c W (sFor m td mb)) :=
  PS.imp (ps_for hp hc (pi_seq hi) hg hb hs) fun D σ H ⟨w, Fs, σd, hd, S, p⟩ => stepE S p fun u h1 w1 H1 x Fx S1 ok pp ru p1 => by
    cases q : frzQ u with
    | none => simp only [q] at p1; exact p1.elim
    | some xs =>
      simp only [q] at p1
      obtain ⟨a, vs, rfl, t, hL⟩ := frzQ_ok ru q
      have p2 : SPo c W (full w1 Fs) H1 D (loopL (turnF td mb) xs σd h1) := SPo.shift (Ext.sub fun a ha => by
        rcases List.mem_append.mp ha with z | z
        · exact List.mem_append_left _ z
        · exact List.mem_append_right _ (List.mem_append_left _ z)) S1.ok p1
      let Pv : Nat → L2.St → Hp → Prop := fun i σ' H' => ∃ w' Fs' σd' hd', Ext (full w1 Fs) H1 (full w' Fs') H' ∧ Sta c w' Fs' σd' hd' σ' H' ∧ SPo c W (full w' Fs') H' D (loopL (turnF td mb) (xs.drop i) σd' hd')
      have h0 : Pv 0 σ H1 := ⟨w1, Fs, σd, h1, Ext.refl, S1, p2⟩
      have frz : ∀ {w' : Wd} {Fs' : List Addr} {H' : Hp}, Ext (full w1 Fs) H1 (full w' Fs') H' → ∀ x o, w1.Z x → H1 x = some o → H' x = some o := fun e => frozen_kept (w := full w1 Fs) S1.ok e
      have step : ∀ i v σ' H', vs[i]? = some v → Pv i σ' H' → g v σ' H' fun σ2 H2 => tS c W mb { D with nx := Pv (i + 1), ct := Pv (i + 1), bk := D.nx } σ2 H2 := fun i v σ' H' hv ⟨w', Fs', σd', hd', e, S', p'⟩ => by
        obtain ⟨u2, ed, ru2⟩ := t.drop_get hv
        rw [ed] at p'
        refine turn_ok (w0 := w1) (H0 := H1) hgs S' (RU.mono e.rho e.z (frz e) (fun _ z => absurd z (by simp)) ru2) p' fun w2 Fs2 σd2 hd2 σ2 H2 e2 S2 p2 => ⟨w2, Fs2, σd2, hd2, e.trans S'.ok e2, S2, p2⟩
      have fin : ∀ σ' H', Pv vs.length σ' H' → D.nx σ' H' := fun σ' H' ⟨w', Fs', σd', hd', e, S', p'⟩ => by
        rw [t.length, List.drop_length] at p'
        exact SPo.next p' S'
      rcases hL with hL | hL
      · refine ⟨a, rfl, .inl ⟨⟨vs, by rw [← hK]; exact hL w1 H1 (fun _ z => z) (fun _ _ _ h => h)⟩, ?_⟩⟩
        exact for_list Pv h0 (fun i σ' H' _ ⟨w', Fs', σd', hd', e, S', p'⟩ => by rw [← hK]; exact hL w' H' e.z (frz e)) step fin
      · refine ⟨a, rfl, .inr ⟨⟨vs, by rw [← hK]; exact hL w1 H1 (fun _ z => z) (fun _ _ _ h => h)⟩, ?_⟩⟩
        exact for_tup Pv h0 (fun i σ' H' _ ⟨w', Fs', σd', hd', e, S', p'⟩ => by rw [← hK]; exact hL w' H' e.z (frz e)) step fin
theorem range_drop (lo : Int) : ∀ (n i : Nat), i < n → (rangeU lo n).drop i = UV.d (.int (lo + (i : Int))) :: (rangeU lo n).drop (i + 1) := fun n i h => by
  have hl : i < (rangeU lo n).length := by rw [rangeU_len]; exact h
  rw [List.drop_eq_getElem_cons hl]
  simp [rangeU]
/-- the loop over lo, lo + 1, .. -/
theorem range_ok {g : TG} {td : TD} {b : MS} {lo : Int} {n : Nat} {w1 : Wd} {Fs : List Addr} {σd : SL} {h1 : HS} {σ : L2.St} {H1 : Hp} {D : Ends} (hgs : TgS c g td) (S1 : Sta c w1 Fs σd h1 σ H1)
    (p2 : SPo c W (full w1 Fs) H1 D (loopL (turnF td b) (rangeU lo n) σd h1)) :
    ∃ W' : Nat → Nat → L2.St → Hp → Prop, (∃ m, W' 0 m σ H1) ∧ ∀ i m σ H, W' i m σ H →
      ((Itr lo n).stop i H ∧ D.nx σ H) ∨ ((Itr lo n).go i H ∧ ∃ N : L2.St → Hp → Prop, (∀ σ' H', N σ' H' → ∃ m', m' < m ∧ W' (i + 1) m' σ' H') ∧ ∀ x H', (Itr lo n).yld i H x H' → g x σ H' fun σ2 H2 => tS c W b { D with nx := N, ct := N, bk := D.nx } σ2 H2) := by
  let Pv : Nat → L2.St → Hp → Prop := fun i σ' H' => ∃ w' Fs' σd' hd', Sta c w' Fs' σd' hd' σ' H' ∧ SPo c W (full w' Fs') H' D (loopL (turnF td b) ((rangeU lo n).drop i) σd' hd')
  refine for_range Pv ⟨w1, Fs, σd, h1, S1, p2⟩ (fun i σ' H' hi ⟨w', Fs', σd', hd', S', p'⟩ => ?_) fun σ' H' ⟨w', Fs', σd', hd', S', p'⟩ => ?_
  · rw [range_drop lo n i hi] at p'
    exact turn_ok (w0 := w1) (H0 := H1) (u := .d (.int (lo + (i : Int)))) hgs S' ⟨rfl, rfl⟩ p' fun w2 Fs2 σd2 hd2 σ2 H2 e2 S2 p2 => ⟨w2, Fs2, σd2, hd2, S2, p2⟩
  · rw [List.drop_of_length_le (by rw [rangeU_len]; exact Nat.le_refl _)] at p'
    exact SPo.next p' S'
theorem s_forR2 {tg a b : Expr} {body : List Stmt} {g : TG} {td : TD} {ma mb : ME} {m : MS} {pos p1 p2 : Pos} {pu : Bool} (hp : PassesOwn (model X.prog X.w) X.A X.env X.xe) (hc : X.calm = true) (hgl : Gl X "range") (hm : X.mg "range" = none) (ha : PE X a (tV pu .C c W ma)) (hb : PE X b (tV pu .C c W mb)) (hg : PG X tg g) (hgs : TgS c g td) (hbd : PSs X body (tS c W m))
    (hs : starEach [a, b] X.env = [(false, eval a X.env), (false, eval b X.env)] := by rfl) (hs2 : starEach [b] X.env = [(false, eval b X.env)] := by rfl) :
    PS X (.For tg (.Call (.Name "range" p1) [a, b] [] p2) body [] pos) (tS c W (sForR ma mb td m)) :=
  PS.imp (ps_for hp hc (pi_range2 hgl hm (pa_cons ha (pa_cons hb pa_nil (by rw [hs2]; rfl)) (by rw [hs, hs2])) hs hs2) hg hbd) fun D σ H ⟨w, Fs, σd, hd, S, p⟩ => stepS (md := .C) S p fun u h1 w1 H1 x Fx S1 mo pp ru p1 => stepS (md := .C) S1 p1 fun v h2 w2 H2 y Fy S2 mo2 pp2 rv p2 => by
    cases q1 : uInt u with
    | none => simp only [q1] at p2; exact p2.elim
    | some i =>
      cases q2 : uInt v with
      | none => simp only [q1, q2] at p2; exact p2.elim
      | some j =>
        simp only [q1, q2] at p2
        by_cases hb : -(2 ^ 62) ≤ i ∧ i < 2 ^ 62 ∧ -(2 ^ 62) ≤ j ∧ j < 2 ^ 62
        · rw [if_pos hb] at p2
          refine ⟨i, j, by rw [uInt_ok q1 ru, uInt_ok q2 rv], hb, ?_⟩
          exact range_ok hgs S2 p2
        · rw [if_neg hb] at p2; exact p2.elim
theorem s_forR1 {tg b : Expr} {body : List Stmt} {g : TG} {td : TD} {mb : ME} {m : MS} {pos p1 p2 : Pos} {pu : Bool} (hp : PassesOwn (model X.prog X.w) X.A X.env X.xe) (hc : X.calm = true) (hgl : Gl X "range") (hm : X.mg "range" = none) (hb : PE X b (tV pu .C c W mb)) (hg : PG X tg g) (hgs : TgS c g td) (hbd : PSs X body (tS c W m)) (hs2 : starEach [b] X.env = [(false, eval b X.env)] := by rfl) :
    PS X (.For tg (.Call (.Name "range" p1) [b] [] p2) body [] pos) (tS c W (sForR (mK (.int 0)) mb td m)) :=
  PS.imp (ps_for hp hc (pi_range1 hgl hm (pa_cons hb pa_nil (by rw [hs2]; rfl)) hs2) hg hbd) fun D σ H ⟨w, Fs, σd, hd, S, p⟩ => by
    unfold sForR mK at p
    simp only [bindS_ok] at p
    refine stepS (md := .C) S p fun v h2 w2 H2 y Fy S2 mo2 pp2 rv p2 => ?_
    cases q2 : uInt v with
    | none => simp only [uInt0, q2] at p2; exact p2.elim
    | some j =>
      simp only [uInt0, q2] at p2
      by_cases hb : -(2 ^ 62) ≤ (0 : Int) ∧ (0 : Int) < 2 ^ 62 ∧ -(2 ^ 62) ≤ j ∧ j < 2 ^ 62
      · rw [if_pos hb] at p2
        refine ⟨j, by rw [uInt_ok q2 rv], hb.2.2.1, hb.2.2.2, ?_⟩
        rw [Int.sub_zero] at p2
        exact range_ok hgs S2 p2
      · rw [if_neg hb] at p2; exact p2.elim
end
end MM

/-! MM11: list comprehensions. -/
namespace MM
open PySem PySem.Spec PyProof.Rows L2

def compL (f : UV → HS → MR (Option UV)) : List UV → HS → MR (List UV)
  | [], h => .ok [] h
  | x :: xs, h => match f x h with
    | .ok (some y) h1 => match compL f xs h1 with
      | .ok ys h2 => .ok (y :: ys) h2
      | _ => .bad
    | .ok none h1 => compL f xs h1
    | _ => .bad
def wipeU (σ : SL) : List Nat → SL
  | [] => σ
  | v :: vs => (wipeU σ vs).set v none
/-- one turn: the names bound, the test, the element -/
def turnC (td : TD) (vs : List Nat) (mt : MT) (me : ME) (σ : SL) : UV → HS → MR (Option UV) := fun u h => match td u (wipeU σ vs) with
  | some σ' => match mt σ' h with
    | .ok true h1 => match me σ' h1 with
      | .ok y h2 => .ok (some y) h2
      | _ => .bad
    | .ok false h1 => .ok none h1
    | _ => .bad
  | none => .bad
def mYes : MT := fun _ h => .ok true h
def compE (f : UV → HS → MR (Option UV)) (xs : List UV) (h : HS) : MR UV := if xs.length ≤ sizeLine then bindM (compL f xs h) fun ys h2 => .ok (.own ys) h2 else .bad
def mComp (mi : ME) (td : TD) (vs : List Nat) (mt : MT) (me : ME) : ME := fun σ h => bindM (mi σ h) fun u h1 => match frzQ u with
  | some xs => compE (turnC td vs mt me σ) xs h1
  | none => .bad
def mCompR (lo hi : ME) (td : TD) (vs : List Nat) (mt : MT) (me : ME) : ME := fun σ h => bindM (lo σ h) fun u h1 => bindM (hi σ h1) fun v h2 => match uInt u, uInt v with
  | some i, some j => if -(2 ^ 62) ≤ i ∧ i < 2 ^ 62 ∧ -(2 ^ 62) ≤ j ∧ j < 2 ^ 62 then compE (turnC td vs mt me σ) (rangeU i (j - i).toNat) h2 else .bad
  | _, _ => .bad
abbrev W0 : WX := fun _ _ _ _ => False
def TgW (g : TG) (vs : List Nat) : Prop := ∀ v σ H Q, g v σ H Q → g v σ H fun σ2 H2 => wipe σ2 vs = wipe σ vs ∧ Q σ2 H2
theorem wipe_set {σ : L2.St} {i : Nat} {x : Option V} : ∀ vs : List Nat, wipe (σ.set i x) vs = if i ∈ vs then wipe σ vs else (wipe σ vs).set i x
  | [] => by simp [wipe]
  | v :: vs => by
    have ih := wipe_set (σ := σ) (i := i) (x := x) vs
    show (wipe (σ.set i x) vs).set v none = _
    rw [ih]
    by_cases h : i ∈ vs
    · rw [if_pos h, if_pos (List.mem_cons_of_mem _ h)]; rfl
    · rw [if_neg h]
      by_cases e : i = v
      · subst e
        rw [if_pos List.mem_cons_self, List.set_set]; rfl
      · rw [if_neg (by simp [e, h]), List.set_comm _ _ e]; rfl
theorem wipe_idem {σ : L2.St} : ∀ vs : List Nat, wipe (wipe σ vs) vs = wipe σ vs
  | [] => rfl
  | v :: vs => by
    show (wipe ((wipe σ vs).set v none) vs).set v none = (wipe σ vs).set v none
    rw [wipe_set]
    by_cases h : v ∈ vs
    · rw [if_pos h, wipe_idem vs]
    · rw [if_neg h, wipe_idem vs, List.set_set]
theorem tgwN {i : Nat} {vs : List Nat} (h : i ∈ vs) : TgW (gName i) vs := fun v σ H Q q => ⟨by rw [wipe_set, if_pos h], q⟩
def TgsW (g : TGs) (vs : List Nat) : Prop := ∀ us σ H Q, g us σ H Q → g us σ H fun σ2 H2 => wipe σ2 vs = wipe σ vs ∧ Q σ2 H2
theorem tgwNil {vs : List Nat} : TgsW gNil vs := fun us σ H Q q => ⟨q.1, rfl, q.2⟩
theorem tgwCons {g : TG} {gs : TGs} {vs : List Nat} (hm : ∀ v σ H (Q Q' : L2.St → Hp → Prop), (∀ σ H, Q σ H → Q' σ H) → g v σ H Q → g v σ H Q') (h : TgW g vs) (h2 : TgsW gs vs) : TgsW (gCons g gs) vs := fun us σ H Q ⟨v, r, e, q⟩ =>
  ⟨v, r, e, hm _ _ _ _ _ (fun σ1 H1 ⟨e1, q1⟩ => by
    have := h2 r σ1 H1 Q q1
    rw [e1] at this
    exact this) (h v σ H _ q)⟩
theorem gName_mono {i : Nat} : ∀ v σ H (Q Q' : L2.St → Hp → Prop), (∀ σ H, Q σ H → Q' σ H) → gName i v σ H Q → gName i v σ H Q' := fun _ _ _ _ _ k q => k _ _ q
theorem tgwT {K : PySem.W.Frag} {n : Nat} {gs : TGs} {vs : List Nat} (h : TgsW gs vs) : TgW (gTup K n gs) vs := fun v σ H Q ⟨a, xs, e1, e2, e3, q⟩ => ⟨a, xs, e1, e2, e3, h xs σ H Q q⟩

section
variable {c : Cg} {Z : Addr → Prop} {H : Hp} {ρ : List Addr}
theorem RS.unset : ∀ {s : SL} {l : L2.St} {F : List Addr} (i : Nat), RS c Z H ρ s l F → ∃ F0, RS c Z H ρ (s.set i none) (l.set i none) F0 ∧ F0.Sublist F
  | [], _, F, i, h => by
    rw [h.1, h.2]
    exact ⟨[], ⟨rfl, rfl⟩, List.Sublist.refl _⟩
  | none :: s, _, F, 0, ⟨o, r', e, t⟩ => by
    rw [e]
    exact ⟨F, ⟨none, r', rfl, t⟩, List.Sublist.refl _⟩
  | some x :: s, _, F, 0, ⟨v', r', F1, F2, e, eF, h, t⟩ => by
    rw [e, eF]
    exact ⟨F2, ⟨none, r', rfl, t⟩, List.sublist_append_right _ _⟩
  | none :: s, _, F, i + 1, ⟨o, r', e, t⟩ => by
    obtain ⟨F0, h1, h2⟩ := RS.unset i t
    rw [e]
    exact ⟨F0, ⟨o, _, rfl, h1⟩, h2⟩
  | some x :: s, _, F, i + 1, ⟨v', r', F1, F2, e, eF, h, t⟩ => by
    obtain ⟨F0, h1, h2⟩ := RS.unset i t
    rw [e, eF]
    exact ⟨F1 ++ F0, ⟨v', _, F1, F0, rfl, rfl, h, h1⟩, List.Sublist.append_left h2 F1⟩
theorem RS.wipe {s : SL} {l : L2.St} {F : List Addr} (h : RS c Z H ρ s l F) : ∀ vs : List Nat, ∃ F0, RS c Z H ρ (wipeU s vs) (L2.wipe l vs) F0 ∧ F0.Sublist F
  | [] => ⟨F, h, List.Sublist.refl _⟩
  | v :: vs => by
    obtain ⟨F1, h1, s1⟩ := RS.wipe h vs
    obtain ⟨F0, h2, s2⟩ := RS.unset v h1
    exact ⟨F0, h2, s2.trans s1⟩
end
/-- a fresh object of the result is written -/
theorem upd_ownE {w1 w3 : Wd} {H1 H3 : Hp} {D : Addr} {G : List Addr} {o : HO} (mo : MdOk .E w1 H1 w3 H3 (D :: G)) (hD : H1 D = none) :
    MdOk .E w1 H1 w3 (upd H3 D o) (D :: G) ∧ (∀ a u, (w3.Z a ∨ a ∈ w3.F ∨ a ∈ G) → H3 a = some u → upd H3 D o a = some u) := by
  obtain ⟨e, ok⟩ := mo
  have nd := List.nodup_append.mp ok.nd
  have nG := List.nodup_cons.mp nd.2.1
  refine ⟨⟨⟨e.rho, e.z, fun a u h n => ?_, e.new, fun a h => upd_there a (e.there a h)⟩, ok.nd, ok.sep, fun a h => upd_there a (ok.trF a h), fun a h => upd_there a (ok.trZ a h)⟩, fun a u h q => ?_⟩
  · rw [upd_ne (ne_of_none h hD)]; exact e.keep a u h n
  · have ne : a ≠ D := by
      rintro rfl
      rcases h with h | h | h
      · exact ok.sep a (List.mem_append_right _ List.mem_cons_self) h
      · exact nd.2.2 a h a List.mem_cons_self rfl
      · exact nG.1 h
    rw [upd_ne ne]; exact q

section
variable {X : Cx} {c : Cg} {W : WX} {pu : Bool} {g : TG} {td : TD} {mt : MT} {me : ME} {vs : List Nat} {w1 : Wd} {Fs : List Addr} {σd : SL} {hd : HS} {σ : L2.St} {H1 : Hp} {D : Addr} {Q : VK}
/-- what holds between two turns -/
def PvC (pu : Bool) (c : Cg) (W : WX) (σ : L2.St) (w1 : Wd) (H1 : Hp) (D : Addr) (Q : VK) (f : UV → HS → MR (Option UV)) (xs : List UV) (i : Nat) (H : Hp) : Prop :=
  ∃ (w' : Wd) (hd' : HS) (acc : List UV) (va : List V) (G : List Addr), MdOk .E w1 H1 w' H (D :: G) ∧ Pu pu H1 H ∧ RH c w'.Z H w'.ρ hd' w'.F ∧ H D = some (.lst va) ∧ RUl c w'.Z H w'.ρ acc va G ∧ acc.length ≤ i ∧
    EPo pu .E c W σ w1 H1 Q (bindM (compL f (xs.drop i) hd') fun ys h => .ok (.own (acc ++ ys)) h)
theorem pvC_start {f : UV → HS → MR (Option UV)} {xs : List UV} (ok : WOk w1 H1) (rh : RH c w1.Z H1 w1.ρ hd w1.F) (hD : H1 D = none) (p : EPo pu .E c W σ w1 H1 Q (bindM (compL f xs hd) fun ys h => .ok (.own ys) h)) : PvC pu c W σ w1 H1 D Q f xs 0 (upd H1 D (.lst [])) :=
  ⟨w1, hd, [], [], [], ext_newE (.same ok) hD, fun _ => upd_keep hD, RH_upd hD rh, upd_same, ⟨rfl, rfl⟩, Nat.le_refl _, p⟩
theorem pvC_end {f : UV → HS → MR (Option UV)} {xs : List UV} {n : Nat} {H : Hp} (hn : xs.length ≤ n) (h : PvC pu c W σ w1 H1 D Q f xs n H) : Q (.ref D) H := by
  obtain ⟨w', hd', acc, va, G, mo, pp, rh, hD, ra, _, p⟩ := h
  rw [List.drop_of_length_le hn] at p
  simp only [compL, bindM_ok, List.append_nil] at p
  exact p w' H _ _ mo pp rh ⟨D, va, G, rfl, hD, rfl, ra⟩
theorem pvC_turn {xs : List UV} {i : Nat} {H : Hp} {u : UV} {v : V} (hgs : TgS c g td) (hgw : TgW g vs) (S1 : Sta c w1 Fs σd hd σ H1) (hD : H1 D = none) (hz : xs.length ≤ sizeLine) (hi : i < xs.length)
    (hu : xs.drop i = u :: xs.drop (i + 1)) (ru : ∀ (w' : Wd) H, (∀ x, w1.Z x → w'.Z x) → (∀ x o, w1.Z x → H1 x = some o → H x = some o) → (∀ (i : Nat) a, w1.ρ[i]? = some a → w'.ρ[i]? = some a) → RU c w'.Z H w'.ρ u v [])
    (h : PvC pu c W σ w1 H1 D Q (turnC td vs mt me σd) xs i H) :
    g v (wipe σ vs) H fun σ2 H2 => wipe σ2 vs = wipe σ vs ∧ tB2 pu c W0 mt σ2 H2 fun b H3 =>
      if b = true then tV pu .E c W0 me σ2 H3 fun y H4 => ∃ acc, H4 D = some (.lst acc) ∧ acc.length < sizeLine ∧ PvC pu c W σ w1 H1 D Q (turnC td vs mt me σd) xs (i + 1) (upd H4 D (.lst (acc ++ [y])))
      else PvC pu c W σ w1 H1 D Q (turnC td vs mt me σd) xs (i + 1) H3 := by
  obtain ⟨w', hd', acc, va, G, mo, pp, rh, hHD, ra, hl, p⟩ := h
  obtain ⟨Fw, hw, sw⟩ := S1.s.wipe vs
  have e1 := mo.ext
  have kz := frozen_kept S1.wok e1.1
  have okA : WOk ⟨w'.ρ, w'.Z, Fs ++ (w'.F ++ (D :: G))⟩ H := S1.ok.aside mo.1 mo.2
  have Sw : Sta c w' Fw (wipeU σd vs) hd' (wipe σ vs) H :=
    ⟨hw.mono e1.1.rho e1.1.z kz (fun a ha o ho => aside_kept S1.ok e1.1 a (sw.subset ha) o ho), rh, okA.less (List.Sublist.append sw (List.sublist_append_left _ _))⟩
  rw [hu] at p
  unfold compL turnC at p
  have hgw' : ∀ Q, g v (wipe σ vs) H Q → g v (wipe σ vs) H fun σ2 H2 => wipe σ2 vs = wipe σ vs ∧ Q σ2 H2 := fun Q z => by
    have := hgw v (wipe σ vs) H Q z
    rw [wipe_idem] at this
    exact this
  refine hgw' _ ?_
  cases q : td u (wipeU σd vs) with
  | none => simp only [q, bindM_bad] at p; exact p.elim
  | some σ1 =>
    simp only [q] at p
    refine hgs w' Fw (wipeU σd vs) hd' (wipe σ vs) H u v σ1 _ Sw (ru w' H e1.1.z kz e1.1.rho) q fun F1 σ' x S2 => ⟨w', F1, σ1, hd', S2, ?_⟩
    revert p
    cases q2 : mt σ1 hd' with
    | err e h' => intro p; simp only [q2, bindM_bad] at p; exact p.elim
    | bad => intro p; simp only [q2, bindM_bad] at p; exact p.elim
    | ok b h2 =>
      intro p w2 H2 e2 o2 pp2 rh2
      have nD : D ∉ w'.F := fun z => (List.nodup_append.mp mo.2.nd).2.2 D z D List.mem_cons_self rfl
      cases b with
      | false =>
        rw [if_neg Bool.false_ne_true]
        simp only [q2] at p
        have mo2 : MdOk .E w1 H1 w2 H2 (D :: G) := by
          have := mo.two (w2 := w2) (H2 := H2) (Fr := []) ⟨by simpa using e2, by simpa using o2⟩
          rw [List.append_nil] at this
          exact this
        refine ⟨w2, h2, acc, va, G, mo2, pp.trans pp2, rh2, e2.keep D _ hHD nD, ?_, Nat.le_succ_of_le hl, p⟩
        exact RUl.mono e2.rho e2.z (frozen_kept e1.2 e2) (fun a ha o ho => e2.keep a o ho fun z => (List.nodup_append.mp mo.2.nd).2.2 a z a (List.mem_cons_of_mem _ ha) rfl) ra
      | true =>
        rw [if_pos rfl]
        simp only [q2] at p
        refine ⟨w2, F1, σ1, h2, S2.ext e2 o2 rh2, ?_⟩
        revert p
        cases q3 : me σ1 h2 with
        | err e h' => intro p; simp only [q3, bindM_bad] at p; exact p.elim
        | bad => intro p; simp only [q3, bindM_bad] at p; exact p.elim
        | ok y h3 =>
          intro p w3 H3 vy Fy mo3 pp3 rh3 ry
          simp only [q3] at p
          have m3 : MdOk .E w' H w3 H3 Fy := mo3.trans e2 o2
          have m4 := mo.two m3
          have e3 := m3.ext.1
          have hD3 : H3 D = some (.lst va) := e3.keep D _ hHD nD
          have m4' : MdOk .E w1 H1 w3 H3 (D :: (G ++ Fy)) := m4
          obtain ⟨m5, k5⟩ := upd_ownE (o := .lst (va ++ [vy])) m4' hD
          have ra3 : RUl c w3.Z H3 w3.ρ acc va G := RUl.mono e3.rho e3.z (frozen_kept e1.2 e3) (fun a ha o ho => e3.keep a o ho fun z => (List.nodup_append.mp mo.2.nd).2.2 a z a (List.mem_cons_of_mem _ ha) rfl) ra
          have ry3 : RUl c w3.Z H3 w3.ρ (acc ++ [y]) (va ++ [vy]) (G ++ Fy) := ra3.app ⟨vy, [], Fy, [], rfl, by simp, ry, rfl, rfl⟩
          have hlen : va.length < sizeLine := by
            rw [ra.length]
            exact Nat.lt_of_lt_of_le (Nat.lt_of_le_of_lt hl hi) hz
          refine ⟨va, hD3, hlen, w3, h3, acc ++ [y], va ++ [vy], G ++ Fy, m5, fun pq a o ho => ?_, ?_, upd_same, ?_, ?_, ?_⟩
          · rw [upd_ne (ne_of_none ho hD)]; exact ((pp.trans pp2).trans pp3) pq a o ho
          · exact RHl.mono (fun _ _ e => e) (fun _ z => z) (fun a o z ho => k5 a o (.inl z) ho) (fun a ha o ho => k5 a o (.inr (.inl ha)) ho) rh3
          · exact RUl.mono (fun _ _ e => e) (fun _ z => z) (fun a o z ho => k5 a o (.inl z) ho) (fun a ha o ho => k5 a o (.inr (.inr ha)) ho) ry3
          · rw [List.length_append]; exact Nat.succ_le_succ hl
          · have e9 : ∀ {m : MR (List UV)}, EPo pu .E c W σ w1 H1 Q (bindM (match m with | .ok ys h2 => .ok (y :: ys) h2 | _ => .bad) fun ys h => .ok (.own (acc ++ ys)) h) → EPo pu .E c W σ w1 H1 Q (bindM m fun ys h => .ok (.own ((acc ++ [y]) ++ ys)) h) := fun {m} z => by
              cases m with
              | ok ys h4 => simp only [bindM_ok] at z ⊢; rw [List.append_assoc]; exact z
              | err e h4 => exact z.elim
              | bad => exact z.elim
            exact e9 p
theorem PTs.imp {ifs : List Expr} {t t' : TT} (h : PTs X ifs t) (i : ∀ σ H Q, t' σ H Q → t σ H Q) : PTs X ifs t' := ⟨fun pins s σ H Q I q => h.run pins s σ H Q I (i σ H Q q)⟩
theorem ts_nil : PTs X [] (tB2 pu c W mYes) := PTs.imp pts_nil fun σ H Q ⟨w, Fs, σd, hd, S, p⟩ => p.fin S.wok S.h
theorem ts_one {t : Expr} (h : PT X t (tB2 pu c W mt)) : PTs X [t] (tB2 pu c W mt) := pts_one h
/-- the reading of a comprehension over a list or tuple -/
theorem comp_seq {mi : ME} {H : Hp} (hK : c.K = X.K) (hgs : TgS c g td) (hgw : TgW g vs) (h : tV pu .E c W (mComp mi td vs mt me) σ H Q) : tLc (iSeq X.K (tV pu .E c W mi)) g (tB2 pu c W0 mt) (tV pu .E c W0 me) vs σ H Q := by
  obtain ⟨w, Fs, σd, hd, S, p⟩ := h
  refine step1 (md := .E) S p fun u h1 w1 H1 x Fx S1 mo ru p1 => ?_
  cases q : frzQ u with
  | none => simp only [q] at p1; exact p1.elim
  | some xs =>
    simp only [q] at p1
    unfold compE at p1
    by_cases hz : xs.length ≤ sizeLine
    · rw [if_pos hz] at p1
      obtain ⟨a, va, rfl, t, hL⟩ := frzQ_ok ru q
      have turn : ∀ D, H1 D = none → ∀ i v H', va[i]? = some v → PvC pu c W σ w1 H1 D Q (turnC td vs mt me σd) xs i H' →
          g v (wipe σ vs) H' fun σ2 H2 => wipe σ2 vs = wipe σ vs ∧ tB2 pu c W0 mt σ2 H2 fun b H3 =>
            if b = true then tV pu .E c W0 me σ2 H3 fun y H4 => ∃ acc, H4 D = some (.lst acc) ∧ acc.length < sizeLine ∧ PvC pu c W σ w1 H1 D Q (turnC td vs mt me σd) xs (i + 1) (upd H4 D (.lst (acc ++ [y])))
            else PvC pu c W σ w1 H1 D Q (turnC td vs mt me σd) xs (i + 1) H3 := fun D hD i v H' hv hp => by
        obtain ⟨u2, ed, ru2⟩ := t.drop_get hv
        have hi : i < xs.length := by
          rw [← t.length]
          exact (List.getElem?_eq_some_iff.mp hv).1
        exact pvC_turn hgs hgw S1 hD hz hi ed (fun w' H' hz' hk' hr' => RU.mono hr' hz' hk' (fun _ z => absurd z (by simp)) ru2) hp
      rcases hL with hL | hL
      · refine ⟨a, rfl, .inl ⟨⟨va, by rw [← hK]; exact hL w1 H1 (fun _ z => z) (fun _ _ _ h => h)⟩, fun D hD => ?_⟩⟩
        exact lc_list (xs := va) (PvC pu c W σ w1 H1 D Q (turnC td vs mt me σd) xs) (pvC_start S1.wok S1.h hD p1) (fun i H' _ ⟨w', hd', acc, va', G, m', _⟩ => by rw [← hK]; exact hL w' H' m'.ext.1.z (frozen_kept S1.wok m'.ext.1)) (turn D hD) fun H' hp => pvC_end (by rw [t.length]; exact Nat.le_refl _) hp
      · refine ⟨a, rfl, .inr ⟨⟨va, by rw [← hK]; exact hL w1 H1 (fun _ z => z) (fun _ _ _ h => h)⟩, fun D hD => ?_⟩⟩
        exact lc_tup (xs := va) (PvC pu c W σ w1 H1 D Q (turnC td vs mt me σd) xs) (pvC_start S1.wok S1.h hD p1) (fun i H' _ ⟨w', hd', acc, va', G, m', _⟩ => by rw [← hK]; exact hL w' H' m'.ext.1.z (frozen_kept S1.wok m'.ext.1)) (turn D hD) fun H' hp => pvC_end (by rw [t.length]; exact Nat.le_refl _) hp
    · rw [if_neg hz] at p1; exact p1.elim
/-- over a range -/
theorem comp_rng {lo : Int} {n : Nat} {h1 : HS} (hgs : TgS c g td) (hgw : TgW g vs) (S1 : Sta c w1 Fs σd h1 σ H1) (p1 : EPo pu .E c W σ w1 H1 Q (compE (turnC td vs mt me σd) (rangeU lo n) h1)) (D : Addr) (hD : H1 D = none) :
    ∃ W' : Nat → Nat → Hp → Prop, (∃ m, W' 0 m (upd H1 D (.lst []))) ∧ ∀ i m H, W' i m H →
      ((Itr lo n).stop i H ∧ Q (.ref D) H) ∨ ((Itr lo n).go i H ∧ ∃ Nx : Hp → Prop, (∀ H', Nx H' → ∃ m', m' < m ∧ W' (i + 1) m' H') ∧ ∀ x H', (Itr lo n).yld i H x H' → g x (wipe σ vs) H' fun σ2 H2 => wipe σ2 vs = wipe σ vs ∧ tB2 pu c W0 mt σ2 H2 fun b H3 =>
        if b = true then tV pu .E c W0 me σ2 H3 fun y H4 => ∃ acc, H4 D = some (.lst acc) ∧ acc.length < sizeLine ∧ Nx (upd H4 D (.lst (acc ++ [y]))) else Nx H3) := by
  unfold compE at p1
  by_cases hz : (rangeU lo n).length ≤ sizeLine
  · rw [if_pos hz] at p1
    exact lc_range (Qd := fun H => Q (.ref D) H) (PvC pu c W σ w1 H1 D Q (turnC td vs mt me σd) (rangeU lo n)) (pvC_start S1.wok S1.h hD p1)
      (fun i H' hi hp => pvC_turn (u := .d (.int (lo + (i : Int)))) hgs hgw S1 hD hz (by rw [rangeU_len]; exact hi) (range_drop lo n i hi) (fun _ _ _ _ _ => ⟨rfl, rfl⟩) hp) fun H' hp => pvC_end (by rw [rangeU_len]; exact Nat.le_refl _) hp
  · rw [if_neg hz] at p1; exact p1.elim
variable {elt tg iter a b : Expr} {ifs : List Expr} {scope : Scope} {own : List (Str × Nat)} {pos p1 p2 : Pos} {mi ma mb : ME}
abbrev Blk (X : Cx) (scope : Scope) (P : Cx → Prop) : Prop := ∀ (s : Shared) (H : Hp) (C : Addr) (cl : List (Str × Addr)) (fp : List Addr), P (X.blk s H scope (compEnvC scope cl C X.env) fp)
theorem e_comp (hK : c.K = X.K) (hc : X.calm = true) (hN : X.N.Nodup) (hi : PE X iter (tV pu .E c W mi)) (ok : BlkOk X.N X.env.scope scope own) (hgs : TgS c g td) (hgw : TgW g (own.map (·.2)))
    (hg : Blk X scope fun Y => PG Y tg g) (ht : Blk X scope fun Y => PTs Y ifs (tB2 pu c W0 mt)) (he : Blk X scope fun Y => PE Y elt (tV pu .E c W0 me)) (hs : ∀ x, foldedSetIterable iter X.env x = pure x := by intro _; rfl) :
    PE X (.ListComp elt [⟨tg, iter, ifs, 0⟩] scope pos) (tV pu .E c W (mComp mi td (own.map (·.2)) mt me)) :=
  PE.imp (pe_lc hc hN (pi_seq hi) ok hg ht he hs) fun σ H Q h => comp_seq hK hgs hgw h
theorem s_setComp {i : Nat} {y : Str} {py : Pos} {spos : Pos} (hK : c.K = X.K) (hc : X.calm = true) (hN : X.N.Nodup) (hy : X.N[i]? = some y) (hyl : X.env.scope.names.lookup y = some .local) (hsw : swapsWith (.ListComp elt [⟨tg, iter, ifs, 0⟩] scope pos) (some (.Name y py)) spos.line X.env = pure true)
    (hi : PE X iter (tV pu .E c W mi)) (ok : BlkOk X.N X.env.scope scope own) (hgs : TgS c g td) (hgw : TgW g (own.map (·.2)))
    (hg : Blk X scope fun Y => PG Y tg g) (ht : Blk X scope fun Y => PTs Y ifs (tB2 pu c W0 mt)) (he : Blk X scope fun Y => PE Y elt (tV pu .E c W0 me)) (hs : ∀ x, foldedSetIterable iter X.env x = pure x := by intro _; rfl) :
    PS X (.Assign [.Name y py] (.ListComp elt [⟨tg, iter, ifs, 0⟩] scope pos) spos) (tS c W (sSet i (mComp mi td (own.map (·.2)) mt me))) :=
  PS.imp (ps_setLc hc hN hy hyl hsw (pi_seq hi) ok hg ht he hs) fun D σ H ⟨w, Fs, σd, hd, S, p⟩ => by
    have := stepE (pu := pu) S p fun u h1 w1 H1 x Fx S1 ok pp ru p1 => SPo.store S1 ok ru p1
    exact comp_seq hK hgs hgw this
theorem e_compR2 (hc : X.calm = true) (hN : X.N.Nodup) (hgl : Gl X "range") (hm : X.mg "range" = none) (ha : PE X a (tV pu .C c W ma)) (hb : PE X b (tV pu .C c W mb)) (ok : BlkOk X.N X.env.scope scope own) (hgs : TgS c g td) (hgw : TgW g (own.map (·.2)))
    (hg : Blk X scope fun Y => PG Y tg g) (ht : Blk X scope fun Y => PTs Y ifs (tB2 pu c W0 mt)) (he : Blk X scope fun Y => PE Y elt (tV pu .E c W0 me)) (hs : starEach [a, b] X.env = [(false, eval a X.env), (false, eval b X.env)] := by rfl) (hs2 : starEach [b] X.env = [(false, eval b X.env)] := by rfl) :
    PE X (.ListComp elt [⟨tg, .Call (.Name "range" p1) [a, b] [] p2, ifs, 0⟩] scope pos) (tV pu .E c W (mCompR ma mb td (own.map (·.2)) mt me)) :=
  PE.imp (pe_lc hc hN (pi_range2 hgl hm (pa_cons ha (pa_cons hb pa_nil (by rw [hs2]; rfl)) (by rw [hs, hs2])) hs hs2) ok hg ht he) fun σ H Q ⟨w, Fs, σd, hd, S, p⟩ => step1 (md := .C) S p fun u h1 w1 H1 x Fx S1 mo ru p1 => step1 (md := .C) S1 p1 fun v h2 w2 H2 y Fy S2 mo2 rv p2 => by
    cases q1 : uInt u with
    | none => simp only [q1] at p2; exact p2.elim
    | some i =>
      cases q2 : uInt v with
      | none => simp only [q1, q2] at p2; exact p2.elim
      | some j =>
        simp only [q1, q2] at p2
        by_cases hb : -(2 ^ 62) ≤ i ∧ i < 2 ^ 62 ∧ -(2 ^ 62) ≤ j ∧ j < 2 ^ 62
        · rw [if_pos hb] at p2
          exact ⟨i, j, by rw [uInt_ok q1 ru, uInt_ok q2 rv], hb, fun D hD => comp_rng hgs hgw S2 p2 D hD⟩
        · rw [if_neg hb] at p2; exact p2.elim
theorem compR1 {H : Hp} (hgs : TgS c g td) (hgw : TgW g vs) (h : tV pu .E c W (mCompR (mK (.int 0)) mb td vs mt me) σ H Q) : tLc (iRng1 (tCons (tV pu .C c W mb) tNil)) g (tB2 pu c W0 mt) (tV pu .E c W0 me) vs σ H Q := by
  obtain ⟨w, Fs, σd, hd, S, p⟩ := h
  unfold mCompR mK at p
  simp only [bindM_ok] at p
  refine step1 (md := .C) S p fun v h2 w2 H2 y Fy S2 mo2 rv p2 => ?_
  cases q2 : uInt v with
  | none => simp only [uInt0, q2] at p2; exact p2.elim
  | some j =>
    simp only [uInt0, q2] at p2
    by_cases hb : -(2 ^ 62) ≤ (0 : Int) ∧ (0 : Int) < 2 ^ 62 ∧ -(2 ^ 62) ≤ j ∧ j < 2 ^ 62
    · rw [if_pos hb] at p2
      rw [Int.sub_zero] at p2
      exact ⟨j, by rw [uInt_ok q2 rv], hb.2.2.1, hb.2.2.2, fun D hD => comp_rng hgs hgw S2 p2 D hD⟩
    · rw [if_neg hb] at p2; exact p2.elim
theorem e_compR1 (hc : X.calm = true) (hN : X.N.Nodup) (hgl : Gl X "range") (hm : X.mg "range" = none) (hb : PE X b (tV pu .C c W mb)) (ok : BlkOk X.N X.env.scope scope own) (hgs : TgS c g td) (hgw : TgW g (own.map (·.2)))
    (hg : Blk X scope fun Y => PG Y tg g) (ht : Blk X scope fun Y => PTs Y ifs (tB2 pu c W0 mt)) (he : Blk X scope fun Y => PE Y elt (tV pu .E c W0 me)) (hs2 : starEach [b] X.env = [(false, eval b X.env)] := by rfl) :
    PE X (.ListComp elt [⟨tg, .Call (.Name "range" p1) [b] [] p2, ifs, 0⟩] scope pos) (tV pu .E c W (mCompR (mK (.int 0)) mb td (own.map (·.2)) mt me)) :=
  PE.imp (pe_lc hc hN (pi_range1 hgl hm (pa_cons hb pa_nil (by rw [hs2]; rfl)) hs2) ok hg ht he) fun σ H Q h => compR1 hgs hgw h
theorem s_setCompR1 {i : Nat} {y : Str} {py : Pos} {spos : Pos} (hc : X.calm = true) (hN : X.N.Nodup) (hy : X.N[i]? = some y) (hyl : X.env.scope.names.lookup y = some .local) (hsw : swapsWith (.ListComp elt [⟨tg, .Call (.Name "range" p1) [b] [] p2, ifs, 0⟩] scope pos) (some (.Name y py)) spos.line X.env = pure true)
    (hgl : Gl X "range") (hm : X.mg "range" = none) (hb : PE X b (tV pu .C c W mb)) (ok : BlkOk X.N X.env.scope scope own) (hgs : TgS c g td) (hgw : TgW g (own.map (·.2)))
    (hg : Blk X scope fun Y => PG Y tg g) (ht : Blk X scope fun Y => PTs Y ifs (tB2 pu c W0 mt)) (he : Blk X scope fun Y => PE Y elt (tV pu .E c W0 me)) (hs2 : starEach [b] X.env = [(false, eval b X.env)] := by rfl) :
    PS X (.Assign [.Name y py] (.ListComp elt [⟨tg, .Call (.Name "range" p1) [b] [] p2, ifs, 0⟩] scope pos) spos) (tS c W (sSet i (mCompR (mK (.int 0)) mb td (own.map (·.2)) mt me))) :=
  PS.imp (ps_setLc hc hN hy hyl hsw (pi_range1 hgl hm (pa_cons hb pa_nil (by rw [hs2]; rfl)) hs2) ok hg ht he) fun D σ H ⟨w, Fs, σd, hd, S, p⟩ => by
    have := stepE (pu := pu) S p fun u h1 w1 H1 x Fx S1 ok pp ru p1 => SPo.store S1 ok ru p1
    exact compR1 hgs hgw this
end
end MM

/-! MM12: places: what may be changed where it stands. -/
namespace MM
open PySem PySem.Spec PyProof.Rows L2

inductive Plc where
  | slot (i : Nat) | cell (k : Nat) | item (p : Plc) (j : Nat) | fld (k : Nat) (f : Str)
def celU : Cel → Option UV
  | .lst xs => some (.own xs)
  | .dK kvs => some (.odK kvs)
  | .dT kvs => some (.odT kvs)
  | .obj _ _ => none
  | .tab _ _ => none
def uCel : UV → Cel → Cel
  | .own xs, _ => .lst xs
  | .odK kvs, _ => .dK kvs
  | .odT kvs, _ => .dT kvs
  | _, x => x
def setF (f : Str) (u : UV) : List (Str × UV) → List (Str × UV)
  | [] => []
  | (g, x) :: r => if f = g then (g, u) :: r else (g, x) :: setF f u r
def getF (f : Str) : List (Str × UV) → Option UV
  | [] => none
  | (g, x) :: r => if f = g then some x else getF f r
def getFV (f : Str) : List (Str × V) → Option V
  | [] => none
  | (g, x) :: r => if f = g then some x else getFV f r
theorem getFV_lookup (f : Str) : ∀ l : List (Str × V), getFV f l = l.lookup f
  | [] => rfl
  | (g, x) :: r => by
    by_cases e : f = g
    · have hb : (f == g) = true := beq_iff_eq.mpr e
      simp only [getFV, List.lookup, hb, if_pos e]
    · have hb : (f == g) = false := beq_eq_false_iff_ne.mpr e
      simp only [getFV, List.lookup, hb, if_neg e, getFV_lookup f r]
def getP : Plc → SL → HS → Option UV
  | .slot i, σ, _ => match σ[i]? with
    | some (some u) => some u
    | _ => none
  | .cell k, _, h => match h[k]? with
    | some x => celU x
    | none => none
  | .item p j, σ, h => match getP p σ h with
    | some (.own xs) => xs[j]?
    | _ => none
  | .fld k f, _, h => match h[k]? with
    | some (.obj _ fs) => getF f fs
    | _ => none
def setP : Plc → UV → SL → HS → SL × HS
  | .slot i, u, σ, h => (σ.set i (some u), h)
  | .cell k, u, σ, h => match h[k]? with
    | some x => (σ, h.set k (uCel u x))
    | none => (σ, h)
  | .item p j, u, σ, h => match getP p σ h with
    | some (.own xs) => setP p (.own (xs.set j u)) σ h
    | _ => (σ, h)
  | .fld k f, u, σ, h => match h[k]? with
    | some (.obj C fs) => (σ, h.set k (.obj C (setF f u fs)))
    | _ => (σ, h)
/-- the value that stands at a place -/
def At (ρ : List Addr) (H : Hp) (σd : SL) (hd : HS) (σ : L2.St) : Plc → UV → V → Prop
  | .slot i, u, v => σd[i]? = some (some u) ∧ σ[i]? = some (some v)
  | .cell k, u, v => ∃ x a, hd[k]? = some x ∧ celU x = some u ∧ ρ[k]? = some a ∧ v = .ref a
  | .item p j, u, v => ∃ xs vs a, At ρ H σd hd σ p (.own xs) (.ref a) ∧ H a = some (.lst vs) ∧ xs[j]? = some u ∧ vs[j]? = some v
  | .fld k f, u, v => ∃ C fs a Ca dx gs, hd[k]? = some (.obj C fs) ∧ getF f fs = some u ∧ ρ[k]? = some a ∧ H a = some (.ins Ca dx gs) ∧ getFV f gs = some v
theorem At.get {H : Hp} {σd : SL} {hd : HS} {σ : L2.St} {ρ : List Addr} : ∀ (p : Plc) {u : UV} {v : V}, At ρ H σd hd σ p u v → getP p σd hd = some u
  | .slot i, u, v, h => by simp only [getP, h.1]
  | .cell k, u, v, h => by obtain ⟨x, a', q1, q2, _⟩ := h; simp only [getP, q1, q2]
  | .item p j, u, v, h => by
    obtain ⟨xs, vs, a, q1, q2, q3, q4⟩ := h
    simp only [getP, At.get p q1, q3]
  | .fld k f, u, v, h => by obtain ⟨C, fs, a', Ca, dx, gs, q1, q2, _⟩ := h; simp only [getP, q1, q2]
section
variable {c : Cg} {Z : Addr → Prop} {H : Hp} {ρ : List Addr}
/-- what holds of a part, and how it is exchanged -/
def Foc (c : Cg) (Z : Addr → Prop) (H : Hp) (ρ : List Addr) (u : UV) (v : V) (F : List Addr) (R : Hp → UV → List Addr → Prop) : Prop :=
  ∃ Fu G, F.Perm (Fu ++ G) ∧ RU c Z H ρ u v Fu ∧ ∀ H' u' Fu', (∀ a o, (Z a ∨ a ∈ G) → H a = some o → H' a = some o) → RU c Z H' ρ u' v Fu' → ∃ F', F'.Perm (Fu' ++ G) ∧ R H' u' F'
theorem Foc.left {u : UV} {v : V} {F F2 : List Addr} {R R' : Hp → UV → List Addr → Prop} (h : Foc c Z H ρ u v F R) (k : ∀ H' u' F', (∀ a o, (Z a ∨ a ∈ F2) → H a = some o → H' a = some o) → R H' u' F' → R' H' u' (F' ++ F2)) : Foc c Z H ρ u v (F ++ F2) R' := by
  obtain ⟨Fu, G, p, r, q⟩ := h
  refine ⟨Fu, G ++ F2, ?_, r, fun H' u' Fu' hk hr => ?_⟩
  · have := List.Perm.append_right F2 p
    rwa [List.append_assoc] at this
  · obtain ⟨F', p', r'⟩ := q H' u' Fu' (fun a o z => hk a o (z.elim .inl fun z => .inr (List.mem_append_left _ z))) hr
    refine ⟨F' ++ F2, ?_, k H' u' F' (fun a o z => hk a o (z.elim .inl fun z => .inr (List.mem_append_right _ z))) r'⟩
    have := List.Perm.append_right F2 p'
    rwa [List.append_assoc] at this
theorem Foc.right {u : UV} {v : V} {F F1 : List Addr} {R R' : Hp → UV → List Addr → Prop} (h : Foc c Z H ρ u v F R) (k : ∀ H' u' F', (∀ a o, (Z a ∨ a ∈ F1) → H a = some o → H' a = some o) → R H' u' F' → R' H' u' (F1 ++ F')) : Foc c Z H ρ u v (F1 ++ F) R' := by
  obtain ⟨Fu, G, p, r, q⟩ := h
  have key : ∀ {A B : List Addr}, A.Perm (B ++ G) → (F1 ++ A).Perm (B ++ (F1 ++ G)) := fun {A B} z => by
    have z1 := List.Perm.append_left F1 z
    refine z1.trans ?_
    rw [← List.append_assoc, ← List.append_assoc]
    exact List.Perm.append_right G List.perm_append_comm
  refine ⟨Fu, F1 ++ G, key p, r, fun H' u' Fu' hk hr => ?_⟩
  obtain ⟨F', p', r'⟩ := q H' u' Fu' (fun a o z => hk a o (z.elim .inl fun z => .inr (List.mem_append_right _ z))) hr
  exact ⟨F1 ++ F', key p', k H' u' F' (fun a o z => hk a o (z.elim .inl fun z => .inr (List.mem_append_left _ z))) r'⟩
theorem Foc.self {u : UV} {v : V} {F : List Addr} {R : Hp → UV → List Addr → Prop} (h : RU c Z H ρ u v F) (k : ∀ H' u' F', RU c Z H' ρ u' v F' → R H' u' F') : Foc c Z H ρ u v F R :=
  ⟨F, [], by rw [List.append_nil], h, fun H' u' Fu' _ hr => ⟨Fu', by rw [List.append_nil], k H' u' Fu' hr⟩⟩
theorem Foc.weak {u : UV} {v : V} {F : List Addr} {R R' : Hp → UV → List Addr → Prop} (h : Foc c Z H ρ u v F R) (k : ∀ H' u' F', R H' u' F' → R' H' u' F') : Foc c Z H ρ u v F R' := by
  obtain ⟨Fu, G, p, r, q⟩ := h
  exact ⟨Fu, G, p, r, fun H' u' Fu' hk hr => let ⟨F', p', r'⟩ := q H' u' Fu' hk hr; ⟨F', p', k _ _ _ r'⟩⟩
theorem RS.focus : ∀ {s : SL} {l : L2.St} {F : List Addr} {i : Nat} {u : UV} {v : V}, RS c Z H ρ s l F → s[i]? = some (some u) → l[i]? = some (some v) → Foc c Z H ρ u v F fun H' u' F' => RS c Z H' ρ (s.set i (some u')) l F'
  | [], _, _, _, _, _, _, h, _ => by simp at h
  | none :: s, _, _, 0, _, _, _, q, _ => by simp at q
  | none :: s, _, F, i + 1, u, v, ⟨o, r, e, t⟩, q, q2 => by
    subst e
    exact Foc.weak (RS.focus (i := i) t (by simpa using q) (by simpa using q2)) fun H' u' F' h => ⟨o, r, rfl, h⟩
  | some x :: s, _, _, 0, u, v, ⟨v', r, F1, F2, e, eF, h, t⟩, q, q2 => by
    have q' : x = u := by simpa using q
    subst q' e eF
    have q3 : v' = v := by simpa using q2
    subst q3
    exact Foc.left (Foc.self (R := fun H' u' F' => RU c Z H' ρ u' v' F') h fun _ _ _ z => z) fun H' u' F' hk z => ⟨v', r, F', F2, rfl, rfl, z, RS.mono (fun _ _ e => e) (fun _ z => z) (fun a o z => hk a o (.inl z)) (fun a ha o => hk a o (.inr ha)) t⟩
  | some x :: s, _, _, i + 1, u, v, ⟨v', r, F1, F2, e, eF, h, t⟩, q, q2 => by
    subst e eF
    exact Foc.right (RS.focus (i := i) t (by simpa using q) (by simpa using q2)) fun H' u' F' hk z => ⟨v', r, F1, F', rfl, rfl, RU.mono (fun _ _ e => e) (fun _ z => z) (fun a o z => hk a o (.inl z)) (fun a ha o => hk a o (.inr ha)) h, z⟩
theorem RUl.focus : ∀ {s : List UV} {l : List V} {F : List Addr} {i : Nat} {u : UV} {v : V}, RUl c Z H ρ s l F → s[i]? = some u → l[i]? = some v → Foc c Z H ρ u v F fun H' u' F' => RUl c Z H' ρ (s.set i u') l F'
  | [], _, _, _, _, _, _, h, _ => by simp at h
  | x :: s, _, _, 0, u, v, ⟨v', r, F1, F2, e, eF, h, t⟩, q, q2 => by
    have q' : x = u := by simpa using q
    subst q' e eF
    have q3 : v' = v := by simpa using q2
    subst q3
    exact Foc.left (Foc.self (R := fun H' u' F' => RU c Z H' ρ u' v' F') h fun _ _ _ z => z) fun H' u' F' hk z => ⟨v', r, F', F2, rfl, rfl, z, RUl.mono (fun _ _ e => e) (fun _ z => z) (fun a o z => hk a o (.inl z)) (fun a ha o => hk a o (.inr ha)) t⟩
  | x :: s, _, _, i + 1, u, v, ⟨v', r, F1, F2, e, eF, h, t⟩, q, q2 => by
    subst e eF
    exact Foc.right (RUl.focus (i := i) t (by simpa using q) (by simpa using q2)) fun H' u' F' hk z => ⟨v', r, F1, F', rfl, rfl, RU.mono (fun _ _ e => e) (fun _ z => z) (fun a o z => hk a o (.inl z)) (fun a ha o => hk a o (.inr ha)) h, z⟩
theorem RUf.focus : ∀ {s : List (Str × UV)} {l : List (Str × V)} {F : List Addr} {f : Str} {u : UV} {v : V}, RUf c Z H ρ s l F → getF f s = some u → getFV f l = some v → Foc c Z H ρ u v F fun H' u' F' => RUf c Z H' ρ (setF f u' s) l F'
  | [], _, _, _, _, _, _, h, _ => by simp [getF] at h
  | (g, x) :: s, _, _, f, u, v, ⟨v', r, F1, F2, e, eF, h, t⟩, q, q2 => by
    subst e eF
    by_cases hg : f = g
    · simp only [getF, getFV, if_pos hg, Option.some.injEq] at q q2
      subst q q2
      exact Foc.left (Foc.self (R := fun H' u' F' => RU c Z H' ρ u' v' F') h fun _ _ _ z => z) fun H' u' F' hk z => by
        simp only [setF, if_pos hg]
        exact ⟨v', r, F', F2, rfl, rfl, z, RUf.mono (fun _ _ e => e) (fun _ z => z) (fun a o z => hk a o (.inl z)) (fun a ha o => hk a o (.inr ha)) t⟩
    · simp only [getF, getFV, if_neg hg] at q q2
      exact Foc.right (RUf.focus t q q2) fun H' u' F' hk z => by
        simp only [setF, if_neg hg]
        exact ⟨v', r, F1, F', rfl, rfl, RU.mono (fun _ _ e => e) (fun _ z => z) (fun a o z => hk a o (.inl z)) (fun a ha o => hk a o (.inr ha)) h, z⟩
theorem celU_RC {x : Cel} {a : Addr} {u : UV} {F : List Addr} (e : celU x = some u) (r : RC c Z H ρ x a F) : RU c Z H ρ u (.ref a) F := by
  cases x with
  | lst xs =>
    cases e
    obtain ⟨vs, G, h1, h2, h3⟩ := r
    exact ⟨a, vs, G, rfl, h1, h2, h3⟩
  | dK xs =>
    cases e
    obtain ⟨vs, G, h1, h2, h3⟩ := r
    exact ⟨a, vs, G, rfl, h1, h2, h3⟩
  | dT xs =>
    cases e
    obtain ⟨vs, G, h1, h2, h3⟩ := r
    exact ⟨a, vs, G, rfl, h1, h2, h3⟩
  | obj C fs => cases e
  | tab P q => cases e
/-- of one kind: a list, a dict -/
def kin : UV → Bool
  | .own _ => true
  | .odK _ => true
  | .odT _ => true
  | _ => false
theorem uCel_RC {x : Cel} {a : Addr} {u : UV} {F : List Addr} (k : kin u = true) (r : RU c Z H ρ u (.ref a) F) : RC c Z H ρ (uCel u x) a F := by
  cases u with
  | own xs =>
    obtain ⟨b, vs, G, h0, h1, h2, h3⟩ := r
    cases h0
    exact ⟨vs, G, h1, h2, h3⟩
  | odK xs =>
    obtain ⟨b, vs, G, h0, h1, h2, h3⟩ := r
    cases h0
    exact ⟨vs, G, h1, h2, h3⟩
  | odT xs =>
    obtain ⟨b, vs, G, h0, h1, h2, h3⟩ := r
    cases h0
    exact ⟨vs, G, h1, h2, h3⟩
  | _ => cases k
theorem RHl.focus : ∀ {s : HS} {l : List Addr} {F : List Addr} {k : Nat} {x : Cel} {a : Addr}, RHl c Z H ρ s l F → s[k]? = some x → l[k]? = some a → ∃ Fx F1 F2, F = F1 ++ Fx ++ F2 ∧ RC c Z H ρ x a Fx ∧
    ∀ H' x' Fx', (∀ a o, (Z a ∨ a ∈ F1 ++ F2) → H a = some o → H' a = some o) → RC c Z H' ρ x' a Fx' → RHl c Z H' ρ (s.set k x') l (F1 ++ Fx' ++ F2)
  | [], _, _, _, _, _, _, h, _ => by simp at h
  | y :: s, _, _, 0, x, a, ⟨v', r, F1, F2, e, eF, h, t⟩, q, q2 => by
    have q' : y = x := by simpa using q
    subst q' e eF
    have q3 : v' = a := by simpa using q2
    subst q3
    exact ⟨F1, [], F2, rfl, h, fun H' x' Fx' hk z => ⟨v', r, Fx', F2, rfl, rfl, z, RHl.mono (fun _ _ e => e) (fun _ z => z) (fun a o z => hk a o (.inl z)) (fun a ha o => hk a o (.inr (by simpa using ha))) t⟩⟩
  | y :: s, _, _, k + 1, x, a, ⟨v', r, F1, F2, e, eF, h, t⟩, q, q2 => by
    subst e eF
    obtain ⟨Fx, G1, G2, e1, rc, kk⟩ := RHl.focus (k := k) t (by simpa using q) (by simpa using q2)
    subst e1
    refine ⟨Fx, F1 ++ G1, G2, by simp [List.append_assoc], rc, fun H' x' Fx' hk z => ⟨v', r, F1, G1 ++ Fx' ++ G2, rfl, by simp [List.append_assoc], ?_, ?_⟩⟩
    · exact RC.mono (fun _ _ e => e) (fun _ z => z) (fun a o z => hk a o (.inl z)) (fun a ha o => hk a o (.inr (by simp [ha]))) h
    · exact kk H' x' Fx' (fun a o z => hk a o (z.elim .inl fun z => .inr (by
        rcases List.mem_append.mp z with z | z
        · simp [z]
        · simp [z]))) z
theorem perm3 {F1 Fx F2 G : List Addr} {A : List Addr} : ∀ {B : List Addr}, (A ++ (F1 ++ B ++ F2)).Perm (B ++ (A ++ F1 ++ F2)) := fun {B} => by
  have h1 : (A ++ (F1 ++ B ++ F2)) = (A ++ F1) ++ (B ++ F2) := by simp [List.append_assoc]
  have h2 : (B ++ (A ++ F1 ++ F2)) = (B ++ (A ++ F1)) ++ F2 := by simp [List.append_assoc]
  rw [h1, h2, ← List.append_assoc]
  exact List.Perm.append_right F2 List.perm_append_comm
/-- THE LENS: at a place the thing may be exchanged -/
theorem lens {σd : SL} {hd : HS} {σ : L2.St} {Fs F : List Addr} (rs : RS c Z H ρ σd σ Fs) (rh : RHl c Z H ρ hd ρ F) : ∀ (p : Plc) (u : UV) (v : V), At ρ H σd hd σ p u v →
    ∃ Fu G, (Fs ++ F).Perm (Fu ++ G) ∧ RU c Z H ρ u v Fu ∧ ∀ H' u' Fu', (kin u = true → kin u' = true) → (∀ a o, (Z a ∨ a ∈ G) → H a = some o → H' a = some o) → RU c Z H' ρ u' v Fu' →
      ∃ Fs' F', (Fs' ++ F').Perm (Fu' ++ G) ∧ RS c Z H' ρ (setP p u' σd hd).1 σ Fs' ∧ RHl c Z H' ρ (setP p u' σd hd).2 ρ F'
  | .slot i, u, v, ⟨h1, h2⟩ => by
    obtain ⟨Fu, G, p, r, q⟩ := RS.focus rs h1 h2
    refine ⟨Fu, G ++ F, ?_, r, fun H' u' Fu' _ hk hr => ?_⟩
    · have := List.Perm.append_right F p
      rwa [List.append_assoc] at this
    · obtain ⟨F', p', r'⟩ := q H' u' Fu' (fun a o z => hk a o (z.elim .inl fun z => .inr (List.mem_append_left _ z))) hr
      refine ⟨F', F, ?_, r', RHl.mono (fun _ _ e => e) (fun _ z => z) (fun a o z => hk a o (.inl z)) (fun a ha o => hk a o (.inr (List.mem_append_right _ ha))) rh⟩
      have := List.Perm.append_right F p'
      rwa [List.append_assoc] at this
  | .cell k, u, v, ⟨x, a, h1, h2, h3, h4⟩ => by
    obtain ⟨Fx, F1, F2, e1, rc, kk⟩ := RHl.focus rh h1 h3
    subst e1 h4
    refine ⟨Fx, Fs ++ F1 ++ F2, perm3 (Fx := []) (G := []), celU_RC h2 rc, fun H' u' Fu' hkin hk hr => ?_⟩
    refine ⟨Fs, F1 ++ Fu' ++ F2, perm3 (Fx := []) (G := []), ?_, ?_⟩
    · simp only [setP, h1]
      exact RS.mono (fun _ _ e => e) (fun _ z => z) (fun a o z => hk a o (.inl z)) (fun a ha o => hk a o (.inr (by simp [ha]))) rs
    · simp only [setP, h1]
      have ku : kin u = true := by
        cases x <;> simp only [celU, Option.some.injEq] at h2
        · rw [← h2]; rfl
        · cases h2
        · rw [← h2]; rfl
        · rw [← h2]; rfl
        · cases h2
      exact kk H' _ Fu' (fun a o z => hk a o (z.elim .inl fun z => .inr (by
        rcases List.mem_append.mp z with z | z
        · simp [z]
        · simp [z]))) (uCel_RC (hkin ku) hr)
  | .item p j, u, v, ⟨xs, vs, a, h1, h2, h3, h4⟩ => by
    obtain ⟨Fp, Gp, pp, rp, kp⟩ := lens rs rh p (.own xs) (.ref a) h1
    obtain ⟨b, ws, Gx, e0, e1, e2, t⟩ := rp
    cases e0
    rw [h2] at e1
    cases e1
    subst e2
    obtain ⟨Fu, G', p', r', k'⟩ := RUl.focus t h3 h4
    have perm1 : ∀ {A B : List Addr}, A.Perm (B ++ G') → ((a :: A) ++ Gp).Perm (B ++ (a :: (G' ++ Gp))) := fun {A B} z => by
      have z1 : ((a :: A) ++ Gp).Perm ((a :: (B ++ G')) ++ Gp) := List.Perm.append_right Gp (List.Perm.cons a z)
      refine z1.trans ?_
      have z2 : (a :: (B ++ G')) ++ Gp = a :: (B ++ (G' ++ Gp)) := by simp [List.append_assoc]
      rw [z2]
      exact List.perm_middle.symm
    refine ⟨Fu, a :: (G' ++ Gp), pp.trans (perm1 p'), r', fun H' u' Fu' _ hk hr => ?_⟩
    obtain ⟨Gx', p2, r2⟩ := k' H' u' Fu' (fun b o z => hk b o (z.elim .inl fun z => .inr (List.mem_cons_of_mem _ (List.mem_append_left _ z)))) hr
    obtain ⟨Fs', F', p3, r3, r4⟩ := kp H' (.own (xs.set j u')) (a :: Gx') (fun _ => rfl) (fun b o z => hk b o (z.elim .inl fun z => .inr (List.mem_cons_of_mem _ (List.mem_append_right _ z)))) ⟨a, vs, Gx', rfl, hk a _ (.inr List.mem_cons_self) h2, rfl, r2⟩
    have gp : getP p σd hd = some (.own xs) := At.get p h1
    refine ⟨Fs', F', p3.trans (perm1 p2), ?_, ?_⟩
    · simp only [setP, gp]; exact r3
    · simp only [setP, gp]; exact r4
  | .fld k f, u, v, ⟨C, fs, a, Ca, dx, gs, h1, h2, h3, h4, h5⟩ => by
    obtain ⟨Fx, F1, F2, e1, rc, kk⟩ := RHl.focus rh h1 h3
    subst e1
    obtain ⟨Ca', dx', gs', Gf, m, q1, q2, t⟩ := rc
    rw [h4] at q1
    cases q1
    subst q2
    obtain ⟨Fu, G', p', r', k'⟩ := RUf.focus t h2 h5
    have perm2 : ∀ {A B : List Addr}, A.Perm (B ++ G') → (Fs ++ (F1 ++ (a :: A) ++ F2)).Perm (B ++ (a :: (G' ++ (Fs ++ F1 ++ F2)))) := fun {A B} z => by
      refine (perm3 (Fx := []) (G := [])).trans ?_
      have z1 : ((a :: A) ++ (Fs ++ F1 ++ F2)).Perm ((a :: (B ++ G')) ++ (Fs ++ F1 ++ F2)) := List.Perm.append_right _ (List.Perm.cons a z)
      refine z1.trans ?_
      have z2 : (a :: (B ++ G')) ++ (Fs ++ F1 ++ F2) = a :: (B ++ (G' ++ (Fs ++ F1 ++ F2))) := by simp [List.append_assoc]
      rw [z2]
      exact List.perm_middle.symm
    refine ⟨Fu, a :: (G' ++ (Fs ++ F1 ++ F2)), perm2 p', r', fun H' u' Fu' _ hk hr => ?_⟩
    have inG : ∀ {b : Addr}, b ∈ Fs ++ F1 ++ F2 → b ∈ a :: (G' ++ (Fs ++ F1 ++ F2)) := fun z => List.mem_cons_of_mem _ (List.mem_append_right _ z)
    obtain ⟨Gf', p2, r2⟩ := k' H' u' Fu' (fun b o z => hk b o (z.elim .inl fun z => .inr (List.mem_cons_of_mem _ (List.mem_append_left _ z)))) hr
    refine ⟨Fs, F1 ++ (a :: Gf') ++ F2, perm2 p2, ?_, ?_⟩
    · simp only [setP, h1]
      exact RS.mono (fun _ _ e => e) (fun _ z => z) (fun a o z => hk a o (.inl z)) (fun b hb o => hk b o (.inr (inG (by simp [hb])))) rs
    · simp only [setP, h1]
      exact kk H' (.obj C (setF f u' fs)) (a :: Gf') (fun b o z => hk b o (z.elim .inl fun z => .inr (inG (by
        rcases List.mem_append.mp z with z | z
        · simp [z]
        · simp [z])))) ⟨Ca, dx, gs, Gf', m, hk a _ (.inr List.mem_cons_self) h4, rfl, r2⟩
end
end MM

/-! MM13: what is changed where it stands. -/
namespace MM
open PySem PySem.Spec PyProof.Rows L2

/-! ### the core: the thing at a place is exchanged, its heap cell rewritten -/
section
variable {c : Cg} {w : Wd} {H : Hp} {Fs : List Addr} {σd : SL} {hd : HS} {σ : L2.St}
theorem put_at (S : Sta c w Fs σd hd σ H) {Fx : List Addr} (ok : WOk (fullv w Fs Fx) H) {p : Plc} {u u' : UV} {a : Addr} {o' : HO} (hA : At w.ρ H σd hd σ p u (.ref a)) (hkin : kin u = true → kin u' = true)
    (dec : ∀ Fu, RU c w.Z H w.ρ u (.ref a) Fu → ∃ Gx G' G0, Fu = a :: Gx ∧ (G' ++ G0).Perm (Gx ++ Fx) ∧ ((∀ b ∈ G', b ≠ a) → (∀ b, w.Z b → b ≠ a) → RU c w.Z (upd H a o') w.ρ u' (.ref a) (a :: G') ∧ ((∀ b ∈ G0, b ≠ a) → True))) :
    ∃ Fs' F' G0 Gx, RU c w.Z H w.ρ u (.ref a) (a :: Gx) ∧ Ext (fullv w Fs Fx) H (fullv ⟨w.ρ, w.Z, F'⟩ Fs' G0) (upd H a o') ∧ WOk (fullv ⟨w.ρ, w.Z, F'⟩ Fs' G0) (upd H a o') ∧ Sta c ⟨w.ρ, w.Z, F'⟩ Fs' (setP p u' σd hd).1 (setP p u' σd hd).2 σ (upd H a o') ∧
      ∃ G', (G' ++ G0).Perm (Gx ++ Fx) ∧ (a :: (Gx ++ Fx)).Nodup := by
  obtain ⟨Fu, Gr, pr, ru, k⟩ := lens S.s S.h p u (.ref a) hA
  obtain ⟨Gx, G', G0, e1, pg, hr⟩ := dec Fu ru
  subst e1
  have pAll : (Fs ++ (w.F ++ Fx)).Perm (a :: ((Gx ++ Fx) ++ Gr)) := by
    rw [← List.append_assoc]
    refine (List.Perm.append_right Fx pr).trans ?_
    show (a :: ((Gx ++ Gr) ++ Fx)).Perm _
    refine List.Perm.cons a ?_
    rw [List.append_assoc, List.append_assoc]
    exact List.Perm.append_left Gx List.perm_append_comm
  have nd : (a :: ((Gx ++ Fx) ++ Gr)).Nodup := pAll.nodup_iff.mp ok.nd
  have nd1 := List.nodup_cons.mp nd
  have inAll : ∀ {b}, b ∈ (Gx ++ Fx) ++ Gr → b ≠ a := fun hb e => nd1.1 (e ▸ hb)
  have hG' : ∀ b ∈ G' ++ G0, b ∈ Gx ++ Fx := fun b hb => pg.mem_iff.mp hb
  have haF : a ∈ Fs ++ (w.F ++ Fx) := pAll.mem_iff.mpr List.mem_cons_self
  have hZ : ∀ b, w.Z b → b ≠ a := fun b z e => ok.sep a haF (e ▸ z)
  obtain ⟨ru', _⟩ := hr (fun b hb => inAll (List.mem_append_left _ (hG' b (List.mem_append_left _ hb)))) hZ
  obtain ⟨Fs', F', p', rs', rh'⟩ := k (upd H a o') u' (a :: G') hkin (fun b o hb ho => by
    rw [upd_ne]
    · exact ho
    · rcases hb with hb | hb
      · exact hZ b hb
      · exact inAll (List.mem_append_right _ hb)) ru'
  have pAll' : (Fs' ++ (F' ++ G0)).Perm (a :: ((Gx ++ Fx) ++ Gr)) := by
    rw [← List.append_assoc]
    refine (List.Perm.append_right G0 p').trans ?_
    show (a :: ((G' ++ Gr) ++ G0)).Perm _
    refine List.Perm.cons a ?_
    rw [List.append_assoc]
    refine (List.Perm.append_left G' List.perm_append_comm).trans ?_
    rw [← List.append_assoc]
    exact List.Perm.append_right Gr pg
  have pp : (Fs' ++ (F' ++ G0)).Perm (Fs ++ (w.F ++ Fx)) := pAll'.trans pAll.symm
  have okH : WOk (fullv w Fs Fx) (upd H a o') := ⟨ok.nd, ok.sep, fun b hb => upd_there b (ok.trF b hb), fun b hb => upd_there b (ok.trZ b hb)⟩
  have ok' : WOk (fullv ⟨w.ρ, w.Z, F'⟩ Fs' G0) (upd H a o') := okH.perm pp
  refine ⟨Fs', F', G0, Gx, ru, ⟨fun _ _ e => e, fun _ z => z, fun b o ho nb => ?_, fun b hb => ?_, fun b hb => upd_there b hb⟩, ok', ⟨rs', rh', ok'.less (List.Sublist.append_left (List.sublist_append_left _ _) Fs')⟩, G', pg, nd.sublist ((List.sublist_append_left _ _).cons₂ a)⟩
  · rw [upd_ne]
    · exact ho
    · exact fun e => nb (e ▸ haF)
  · rcases hb with hb | hb
    · exact .inl hb
    · exact .inr (.inl (pp.mem_iff.mp hb))
/-- a list at a place gets other things -/
theorem put_lst (S : Sta c w Fs σd hd σ H) {Fx : List Addr} (ok : WOk (fullv w Fs Fx) H) {p : Plc} {xs xs' : List UV} {vs vs' : List V} {a : Addr} (hA : At w.ρ H σd hd σ p (.own xs) (.ref a)) (hv : H a = some (.lst vs))
    (new : ∀ G, RUl c w.Z H w.ρ xs vs G → ∃ G' G0, (G' ++ G0).Perm (G ++ Fx) ∧ RUl c w.Z H w.ρ xs' vs' G') :
    ∃ Fs' F' G0, Ext (fullv w Fs Fx) H (fullv ⟨w.ρ, w.Z, F'⟩ Fs' G0) (upd H a (.lst vs')) ∧ WOk (fullv ⟨w.ρ, w.Z, F'⟩ Fs' G0) (upd H a (.lst vs')) ∧ Sta c ⟨w.ρ, w.Z, F'⟩ Fs' (setP p (.own xs') σd hd).1 (setP p (.own xs') σd hd).2 σ (upd H a (.lst vs')) := by
  obtain ⟨Fs', F', G0, _, _, h1, h2, h3, _⟩ := put_at S ok (u' := .own xs') (o' := .lst vs') hA (fun _ => rfl) fun Fu ru => by
    obtain ⟨b, ws, Gx, e0, e1, e2, t⟩ := ru
    cases e0
    rw [hv] at e1
    cases e1
    obtain ⟨G', G0, pg, t'⟩ := new Gx t
    refine ⟨Gx, G', G0, e2, pg, fun hn hz => ⟨⟨a, vs', G', rfl, upd_same, rfl, RUl.mono (fun _ _ e => e) (fun _ z => z) (fun b o z ho => ?_) (fun b hb o ho => ?_) t'⟩, fun _ => trivial⟩⟩
    · rw [upd_ne (hz b z)]; exact ho
    · rw [upd_ne (hn b hb)]; exact ho
  exact ⟨Fs', F', G0, h1, h2, h3⟩
theorem put_lst1 {W : WX} {D : Ends} (S : Sta c w Fs σd hd σ H) {Fx : List Addr} (ok : WOk (fullv w Fs Fx) H) {p : Plc} {xs xs' : List UV} {vs vs' : List V} {a : Addr} (hA : At w.ρ H σd hd σ p (.own xs) (.ref a)) (hv : H a = some (.lst vs))
    (new : ∀ G, RUl c w.Z H w.ρ xs vs G → ∃ G' G0, (G' ++ G0).Perm (G ++ Fx) ∧ RUl c w.Z H w.ρ xs' vs' G')
    (q : SPo c W (fullv w Fs Fx) H D (.nx (setP p (.own xs') σd hd).1 (setP p (.own xs') σd hd).2)) : D.nx σ (upd H a (.lst vs')) := by
  obtain ⟨Fs', F', G0, h1, h2, h3⟩ := put_lst S ok hA hv new
  exact q ⟨w.ρ, w.Z, F'⟩ Fs' σ _ (Ext.less h1 fun x hx => by
    rcases List.mem_append.mp hx with z | z
    · exact List.mem_append_left _ z
    · exact List.mem_append_right _ (List.mem_append_left _ z)) h3
end

/-! ### which places stand through another expression -/
def rootS : Plc → Bool
  | .slot _ => true
  | .item p _ => rootS p
  | _ => false
def firm : Plc → Bool
  | .slot _ => true
  | .cell _ => true
  | .item p _ => rootS p
  | .fld _ _ => false
/-- an expression that leaves the store as it was -/
def Stil (m : ME) : Prop := ∀ σ h u h', m σ h = .ok u h' → h' = h
section
variable {c : Cg} {w w1 : Wd} {H H1 : Hp} {Fs : List Addr} {σd : SL} {hd h1 : HS} {σ : L2.St}
theorem At.mono {ρ ρ' : List Addr} (hr : ∀ (i : Nat) a, ρ[i]? = some a → ρ'[i]? = some a) (hk : ∀ a o, H a = some o → H1 a = some o) : ∀ {p : Plc} {u : UV} {v : V}, At ρ H σd hd σ p u v → At ρ' H1 σd hd σ p u v
  | .slot i, _, _, h => h
  | .cell k, _, _, ⟨x, a, q1, q2, q3, q4⟩ => ⟨x, a, q1, q2, hr _ _ q3, q4⟩
  | .item p j, _, _, ⟨xs, vs, a, q1, q2, q3, q4⟩ => ⟨xs, vs, a, At.mono hr hk q1, hk _ _ q2, q3, q4⟩
  | .fld k f, _, _, ⟨C, fs, a, Ca, dx, gs, q1, q2, q3, q4, q5⟩ => ⟨C, fs, a, Ca, dx, gs, q1, q2, hr _ _ q3, hk _ _ q4, q5⟩
theorem At.root (rs : RS c w.Z H w.ρ σd σ Fs) : ∀ {p : Plc} {u : UV} {v : V}, rootS p = true → At w.ρ H σd hd σ p u v → ∃ Fu, RU c w.Z H w.ρ u v Fu ∧ ∀ b ∈ Fu, b ∈ Fs
  | .slot i, u, v, _, h => by
    obtain ⟨v', G, e, r, s⟩ := rs.get h.1
    rw [h.2] at e
    cases e
    exact ⟨G, r, s⟩
  | .item p j, u, v, hp, ⟨xs, vs, a, q1, q2, q3, q4⟩ => by
    obtain ⟨Fu, ⟨b, ws, G, e0, e1, e2, t⟩, s⟩ := At.root rs (p := p) hp q1
    cases e0
    rw [q2] at e1
    cases e1
    obtain ⟨v', G', e, r, s'⟩ := t.get q3
    rw [q4] at e
    cases e
    exact ⟨G', r, fun b hb => s b (by rw [e2]; exact List.mem_cons_of_mem _ (s' b hb))⟩
theorem At.rootKeep (rs : RS c w.Z H w.ρ σd σ Fs) (hk : ∀ b ∈ Fs, ∀ o, H b = some o → H1 b = some o) : ∀ {p : Plc} {u : UV} {v : V}, rootS p = true → At w.ρ H σd hd σ p u v → At w1.ρ H1 σd h1 σ p u v
  | .slot i, _, _, _, h => h
  | .item p j, u, v, hp, ⟨xs, vs, a, q1, q2, q3, q4⟩ => by
    obtain ⟨Fu, ⟨b, ws, G, e0, e1, e2, t⟩, s⟩ := At.root rs (p := p) hp q1
    cases e0
    exact ⟨xs, vs, a, At.rootKeep rs hk hp q1, hk a (s a (by rw [e2]; exact List.mem_cons_self)) _ q2, q3, q4⟩
/-- a firm place stands -/
theorem At.firm (S : Sta c w Fs σd hd σ H) (e : Ext w H w1 H1) {p : Plc} {u u1 : UV} {v : V} (hf : firm p = true) (h : At w.ρ H σd hd σ p u v) (g : getP p σd h1 = some u1) : At w1.ρ H1 σd h1 σ p u1 v := by
  have keep := aside_kept S.ok e
  cases p with
  | slot i =>
    have := At.get (H := H) (ρ := w.ρ) (.slot i) (hd := h1) h
    rw [this] at g
    cases g
    exact h
  | cell k =>
    obtain ⟨x, a, q1, q2, q3, q4⟩ := h
    simp only [getP] at g
    split at g
    · rename_i x' hx'
      exact ⟨x', a, hx', g, e.rho _ _ q3, q4⟩
    · cases g
  | item p j =>
    have h2 : At w1.ρ H1 σd h1 σ (.item p j) u v := At.rootKeep (p := .item p j) S.s keep hf h
    have := At.get _ h2
    rw [this] at g
    cases g
    exact h2
  | fld k f => cases hf
/-- what is read at a place has its own addresses within -/
theorem At.RU (S : Sta c w Fs σd hd σ H) {p : Plc} {u : UV} {v : V} (h : At w.ρ H σd hd σ p u v) : ∃ Fu, RU c w.Z H w.ρ u v Fu ∧ ∀ b ∈ Fu, b ∈ Fs ++ w.F := by
  obtain ⟨Fu, G, pr, ru, _⟩ := lens S.s S.h p u v h
  exact ⟨Fu, ru, fun b hb => pr.mem_iff.mpr (List.mem_append_left _ hb)⟩
end

/-! ### places told by expressions -/
abbrev MP := SL → HS → Option Plc
def tP (c : Cg) (mp : MP) : TE := fun σ H Q => ∃ w Fs σd hd, Sta c w Fs σd hd σ H ∧ ∃ p u, mp σd hd = some p ∧ getP p σd hd = some u ∧ kin u = true ∧
  ∀ w' H' v, Ext w H w' H' → Sta c w' Fs σd hd σ H' → Pu true H H' → At w'.ρ H' σd hd σ p u v → Q v H'
def plU (p : Plc) : UV → Option Plc
  | .ref k => some (.cell k)
  | .own _ => some p
  | .odK _ => some p
  | .odT _ => some p
  | _ => none
def pVar (i : Nat) : MP := fun σ _ => match σ[i]? with
  | some (some u) => plU (.slot i) u
  | _ => none
section
variable {X : Cx} {c : Cg} {W : WX} {m ma mb : ME} {σ : L2.St} {H : Hp} {a b e : Expr} {pos : Pos} {pu : Bool}
theorem RH.cell {w : Wd} {hd : HS} (rh : RH c w.Z H w.ρ hd w.F) {k : Nat} {x : Cel} {a : Addr} {u : UV} (hx : hd[k]? = some x) (hr : w.ρ[k]? = some a) (hu : celU x = some u) (σd : SL) (σ : L2.St) : At w.ρ H σd hd σ (.cell k) u (.ref a) := ⟨x, a, hx, hu, hr, rfl⟩
/-- what a value names as a place -/
theorem plU_at {w : Wd} {Fs : List Addr} {σd : SL} {hd : HS} (S : Sta c w Fs σd hd σ H) {p p' : Plc} {u u' : UV} {v : V} (h : At w.ρ H σd hd σ p u v) (e : plU p u = some p') (g : getP p' σd hd = some u') : At w.ρ H σd hd σ p' u' v := by
  unfold plU at e
  split at e
  · rename_i k
    cases e
    obtain ⟨Fu, ru, _⟩ := At.RU S h
    obtain ⟨_, a, hr, rfl⟩ := ru
    simp only [getP] at g
    split at g
    · rename_i x hx
      exact ⟨x, a, hx, g, hr, rfl⟩
    · cases g
  · cases e
    have := At.get _ h
    rw [this] at g
    cases g
    exact h
  · cases e
    have := At.get _ h
    rw [this] at g
    cases g
    exact h
  · cases e
    have := At.get _ h
    rw [this] at g
    cases g
    exact h
  · cases e
theorem p_var (i : Nat) {x : Str} (h : PE X (.Name x pos) (tVar i)) : PE X (.Name x pos) (tP c (pVar i)) := PE.imp h fun σ H Q ⟨w, Fs, σd, hd, S, p, u, e, g, hk, q⟩ => by
  unfold pVar at e
  split at e
  · rename_i u0 hu
    obtain ⟨v, G, e1, r, s⟩ := S.s.get hu
    exact ⟨v, e1, q w H v Ext.refl S .refl (plU_at S (p := .slot i) (u := u0) ⟨hu, e1⟩ e g)⟩
  · cases e
/-- o[i], a place -/
def pItem (mp : MP) (m : ME) : MP := fun σ h => match mp σ h, m σ h with
  | some p, .ok v _ => match getP p σ h, uInt v with
    | some (.own xs), some i => match ixN xs.length i with
      | some j => match xs[j]? with
        | some u => plU (.item p j) u
        | none => none
      | none => none
    | _, _ => none
  | _, _ => none
theorem p_item (hK : c.K = X.K) {mp : MP} (ho : PE X a (tP c mp)) (hi : PE X b (tV true .C c W m)) (hm : Stil m) (hs : PlainIx b) : PE X (.Subscript a b pos) (tP c (pItem mp m)) := PE.imp (pe_ix ix_seq ho hi hs) fun σ H Q ⟨w, Fs, σd, hd, S, p, u, e, g, hk, q⟩ => by
  unfold pItem at e
  split at e
  · rename_i p0 v h1 e0 em
    have eh : h1 = hd := hm _ _ _ _ em
    subst eh
    split at e
    · rename_i xs i gx ei
      split at e
      · rename_i j ej
        split at e
        · rename_i u0 eu
          refine ⟨w, Fs, σd, h1, S, p0, .own xs, e0, gx, rfl, fun w1 H1 x ex S1 pu1 at1 => ⟨w1, Fs, σd, h1, S1, ?_⟩⟩
          rw [em]
          intro w2 H2 y Fy mo pu2 rh ry
          have S2 := S1.ext mo.ext.1 mo.ext.2 rh
          have at2 := at1.mono mo.ext.1.rho (pu2 rfl)
          obtain ⟨Fu, ⟨a, vs, G, e1, e2, e3, t⟩, _⟩ := At.RU S2 at2
          subst e1
          obtain ⟨vj, Gj, e4, _, _⟩ := t.get eu
          rw [← hK]
          refine .inl ⟨a, vs, i, vj, rfl, uInt_ok ei ry, .of e2, ?_, ?_⟩
          · unfold atI
            rw [t.length, ej]
            exact e4
          · exact q w2 H2 vj (ex.trans S1.wok mo.ext.1) S2 (pu1.trans pu2) (plU_at S2 (p := .item p0 j) ⟨xs, vs, a, at2, e2, eu, e4⟩ e g)
        · cases e
      · cases e
    · cases e
  · cases e
end

/-! ### statements -/
/-- a place that holds a list -/
def lstAt (mp : MP) (σ : SL) (h : HS) : Option (Plc × List UV) := match mp σ h with
  | some p => match getP p σ h with
    | some (.own xs) => some (p, xs)
    | _ => none
  | none => none
def nxP (p : Plc) (xs : List UV) (σ : SL) (h : HS) : RS' := .nx (setP p (.own xs) σ h).1 (setP p (.own xs) σ h).2
def sApp (f : Bool) (mp : MP) (m : ME) : MS := fun σ h => match lstAt mp σ h with
  | some (p, _) => bindS (m σ h) σ fun u h1 => if f = true ∧ firm p = false then .bad else match getP p σ h1 with
    | some (.own xs) => if xs.length < sizeLine then nxP p (xs ++ [u]) σ h1 else .bad
    | _ => .bad
  | none => .bad
def sExtend (f : Bool) (mp : MP) (m : ME) : MS := fun σ h => match lstAt mp σ h with
  | some (p, _) => bindS (m σ h) σ fun u h1 => if f = true ∧ firm p = false then .bad else match getP p σ h1, asM h1 u with
    | some (.own xs), some ys => if xs.length + ys.length ≤ sizeLine ∧ ys.all noOwn = true then nxP p (xs ++ ys) σ h1 else .bad
    | _, _ => .bad
  | none => .bad
section
variable {X : Cx} {c : Cg} {W : WX} {m ma mb : ME} {σ : L2.St} {H : Hp} {a b e o : Expr} {pos apos cpos : Pos} {pu : Bool} {D : Ends} {mp : MP}
theorem lstAt_ok {p : Plc} {xs : List UV} {σd : SL} {hd : HS} (h : lstAt mp σd hd = some (p, xs)) : mp σd hd = some p ∧ getP p σd hd = some (.own xs) := by
  unfold lstAt at h
  split at h
  · rename_i p' e1
    split at h
    · rename_i xs' e2
      cases h
      exact ⟨e1, e2⟩
    · cases h
  · cases h
/-- the place behind the argument -/
theorem At.next {w w1 : Wd} {H1 : Hp} {Fs : List Addr} {σd : SL} {hd h1 : HS} {f : Bool} {p : Plc} {u u1 : UV} {v : V} (S : Sta c w Fs σd hd σ H) (e : Ext w H w1 H1) (hf : f = true ∨ (pu = true ∧ Stil m)) (h1e : m σd hd = .ok u h1) (pq : Pu pu H H1) {ux : UV}
    (h : At w.ρ H σd hd σ p u1 v) (nf : ¬ (f = true ∧ MM.firm p = false)) (g : getP p σd h1 = some ux) : At w1.ρ H1 σd h1 σ p ux v := by
  rcases hf with hf | ⟨hp, hs⟩
  · refine At.firm S e ?_ h g
    cases q : MM.firm p with
    | true => rfl
    | false => exact absurd ⟨hf, q⟩ nf
  · have eh := hs _ _ _ _ h1e
    subst eh
    have := At.get _ h
    rw [this] at g
    cases g
    exact h.mono e.rho (pq hp)
theorem s_app {f : Bool} (hf : f = true ∨ (pu = true ∧ Stil m)) (ho : PE X o (tP c mp)) (he : PE X e (tV pu .E c W m))
    (hbase : attributeBase o "append" X.env (eval o X.env) = eval o X.env := by rfl) (hline : (apos.endLine == cpos.line) = true := by rfl) (hs1 : starEach [e] X.env = (false, eval e X.env) :: starEach [] X.env := by rfl)
    (hs : swapsWith (.Call (.Attribute o "append" apos) [e] [] cpos) none pos.line X.env = pure false := by rfl)
    (hfew : ((backTo cpos (starEach [e] X.env)).all (fun x => !x.1) && (backToKw cpos (keywordEach [] X.env)).all (fun x => x.1.isSome)
      && decide ([e].length + ([] : List Keyword).length + (if ([] : List Keyword).isEmpty then 0 else 1) < 30)) = true := by rfl) :
    PS X (.Expr (.Call (.Attribute o "append" apos) [e] [] cpos) pos) (tS c W (sApp f mp m)) :=
  PS.imp (ps_expr (pe_bm PySem.F.plainAttrs_list PySem.F.slot_list_append PySem.F.type_list_append mt_append ho (pa_cons he pa_nil hs1) hbase hfew hline hs1) hs) fun D σ H ⟨w, Fs, σd, hd, S, p⟩ => by
    unfold sApp at p
    split at p
    · rename_i p0 xs0 e0
      obtain ⟨e1, g0⟩ := lstAt_ok e0
      refine ⟨w, Fs, σd, hd, S, p0, .own xs0, e1, g0, rfl, fun w1 H1 x ex S1 pu1 at1 => ?_⟩
      obtain ⟨Fu, ⟨a, vs0, G, rfl, e2, e3, t⟩, _⟩ := At.RU S1 at1
      refine ⟨.inl ⟨rfl, vs0, .of e2⟩, ?_⟩
      have p1 := SPo.shift (ex.full Fs) S1.ok p
      cases em : m σd hd with
      | bad => rw [em] at p1; exact p1.elim
      | err x h' =>
        rw [em] at p1
        refine ⟨w1, Fs, σd, hd, S1, ?_⟩
        rw [em]
        exact fun w' H' cls dx e' ok' rh rx => p1 w' Fs σ H' cls dx (e'.full Fs) (S1.ext e' ok' rh) rx
      | ok u h' =>
        rw [em] at p1
        simp only [bindS_ok] at p1
        refine ⟨w1, Fs, σd, hd, S1, ?_⟩
        rw [em]
        intro w2 H2 y Fy mo pp rh ru
        have S2 := S1.ext mo.ext.1 mo.ext.2 rh
        have ok2 := S1.ok.aside mo.1 mo.2
        have p2 := SPo.shift (Ext.more (ρ := w1.ρ) (Z := w1.Z) (ρ' := w2.ρ) (Z' := w2.Z) mo.1 Fs) ok2 p1
        split at p2
        · exact p2.elim
        · rename_i nf
          split at p2
          · rename_i xs gx
            split at p2
            · rename_i hl
              have at2 := At.next S1 mo.ext.1 hf em pp at1 nf gx
              obtain ⟨Fu2, ⟨a2, vs2, G2, e4, e5, e6, t2⟩, _⟩ := At.RU S2 at2
              cases e4
              refine ⟨a, vs2, y, rfl, rfl, e5, by rw [t2.length]; exact hl, ?_⟩
              exact put_lst1 (xs' := xs ++ [u]) S2 ok2 at2 e5 (fun G0 t0 => ⟨G0 ++ Fy, [], by rw [List.append_nil], RUl.app t0 ⟨y, [], Fy, [], rfl, by rw [List.append_nil], ru, ⟨rfl, rfl⟩⟩⟩) p2
            · exact p2.elim
          · exact p2.elim
    · exact p.elim
/-! #### o[i] = e, o[i] op= e -/
def sISet (mp : MP) (mi m : ME) : MS := fun σ h => bindS (m σ h) σ fun u h1 => match lstAt mp σ h1, mi σ h1 with
  | some (p, xs), .ok v _ => match (uInt v).bind (ixN xs.length) with
    | some j => nxP p (xs.set j u) σ h1
    | none => .bad
  | _, _ => .bad
theorem RUl.put {Z : Addr → Prop} {ρ : List Addr} {u : UV} {v : V} {Fv : List Addr} (r : RU c Z H ρ u v Fv) : ∀ {s : List UV} {l : List V} {F : List Addr} (i : Nat), i < s.length → RUl c Z H ρ s l F → ∃ F' F0, RUl c Z H ρ (s.set i u) (l.set i v) F' ∧ (F' ++ F0).Perm (F ++ Fv)
  | [], _, F, i, hl, h => by simp at hl
  | x :: s, _, F, 0, _, ⟨v', r', F1, F2, e, eF, h, t⟩ => by
    rw [e, eF]
    refine ⟨Fv ++ F2, F1, ⟨v, r', Fv, F2, rfl, rfl, r, t⟩, ?_⟩
    refine List.perm_append_comm.trans ?_
    rw [List.append_assoc]
    exact List.Perm.append_left F1 List.perm_append_comm
  | x :: s, _, F, i + 1, hl, ⟨v', r', F1, F2, e, eF, h, t⟩ => by
    obtain ⟨F', F0, h1, h2⟩ := RUl.put r i (by simpa using hl) t
    rw [e, eF]
    refine ⟨F1 ++ F', F0, ⟨v', _, F1, F', rfl, rfl, h, h1⟩, ?_⟩
    rw [List.append_assoc, List.append_assoc]
    exact List.Perm.append_left F1 h2
theorem ixN_lt {n : Nat} {i : Int} {j : Nat} (h : ixN n i = some j) : j < n := (ixN_seq h).2.1
theorem WOk.asideV {w w1 : Wd} {H1 : Hp} {Fs Fx : List Addr} (ok : WOk (fullv w Fs Fx) H) (e : Ext w H w1 H1) (ok1 : WOk w1 H1) : WOk (fullv w1 Fs Fx) H1 ∧ Ext (fullv w Fs Fx) H (fullv w1 Fs Fx) H1 := by
  have pm : ∀ {A : List Addr}, (Fs ++ (A ++ Fx)).Perm ((Fs ++ Fx) ++ A) := fun {A} => by
    rw [List.append_assoc]
    exact List.Perm.append_left Fs List.perm_append_comm
  have o1 : WOk ⟨w.ρ, w.Z, (Fs ++ Fx) ++ w.F⟩ H := ok.perm pm.symm
  refine ⟨(o1.aside (ρ := w.ρ) (Z := w.Z) (ρ' := w1.ρ) (Z' := w1.Z) e ok1).perm pm, ?_⟩
  exact Ext.set (Ext.more (ρ := w.ρ) (Z := w.Z) (ρ' := w1.ρ) (Z' := w1.Z) e (Fs ++ Fx)) (fun a => pm.mem_iff) (fun a => pm.mem_iff)
theorem s_iset {mi : ME} {i : Expr} {tpos : Pos} (ho : PE X o (tP c mp)) (hi : PE X i (tV true .C c W mi)) (hm : Stil mi) (he : PE X e (tV pu .E c W m))
    (ha : ∀ v, assign (.Subscript o i tpos) X.env v = (do
      let ov ← holding [v] (eval o X.env)
      let iv ← holding [v, ov] (eval i X.env)
      standAt tpos
      holding [v, ov, iv] (setItem ov iv v)
      release [v, ov, iv] []) := by intro _; rfl)
    (hs : swapsWithSole [.Subscript o i tpos] e pos.line X.env = pure false := by rfl) (hw : swappedStores [.Subscript o i tpos] e X.env = pure none := by rfl)
    (h1 : (assignEach [.Subscript o i tpos] X.env).map (·.2) = [assign (.Subscript o i tpos) X.env] := by rfl) :
    PS X (.Assign [.Subscript o i tpos] e pos) (tS c W (sISet mp mi m)) :=
  PS.imp (ps_asg he (pg_sub ho hi set_list ha) hs hw h1) fun D σ H ⟨w, Fs, σd, hd, S, p⟩ => stepE S p fun u h1 w1 H1 x Fx S1 ok1 pp ru p1 => by
    split at p1
    · rename_i p0 xs v h2 e0 em
      have eh : h2 = h1 := hm _ _ _ _ em
      subst eh
      split at p1
      · rename_i j ej
        rw [Option.bind_eq_some_iff] at ej
        obtain ⟨i, ei, ej⟩ := ej
        obtain ⟨e1, g0⟩ := lstAt_ok e0
        refine ⟨w1, Fs, σd, h2, S1, p0, .own xs, e1, g0, rfl, fun w2 H2 a ex S2 pu2 at2 => ⟨w2, Fs, σd, h2, S2, ?_⟩⟩
        rw [em]
        intro w3 H3 y Fy mo pu3 rh ry
        have S3 := S2.ext mo.ext.1 mo.ext.2 rh
        have ex3 := ex.trans S2.wok mo.ext.1
        have at3 := at2.mono mo.ext.1.rho (pu3 rfl)
        obtain ⟨Fu, ⟨l, vs, G, e5, e2, e3, t⟩, _⟩ := At.RU S3 at3
        subst e5
        obtain ⟨ok3, ex4⟩ := WOk.asideV ok1 ex3 mo.ext.2
        have ru3 := RU.mono ex3.rho ex3.z (fun a o z => (pu2.trans pu3) rfl a o) (fun a _ o => (pu2.trans pu3) rfl a o) ru
        refine ⟨l, vs, i, j, rfl, uInt_ok ei ry, e2, by rw [t.length]; exact ej, ?_⟩
        refine put_lst1 (xs' := xs.set j u) S3 ok3 at3 e2 (fun G0 t0 => ?_) (SPo.shift ex4 ok3 p1)
        obtain ⟨F', F0, q1, q2⟩ := RUl.put ru3 j (ixN_lt ej) t0
        exact ⟨F', F0, q2, q1⟩
      · exact p1.elim
    · exact p1.elim
def rGetL (K : PySem.W.Frag) : V → V → Hp → VK → Prop := fun x y H Q => ∃ p xs i v, x = .ref p ∧ y = .int i ∧ SqL K H p xs ∧ atI xs i = some v ∧ Q v H
theorem get_list : PGet X (rGetL X.K) := by
  intro pins s σ H x y v u Q I rx ry h
  obtain ⟨p, xs, i, z, rfl, rfl, hq, he, q⟩ := h
  cases rx
  obtain ⟨t, rfl⟩ := ry
  obtain ⟨its, r, pl, hz⟩ := I.list hq
  obtain ⟨j, h1, h2, h3, h4, h5⟩ := atI_get he
  obtain ⟨w, ew, rw'⟩ := r.get h2
  have hl := r.length
  have hn := line63
  have fin : EP X pins σ Q w s := ⟨z, H, I, rw', q⟩
  by_cases h0 : 0 ≤ i
  · have hj : i.toNat = j := by
      rw [seqIndex_of h0 h5] at h1
      exact Option.some.inj h1
    exact wpAny_getItem_list pl.isList h0 (by omega) (by rw [hj]; simpa using ew) fin
  · have hj : (i + (its.toArray.size : Int)).toNat = j := by
      rw [seqIndex_neg (by omega) h4] at h1
      rw [List.size_toArray, ← hl]
      exact Option.some.inj h1
    exact wpAny_getItem_list_neg pl.isList (by omega) (by rw [List.size_toArray] <;> omega) (by omega) (by rw [hj]; simpa using ew) fin
/-- o[i] op= e, of ints -/
def sIAug (f : Bool) (mp : MP) (mi : ME) (g : Int → Int → Int) (m : ME) : MS := fun σ h => match lstAt mp σ h, mi σ h with
  | some (p, xs), .ok v _ => match uInt v with
    | some i => match (atI xs i).bind uInt with
      | some x => bindS (m σ h) σ fun y h1 => if f = true ∧ firm p = false then .bad else match getP p σ h1, uInt y with
        | some (.own xs1), some y => match ixN xs1.length i with
          | some j => nxP p (xs1.set j (.d (.int (g x y)))) σ h1
          | none => .bad
        | _, _ => .bad
      | none => .bad
    | none => .bad
  | _, _ => .bad
theorem s_iaug {mi : ME} {i : Expr} {tpos : Pos} {f : Bool} {op : Operator} {g : Int → Int → Int} (hK : c.K = X.K) (hf : f = true ∨ (pu = true ∧ Stil m)) (hop : PIp X op (ipI g)) (ho : PE X o (tP c mp)) (hi : PE X i (tV true .C c W mi)) (hm : Stil mi) (he : PE X e (tV pu .E c W m))
    (ha : ∀ ov iv new, augStore i ov iv new = (do holding [new, ov, iv] (setItem ov iv new); release [new, ov, iv] []; pure .next) := by intros; rfl) :
    PS X (.AugAssign (.Subscript o i tpos) op e pos) (tS c W (sIAug f mp mi g m)) :=
  PS.imp (ps_augS ho hi get_list he hop set_list ha) fun D σ H ⟨w, Fs, σd, hd, S, p⟩ => by
    unfold sIAug at p
    split at p
    · rename_i p0 xs v h2 e0 em
      have eh : h2 = hd := hm _ _ _ _ em
      subst eh
      split at p
      · rename_i i ei
        split at p
        · rename_i x ex
          rw [Option.bind_eq_some_iff] at ex
          obtain ⟨ux, ex, ex2⟩ := ex
          obtain ⟨e1, g0⟩ := lstAt_ok e0
          refine ⟨w, Fs, σd, h2, S, p0, .own xs, e1, g0, rfl, fun w2 H2 a exx S2 pu2 at2 => ⟨w2, Fs, σd, h2, S2, ?_⟩⟩
          rw [em]
          intro w3 H3 y Fy mo pu3 rh ry
          have S3 := S2.ext mo.ext.1 mo.ext.2 rh
          have ex3 := exx.trans S2.wok mo.ext.1
          have at3 := at2.mono mo.ext.1.rho (pu3 rfl)
          obtain ⟨Fu, ⟨l, vs, G, e5, e2, e3, t⟩, _⟩ := At.RU S3 at3
          subst e5
          obtain ⟨vx, Gx, q1, q2⟩ := atI_RU t ex
          rw [← hK]
          refine ⟨l, vs, i, vx, rfl, uInt_ok ei ry, .of e2, q1, ?_⟩
          have p1 := SPo.shift (ex3.full Fs) S3.ok p
          cases em2 : m σd h2 with
          | bad => rw [em2] at p1; exact p1.elim
          | err x h' =>
            rw [em2] at p1
            refine ⟨w3, Fs, σd, h2, S3, ?_⟩
            rw [em2]
            exact fun w' H' cls dx e' ok' rh rx => p1 w' Fs σ H' cls dx (e'.full Fs) (S3.ext e' ok' rh) rx
          | ok u h' =>
            rw [em2] at p1
            simp only [bindS_ok] at p1
            refine ⟨w3, Fs, σd, h2, S3, ?_⟩
            rw [em2]
            intro w4 H4 z Fz mo4 pp4 rh4 ru4
            have S4 := S3.ext mo4.ext.1 mo4.ext.2 rh4
            have p2 := SPo.shift (mo4.ext.1.full Fs) S4.ok p1
            split at p2
            · exact p2.elim
            · rename_i nf
              split at p2
              · rename_i xs1 yi gx ey
                split at p2
                · rename_i j ej
                  have at4 := At.next S3 mo4.ext.1 hf em2 pp4 at3 nf gx
                  obtain ⟨Fu2, ⟨a2, vs2, G2, e4, e5, e6, t2⟩, _⟩ := At.RU S4 at4
                  cases e4
                  refine ⟨x, yi, uInt_ok ex2 q2, uInt_ok ey ru4, l, vs2, i, j, rfl, uInt_ok ei ry, e5, by rw [t2.length]; exact ej, ?_⟩
                  refine put_lst1 (Fx := []) (xs' := xs1.set j (.d (.int (g x yi)))) S4 (by rw [fullv_nil]; exact S4.ok) at4 e5 (fun G0 t0 => ?_) (by rw [fullv_nil]; exact p2)
                  obtain ⟨F', F0, q1, q2⟩ := RUl.put (u := .d (.int (g x yi))) (v := .int (g x yi)) (Fv := []) ⟨rfl, rfl⟩ j (ixN_lt ej) t0
                  exact ⟨F', F0, q2, q1⟩
                · exact p2.elim
              · exact p2.elim
        · exact p.elim
      · exact p.elim
    · exact p.elim
end
end MM

/-! MM14: cells made and given up, slots moved and frozen. -/
namespace MM
open PySem PySem.Spec PyProof.Rows L2

/-! ### what leaves the store as it was -/
theorem stil_K (x : DV) : Stil (mK x) := fun _ _ _ _ e => by cases e; rfl
theorem stil_var (i : Nat) : Stil (mVar i) := fun σ h u h' e => by
  unfold mVar at e
  split at e
  · cases e; rfl
  · cases e
theorem stil_varE (i : Nat) : Stil (mVarE i) := fun σ h u h' e => by
  unfold mVarE at e
  split at e
  · split at e
    · cases e; rfl
    · cases e
  · cases e
theorem ofO_h {α : Type} {o : Option α} {h h' : HS} {a : α} (e : ofO o h = .ok a h') : h' = h := by
  cases o with
  | none => cases e
  | some x => cases e; rfl
theorem stil_un {f : HS → UV → Option UV} {m : ME} (hm : Stil m) : Stil (mUn f m) := fun σ h u h' e => by
  unfold mUn at e
  cases q : m σ h with
  | ok v h1 => rw [q] at e; rw [ofO_h e]; exact hm _ _ _ _ q
  | err x h1 => rw [q] at e; cases e
  | bad => rw [q] at e; cases e
theorem stil_bin {f : HS → UV → UV → Option UV} {m n : ME} (hm : Stil m) (hn : Stil n) : Stil (mBin f m n) := fun σ h u h' e => by
  unfold mBin at e
  cases q : m σ h with
  | ok v h1 =>
    rw [q] at e
    have e1 := hm _ _ _ _ q
    simp only [bindM_ok] at e
    cases q2 : n σ h1 with
    | ok v2 h2 => rw [q2] at e; rw [ofO_h e, hn _ _ _ _ q2, e1]
    | err x h1 => rw [q2] at e; cases e
    | bad => rw [q2] at e; cases e
  | err x h1 => rw [q] at e; cases e
  | bad => rw [q] at e; cases e

/-! ### a fresh list becomes a cell -/
def uCell : UV → Option Cel
  | .own xs => some (.lst xs)
  | .odK kvs => some (.dK kvs)
  | .odT kvs => some (.dT kvs)
  | _ => none
section
variable {c : Cg} {Z : Addr → Prop} {H : Hp} {ρ : List Addr}
theorem uCell_ok {u : UV} {v : V} {F : List Addr} {x : Cel} (r : RU c Z H ρ u v F) (e : uCell u = some x) : ∃ a, v = .ref a ∧ RC c Z H ρ x a F := by
  unfold uCell at e
  split at e
  · cases e
    obtain ⟨a, vs, G, e1, e2, e3, t⟩ := r
    exact ⟨a, e1, vs, G, e2, e3, t⟩
  · cases e
    obtain ⟨a, vs, G, e1, e2, e3, t⟩ := r
    exact ⟨a, e1, vs, G, e2, e3, t⟩
  · cases e
    obtain ⟨a, vs, G, e1, e2, e3, t⟩ := r
    exact ⟨a, e1, vs, G, e2, e3, t⟩
  · cases e
theorem RHl.length : ∀ {h : HS} {l : List Addr} {F : List Addr}, RHl c Z H ρ h l F → l.length = h.length
  | [], _, _, r => by rw [r.1]; rfl
  | _ :: _, _, _, ⟨a, r, F1, F2, e, eF, h, t⟩ => by rw [e, List.length_cons, List.length_cons, t.length]
theorem RHl.snoc {x : Cel} {a : Addr} {Fx : List Addr} (r : RC c Z H ρ x a Fx) : ∀ {h : HS} {l : List Addr} {F : List Addr}, RHl c Z H ρ h l F → RHl c Z H ρ (h ++ [x]) (l ++ [a]) (F ++ Fx)
  | [], _, _, t => by
    rw [t.1, t.2]
    exact ⟨a, [], Fx, [], rfl, by simp, r, ⟨rfl, rfl⟩⟩
  | _ :: _, _, _, ⟨b, l', F1, F2, e, eF, h, t⟩ => by
    rw [e, eF]
    exact ⟨b, l' ++ [a], F1, F2 ++ Fx, rfl, by rw [List.append_assoc], h, t.snoc r⟩
theorem pre_get (l m : List Addr) : ∀ (i : Nat) a, l[i]? = some a → (l ++ m)[i]? = some a := fun i a e => by
  rw [List.getElem?_append_left (List.getElem?_eq_some_iff.mp e).1]; exact e
theorem RH.snoc {w : Wd} {hd : HS} {x : Cel} {a : Addr} {Fx : List Addr} (rh : RH c w.Z H w.ρ hd w.F) (r : RC c w.Z H w.ρ x a Fx) : RH c w.Z H (w.ρ ++ [a]) (hd ++ [x]) (w.F ++ Fx) :=
  RHl.snoc (RC.mono (pre_get _ _) (fun _ z => z) (fun _ _ _ e => e) (fun _ _ _ e => e) r) (RHl.mono (pre_get _ _) (fun _ z => z) (fun _ _ _ e => e) (fun _ _ _ e => e) rh)
end
def mCel (m : ME) : ME := fun σ h => bindM (m σ h) fun u h1 => match uCell u with
  | some x => .ok (.ref h1.length) (h1 ++ [x])
  | none => .bad
section
variable {X : Cx} {c : Cg} {W : WX} {e : Expr} {m : ME} {pu : Bool} {sts : List Stmt} {ms : MS}
theorem eCel (h : PE X e (tV pu .E c W m)) : PE X e (tV pu .E c W (mCel m)) := PE.imp h fun σ H Q ⟨w, Fs, σd, hd, S, p⟩ => ⟨w, Fs, σd, hd, S, by
  unfold mCel at p
  revert p
  cases m σd hd with
  | ok u h' =>
    intro p w' H' v Fv mo pp rh ru
    simp only [bindM_ok] at p
    split at p
    · rename_i x ex
      obtain ⟨a, rfl, rc⟩ := uCell_ok ru ex
      refine p ⟨w'.ρ ++ [a], w'.Z, w'.F ++ Fv⟩ H' (.ref a) [] ?_ pp (rh.snoc rc) ⟨rfl, a, ?_, rfl⟩
      · refine ⟨⟨fun i b q => pre_get _ _ i b (mo.1.rho i b q), mo.1.z, mo.1.keep, fun b q => mo.1.new b ?_, mo.1.there⟩, ?_⟩
        · rw [List.append_nil] at q; exact q
        · rw [List.append_nil]; exact ⟨mo.2.nd, mo.2.sep, mo.2.trF, mo.2.trZ⟩
      · rw [← RHl.length rh, List.getElem?_append_right (Nat.le_refl _), Nat.sub_self]; rfl
    · exact p.elim
  | err x h' => exact id
  | bad => exact id⟩

/-! ### ghost steps ahead of statements -/
abbrev GH := SL → HS → Option (SL × HS)
def GhS (c : Cg) (g : GH) : Prop := ∀ (w : Wd) (Fs : List Addr) (σd : SL) (hd : HS) (σ : L2.St) (H : Hp) (σd' : SL) (hd' : HS), Sta c w Fs σd hd σ H → g σd hd = some (σd', hd') → ∃ w' Fs', Ext (full w Fs) H (full w' Fs') H ∧ Sta c w' Fs' σd' hd' σ H
def sGh (g : GH) (ms : MS) : MS := fun σ h => match g σ h with
  | some (σ', h') => ms σ' h'
  | none => .bad
theorem gh_ok {g : GH} (hg : GhS c g) {D : Ends} {σ : L2.St} {H : Hp} (h : tS c W (sGh g ms) D σ H) : tS c W ms D σ H := by
  obtain ⟨w, Fs, σd, hd, S, p⟩ := h
  unfold sGh at p
  split at p
  · rename_i σd' hd' e
    obtain ⟨w', Fs', x, S'⟩ := hg w Fs σd hd σ H σd' hd' S e
    exact ⟨w', Fs', σd', hd', S', SPo.shift x S'.ok p⟩
  · exact p.elim
theorem ss_gh {g : GH} (hg : GhS c g) (h : PSs X sts (tS c W ms)) : PSs X sts (tS c W (sGh g ms)) := PSs.imp h fun D σ H => gh_ok hg
theorem s_gh {st : Stmt} {g : GH} (hg : GhS c g) (h : PS X st (tS c W ms)) : PS X st (tS c W (sGh g ms)) := PS.imp h fun D σ H => gh_ok hg
end
section
variable {c : Cg} {Z : Addr → Prop} {H : Hp} {ρ : List Addr}
theorem RS.clear : ∀ {s : SL} {l : L2.St} {F : List Addr} {j : Nat} {u : UV}, RS c Z H ρ s l F → s[j]? = some (some u) → ∃ v G F', l[j]? = some (some v) ∧ RU c Z H ρ u v G ∧ RS c Z H ρ (s.set j none) l F' ∧ F.Perm (F' ++ G)
  | [], _, _, _, _, _, h => by simp at h
  | none :: s, _, _, 0, u, _, q => by simp at q
  | none :: s, _, _, i + 1, u, ⟨o, r, e, t⟩, q => by
    obtain ⟨v, G, F', h1, h2, h3, h4⟩ := RS.clear (j := i) t (by simpa using q)
    exact ⟨v, G, F', by rw [e]; simpa using h1, h2, ⟨o, r, e, h3⟩, h4⟩
  | some x :: s, _, _, 0, u, ⟨v, r, F1, F2, e, eF, h, t⟩, q => by
    have q' : x = u := by simpa using q
    subst q' e eF
    exact ⟨v, F1, F2, rfl, h, ⟨some v, r, rfl, t⟩, List.perm_append_comm⟩
  | some x :: s, _, _, i + 1, u, ⟨v, r, F1, F2, e, eF, h, t⟩, q => by
    obtain ⟨v', G, F', h1, h2, h3, h4⟩ := RS.clear (j := i) t (by simpa using q)
    subst e eF
    refine ⟨v', G, F1 ++ F', by simpa using h1, h2, ⟨v, r, F1, F', rfl, rfl, h, h3⟩, ?_⟩
    rw [List.append_assoc]
    exact List.Perm.append_left F1 h4
variable {w : Wd} {Fs : List Addr} {σd : SL} {hd : HS} {σ : L2.St}
/-- a slot is forgotten, its value in hand -/
theorem Sta.take {j : Nat} {u : UV} (S : Sta c w Fs σd hd σ H) (h : σd[j]? = some (some u)) : ∃ v G F', σ[j]? = some (some v) ∧ RU c w.Z H w.ρ u v G ∧ Sta c w F' (σd.set j none) hd σ H ∧ WOk (fullv w F' G) H ∧ Ext (full w Fs) H (fullv w F' G) H := by
  obtain ⟨v, G, F', h1, h2, h3, h4⟩ := RS.clear S.s h
  have pm : (F' ++ (w.F ++ G)).Perm (Fs ++ w.F) := by
    refine (List.Perm.append_left F' List.perm_append_comm).trans ?_
    rw [← List.append_assoc]
    exact List.Perm.append_right w.F h4.symm
  have ok := S.ok.perm pm
  refine ⟨v, G, F', h1, h2, ⟨h3, S.h, ok.less (List.Sublist.append_left (List.sublist_append_left _ _) F')⟩, ok, Ext.sub fun a ha => pm.mem_iff.mp ha⟩
/-- the place in the list of slots set again -/
theorem set_set_none {i : Nat} {u : UV} : (σd.set i none).set i (some u) = σd.set i (some u) := by rw [List.set_set]
theorem set_same : ∀ {l : L2.St} {i : Nat} {v : V}, l[i]? = some (some v) → l.set i (some v) = l
  | [], _, _, h => by simp at h
  | a :: l, 0, v, h => by simp at h; rw [h]; rfl
  | a :: l, i + 1, v, h => by
    rw [List.set_cons_succ, set_same (by simpa using h)]
def gNo (i : Nat) : GH := fun σ h => match σ[i]? with
  | some (some _) => some (σ.set i none, h)
  | _ => none
theorem gNo_ok (i : Nat) : GhS c (gNo i) := fun w Fs σd hd σ H σd' hd' S e => by
  unfold gNo at e
  split at e
  · rename_i u hu
    cases e
    obtain ⟨v, G, F', h1, h2, h3, h4, h5⟩ := S.take hu
    exact ⟨w, F', h5.trans h4 (Ext.sub fun a ha => by
      rcases List.mem_append.mp ha with q | q
      · exact List.mem_append_left _ q
      · exact List.mem_append_right _ (List.mem_append_left _ q)), h3⟩
  · cases e
/-- a slot is frozen -/
def gFz (i : Nat) : GH := fun σ h => match σ[i]? with
  | some (some u) => (fz u).map fun u' => (σ.set i (some u'), h)
  | _ => none
theorem gFz_ok (i : Nat) : GhS c (gFz i) := fun w Fs σd hd σ H σd' hd' S e => by
  unfold gFz at e
  split at e
  · rename_i u hu
    rw [Option.map_eq_some_iff] at e
    obtain ⟨u', eu, e⟩ := e
    cases e
    obtain ⟨v, G, F', h1, h2, h3, h4, h5⟩ := S.take hu
    let w2 : Wd := ⟨w.ρ, fun x => w.Z x ∨ x ∈ G, w.F⟩
    have nd := List.nodup_append.mp (show (F' ++ (w.F ++ G)).Nodup from h4.nd)
    have nd2 := List.nodup_append.mp nd.2.1
    have ok2 : WOk (full w2 F') H := by
      refine ⟨?_, fun x hx z => ?_, fun x hx => ?_, fun x z => ?_⟩
      · exact List.nodup_append.mpr ⟨nd.1, nd2.1, fun x hx y hy => nd.2.2 x hx y (List.mem_append_left _ hy)⟩
      · rcases z with z | z
        · exact h3.ok.sep x hx z
        · rcases List.mem_append.mp hx with q | q
          · exact nd.2.2 x q x (List.mem_append_right _ z) rfl
          · exact nd2.2.2 x q x z rfl
      · exact h3.ok.trF x hx
      · rcases z with z | z
        · exact h3.ok.trZ x z
        · exact h4.trF x (List.mem_append_right _ (List.mem_append_right _ z))
    have S2 : Sta c w2 F' (σd.set i none) hd σ H := ⟨RS.mono (fun _ _ e => e) (fun _ z => .inl z) (fun _ _ _ e => e) (fun _ _ _ e => e) h3.s, RH_frz (fun _ z => .inl z) h3.h, ok2⟩
    obtain ⟨F2, S3, x3⟩ := S2.put (i := i) (Fv := []) (by rw [fullv_nil]; exact ok2) (fz_ok h2 eu)
    rw [fullv_nil] at x3
    rw [set_set_none, set_same h1] at S3
    refine ⟨w2, F2, (h5.trans h4 (⟨fun _ _ e => e, fun _ z => .inl z, fun _ _ e _ => e, fun a q => ?_, fun _ e => e⟩ : Ext (fullv w F' G) H (full w2 F') H)).trans ok2 x3, S3⟩
    rcases q with (q | q) | q
    · exact .inl q
    · exact .inr (.inl (List.mem_append_right _ (List.mem_append_right _ q)))
    · rcases List.mem_append.mp q with q | q
      · exact .inr (.inl (List.mem_append_left _ q))
      · exact .inr (.inl (List.mem_append_right _ (List.mem_append_left _ q)))
  · cases e
/-- a slot's list becomes a cell -/
def gCel (i : Nat) : GH := fun σ h => match σ[i]? with
  | some (some u) => (uCell u).map fun x => (σ.set i (some (.ref h.length)), h ++ [x])
  | _ => none
theorem gCel_ok (i : Nat) : GhS c (gCel i) := fun w Fs σd hd σ H σd' hd' S e => by
  unfold gCel at e
  split at e
  · rename_i u hu
    rw [Option.map_eq_some_iff] at e
    obtain ⟨x, eu, e⟩ := e
    cases e
    obtain ⟨v, G, F', h1, h2, h3, h4, h5⟩ := S.take hu
    obtain ⟨a, rfl, rc⟩ := uCell_ok h2 eu
    let w2 : Wd := ⟨w.ρ ++ [a], w.Z, w.F ++ G⟩
    have ok2 : WOk (full w2 F') H := ⟨h4.nd, h4.sep, h4.trF, h4.trZ⟩
    have S2 : Sta c w2 F' (σd.set i none) (hd ++ [x]) σ H := ⟨RS.mono (pre_get _ _) (fun _ z => z) (fun _ _ _ e => e) (fun _ _ _ e => e) h3.s, h3.h.snoc rc, ok2⟩
    obtain ⟨F2, S3, x3⟩ := S2.put (i := i) (u := .ref hd.length) (v := .ref a) (Fv := []) (by rw [fullv_nil]; exact ok2) ⟨rfl, a, by
      show (w.ρ ++ [a])[hd.length]? = some a
      rw [← RHl.length h3.h, List.getElem?_append_right (Nat.le_refl _), Nat.sub_self]; rfl, rfl⟩
    rw [fullv_nil] at x3
    rw [set_set_none, set_same h1] at S3
    exact ⟨w2, F2, (h5.trans h4 (⟨pre_get _ _, fun _ z => z, fun _ _ e _ => e, fun a q => q.elim .inl fun q => .inr (.inl q), fun _ e => e⟩ : Ext (fullv w F' G) H (full w2 F') H)).trans ok2 x3, S3⟩
  · cases e
end
/-! ### a slot moved into another -/
def sMv (i j : Nat) : MS := fun σ h => match σ[j]? with
  | some (some u) => .nx ((σ.set j none).set i (some u)) h
  | _ => .bad
theorem s_mv {X : Cx} {c : Cg} {W : WX} {pos p' p2 : Pos} (i j : Nat) {x y : Str} (hs : PE X (.Name y p2) (tVar j) → PS X (.Assign [.Name x p'] (.Name y p2) pos) (tAsg (tVar j) (gName i))) (h : PE X (.Name y p2) (tVar j)) : PS X (.Assign [.Name x p'] (.Name y p2) pos) (tS c W (sMv i j)) :=
  PS.imp (hs h) fun D σ H ⟨w, Fs, σd, hd, S, p⟩ => by
    unfold sMv at p
    split at p
    · rename_i u hu
      obtain ⟨v, G, F', h1, h2, h3, h4, h5⟩ := S.take hu
      obtain ⟨F2, S3, x3⟩ := h3.put (i := i) h4 h2
      exact ⟨v, h1, p w F2 _ H (h5.trans h4 x3) S3⟩
    · exact p.elim

/-! ### new cells are given up at a def's end -/
mutual
def refsLt (n : Nat) : UV → Bool
  | .d _ => true
  | .ref i => decide (i < n)
  | .tp xs => refsLtL n xs
  | .fl xs => refsLtL n xs
  | .own xs => refsLtL n xs
  | .odK kvs => refsLtK n kvs
  | .odT kvs => refsLtT n kvs
  | .clo _ caps => refsLtL n caps
def refsLtL (n : Nat) : List UV → Bool
  | [] => true
  | x :: xs => refsLt n x && refsLtL n xs
def refsLtK (n : Nat) : List (Key × UV) → Bool
  | [] => true
  | (_, x) :: xs => refsLt n x && refsLtK n xs
def refsLtT (n : Nat) : List (List Key × UV) → Bool
  | [] => true
  | (_, x) :: xs => refsLt n x && refsLtT n xs
end
def refsLtF (n : Nat) : List (Str × UV) → Bool
  | [] => true
  | (_, x) :: xs => refsLt n x && refsLtF n xs
def celLt (n : Nat) : Cel → Bool
  | .lst xs => refsLtL n xs
  | .dK kvs => refsLtK n kvs
  | .dT kvs => refsLtT n kvs
  | .obj _ fs => refsLtF n fs
  | .tab _ _ => true
section
variable {c : Cg} {Z : Addr → Prop} {H : Hp} {ρ : List Addr} {n : Nat}
mutual
theorem RU.cut : ∀ {u : UV} {v : V} {F : List Addr}, refsLt n u = true → RU c Z H ρ u v F → RU c Z H (ρ.take n) u v F
  | .d _, _, _, _, h => h
  | .ref i, _, _, q, ⟨e, a, h, r⟩ => ⟨e, a, by
    have : i < n := of_decide_eq_true (by simpa [refsLt] using q)
    rw [List.getElem?_take_of_lt this]; exact h, r⟩
  | .tp _, _, _, q, ⟨a, vs, e, z, h, r⟩ => ⟨a, vs, e, z, h, RUl.cut (by simpa [refsLt] using q) r⟩
  | .fl _, _, _, q, ⟨a, vs, e, z, h, r⟩ => ⟨a, vs, e, z, h, RUl.cut (by simpa [refsLt] using q) r⟩
  | .own _, _, _, q, ⟨a, vs, G, e, h, eF, r⟩ => ⟨a, vs, G, e, h, eF, RUl.cut (by simpa [refsLt] using q) r⟩
  | .odK _, _, _, q, ⟨a, vs, G, e, h, eF, r⟩ => ⟨a, vs, G, e, h, eF, RUk.cut (by simpa [refsLt] using q) r⟩
  | .odT _, _, _, q, ⟨a, vs, G, e, h, eF, r⟩ => ⟨a, vs, G, e, h, eF, RUt.cut (by simpa [refsLt] using q) r⟩
  | .clo _ _, _, _, q, ⟨e, I, f, c', cl, vs, h1, h2, h3, h4, h5, h6, h7, r⟩ => ⟨e, I, f, c', cl, vs, h1, h2, h3, h4, h5, h6, h7, RUl.cut (by simpa [refsLt] using q) r⟩
theorem RUl.cut : ∀ {u : List UV} {v : List V} {F : List Addr}, refsLtL n u = true → RUl c Z H ρ u v F → RUl c Z H (ρ.take n) u v F
  | [], _, _, _, h => h
  | _ :: _, _, _, q, ⟨v, r, F1, F2, e, eF, h, t⟩ => ⟨v, r, F1, F2, e, eF, RU.cut (by simp [refsLtL] at q; exact q.1) h, RUl.cut (by simp [refsLtL] at q; exact q.2) t⟩
theorem RUk.cut : ∀ {u : List (Key × UV)} {v : List (Key × V)} {F : List Addr}, refsLtK n u = true → RUk c Z H ρ u v F → RUk c Z H (ρ.take n) u v F
  | [], _, _, _, h => h
  | (_, _) :: _, _, _, q, ⟨v, r, F1, F2, e, eF, h, t⟩ => ⟨v, r, F1, F2, e, eF, RU.cut (by simp [refsLtK] at q; exact q.1) h, RUk.cut (by simp [refsLtK] at q; exact q.2) t⟩
theorem RUt.cut : ∀ {u : List (List Key × UV)} {v : List (List Key × V)} {F : List Addr}, refsLtT n u = true → RUt c Z H ρ u v F → RUt c Z H (ρ.take n) u v F
  | [], _, _, _, h => h
  | (_, _) :: _, _, _, q, ⟨v, r, F1, F2, e, eF, h, t⟩ => ⟨v, r, F1, F2, e, eF, RU.cut (by simp [refsLtT] at q; exact q.1) h, RUt.cut (by simp [refsLtT] at q; exact q.2) t⟩
end
theorem RUf.cut : ∀ {u : List (Str × UV)} {v : List (Str × V)} {F : List Addr}, refsLtF n u = true → RUf c Z H ρ u v F → RUf c Z H (ρ.take n) u v F
  | [], _, _, _, h => h
  | (_, _) :: _, _, _, q, ⟨v, r, F1, F2, e, eF, h, t⟩ => ⟨v, r, F1, F2, e, eF, RU.cut (by simp [refsLtF] at q; exact q.1) h, RUf.cut (by simp [refsLtF] at q; exact q.2) t⟩
theorem RC.cut : ∀ {x : Cel} {a : Addr} {F : List Addr}, celLt n x = true → RC c Z H ρ x a F → RC c Z H (ρ.take n) x a F
  | .lst _, _, _, q, ⟨vs, G, h, e, r⟩ => ⟨vs, G, h, e, RUl.cut q r⟩
  | .dK _, _, _, q, ⟨vs, G, h, e, r⟩ => ⟨vs, G, h, e, RUk.cut q r⟩
  | .dT _, _, _, q, ⟨vs, G, h, e, r⟩ => ⟨vs, G, h, e, RUt.cut q r⟩
  | .obj _ _, _, _, q, ⟨Ca, dx, gs, G, m, h, e, r⟩ => ⟨Ca, dx, gs, G, m, h, e, RUf.cut q r⟩
  | .tab _ _, _, _, _, h => h
theorem RHl.cut : ∀ {h : HS} {l : List Addr} {F : List Addr} (k : Nat), (h.take k).all (celLt n) = true → RHl c Z H ρ h l F → ∃ F', F'.Sublist F ∧ RHl c Z H (ρ.take n) (h.take k) (l.take k) F'
  | [], _, _, k, _, r => by
    rw [r.1]
    refine ⟨[], List.nil_sublist _, ?_⟩
    rw [List.take_nil, List.take_nil]
    exact ⟨rfl, rfl⟩
  | _ :: _, _, _, 0, _, r => ⟨[], List.nil_sublist _, ⟨rfl, rfl⟩⟩
  | x :: h, _, _, k + 1, q, ⟨a, r, F1, F2, e, eF, hx, t⟩ => by
    rw [List.take_succ_cons, List.all_cons, Bool.and_eq_true] at q
    obtain ⟨F', s, t'⟩ := RHl.cut k q.2 t
    refine ⟨F1 ++ F', by rw [eF]; exact List.Sublist.append_left s F1, ?_⟩
    rw [e, List.take_succ_cons, List.take_succ_cons]
    exact ⟨a, r.take k, F1, F', rfl, rfl, RC.cut q.1 hx, t'⟩
end
/-- the store cut to the cells that were there -/
def trunc (n : Nat) : MR UV → MR UV
  | .ok u h => if refsLt n u = true ∧ (h.take n).all (celLt n) = true then .ok u (h.take n) else .bad
  | .err e h => if (h.take n).all (celLt n) = true then .err e (h.take n) else .bad
  | .bad => .bad
theorem Ext.cut {w w' : Wd} {H H' : Hp} {F' : List Addr} (e : Ext w H ⟨w'.ρ, w'.Z, F'⟩ H') {F'' : List Addr} (hs : ∀ a ∈ F'', a ∈ F') : Ext w H ⟨w'.ρ.take w.ρ.length, w'.Z, F''⟩ H' :=
  ⟨fun i a q => by
    show (w'.ρ.take w.ρ.length)[i]? = some a
    rw [List.getElem?_take_of_lt (List.getElem?_eq_some_iff.mp q).1]; exact e.rho i a q, e.z, e.keep, fun a q => e.new a (q.elim .inl fun q => .inr (hs a q)), e.there⟩
theorem CPo.trunc {c : Cg} {w : Wd} {H : Hp} {Q : VK} {E : XK} {r : MR UV} (h : CPo c w H Q E (trunc w.ρ.length r)) : CPo c w H Q E r := by
  cases r with
  | ok u h' =>
    intro w' H' v Fv mo rh ru
    have h : CPo c w H Q E (if refsLt w.ρ.length u = true ∧ (h'.take w.ρ.length).all (celLt w.ρ.length) = true then .ok u (h'.take w.ρ.length) else .bad) := h
    by_cases hq : refsLt w.ρ.length u = true ∧ (h'.take w.ρ.length).all (celLt w.ρ.length) = true
    · rw [if_pos hq] at h
      obtain ⟨F', s, rh'⟩ := RHl.cut w.ρ.length hq.2 rh
      refine h ⟨w'.ρ.take w.ρ.length, w'.Z, F'⟩ H' v Fv ⟨Ext.cut mo.1 fun a ha => ?_, ?_⟩ rh' (RU.cut hq.1 ru)
      · rcases List.mem_append.mp ha with q | q
        · exact List.mem_append_left _ (s.subset q)
        · exact List.mem_append_right _ q
      · have o1 := mo.2.less (List.Sublist.append_right s Fv)
        exact ⟨o1.nd, o1.sep, o1.trF, o1.trZ⟩
    · rw [if_neg hq] at h
      exact h.elim
  | err e h' =>
    intro w' H' cls dx e' ok' rh rx
    have h : CPo c w H Q E (if (h'.take w.ρ.length).all (celLt w.ρ.length) = true then .err e (h'.take w.ρ.length) else .bad) := h
    by_cases hq : (h'.take w.ρ.length).all (celLt w.ρ.length) = true
    · rw [if_pos hq] at h
      obtain ⟨F', s, rh'⟩ := RHl.cut w.ρ.length hq rh
      have o1 : WOk ⟨w'.ρ, w'.Z, F'⟩ H' := ok'.less s
      exact h ⟨w'.ρ.take w.ρ.length, w'.Z, F'⟩ H' cls dx (Ext.cut (w' := w') e' fun a ha => s.subset ha) ⟨o1.nd, o1.sep, o1.trF, o1.trZ⟩ rh' rx
    · rw [if_neg hq] at h
      exact h.elim
  | bad => exact h
/-- the function of a body whose new cells are given up -/
def fnT (N : Nat) (b : MS) : MF := fun us h => trunc h.length (fnM N b us h)
theorem spM_T {c : Cg} {n N : Nat} {b : MS} {vs : List V} {H : Hp} {Q : VK} {E : XK} (h : spM c n (fnT N b) vs H Q E) : spM c n (fnM N b) vs H Q E := by
  obtain ⟨hn, w, us, hd, ok, rh, ru, p⟩ := h
  refine ⟨hn, w, us, hd, ok, rh, ru, ?_⟩
  unfold fnT at p
  rw [← RHl.length rh] at p
  exact CPo.trunc p
end MM

/-! MM15: a try statement with several named clauses; the caught exception is data. -/
namespace MM
open PySem PySem.Spec PyProof.Rows L2

/-! ### the caught exception is tracked -/
theorem caught_ok {P : Program} {w : World} {H : Hp} {h : Heap} {a : Addr} {cls : Value} {d : Option Addr} {ob : Obj} {vs : Array Value} (e : h.get? a = some ob) (z : Zc cls d ob) (f : ob.data = .fields vs) : ObjOk P w H h a (caught a cls d) :=
  ⟨⟨ob, vs, e, z, f⟩, ⟨ob, e⟩, fun _ _ ⟨o, v, q, r⟩ k => ⟨o, v, k o q, r⟩⟩
theorem caught_own {a b : Addr} {cls : Value} {d : Option Addr} : caught a cls d ≠ .own b := fun z => by
  have z2 : HO.ext _ = HO.own b := z
  cases z2
theorem caught_tup {a : Addr} {cls : Value} {d : Option Addr} {xs : List V} : caught a cls d ≠ .tup xs := fun z => by
  have z2 : HO.ext _ = HO.tup xs := z
  cases z2
section
variable {X : Cx} {pins : List (Addr × Obj)} {σ : L2.St} {H : Hp} {s s0 : Shared} {a : Addr}
/-- from a state in which a stood nowhere: it is told of a -/
theorem track {cls : Value} {d : Option Addr} {ob : Obj} {vs : Array Value} (J : Inv X pins σ H s0) (n0 : s0.heap.get? a = none) (I : Inv X pins σ H s) (e : s.heap.get? a = some ob) (z : Zc cls d ob) (f : ob.data = .fields vs) (na : H a = none) (nL : a ≠ X.env.locals) :
    Inv X pins σ (upd H a (caught a cls d)) s := by
  have old : ∀ {b : Addr} {o : Obj}, X.s_0.heap.get? b = some o → b ∉ X.ex → b ≠ a := fun {b o} h hx q => by
    obtain ⟨o2, e2⟩ := J.base.there b o h hx
    rw [q, n0] at e2
    cases e2
  have ne : ∀ {b : Addr} {o : HO}, H b = some o → b ≠ a := fun {b o} h q => by
    rw [q, na] at h
    cases h
  refine ⟨I.ok, I.os, I.bare, ⟨I.base.keep, I.base.slot, fun b o h n hx => ?_, I.base.there, fun b xs h => ?_, fun b o u h => ?_, fun b ps h => ?_⟩, I.loc, I.cell, ?_, fun x c h => ?_, fun p hp => ?_, fun b o h => ?_, I.len⟩
  · rw [upd_ne (old h hx)]
    exact I.base.free b o h n hx
  · have q := I.base.tups b xs h
    rw [upd_ne (ne q)]
    exact q
  · have q := I.base.frzs b o u h
    rw [upd_ne (ne q)]
    exact q
  · obtain ⟨m, q⟩ := I.base.tbls b ps h
    exact ⟨m, by rw [upd_ne (ne q)]; exact q⟩
  · rw [upd_ne (Ne.symm nL)]
    exact I.free
  · have nc : c ≠ a := fun q => by
      obtain ⟨v, o, h1, h2⟩ := I.cell x c h
      rw [q, e] at h1
      cases h1
      rw [f] at h2
      cases h2
    rw [upd_ne nc]
    exact I.freeC x c h
  · obtain ⟨q1, q2, q3⟩ := I.pin p hp
    have np : p.1 ≠ a := fun q => by
      have j := (J.pin p hp).1
      rw [q, n0] at j
      cases j
    exact ⟨q1, by rw [upd_ne np]; exact q2, q3⟩
  · by_cases hb : b = a
    · subst hb
      rw [upd_same] at h
      cases h
      exact caught_ok e z f
    · rw [upd_ne hb] at h
      refine (I.hok b o h).stay (fun _ _ _ q => q) (fun c q => ?_) fun c xs q => ?_
      · rw [upd_ne (ne q)]; exact q
      · rw [upd_ne (ne q)]; exact q
/-- into the suite, out of it -/
theorem inSuite (I : Inv X pins σ H s) (a : Addr) : Inv (X.suite a (X.pn ++ pins)) [] σ H s :=
  ⟨I.ok.suite _ _, I.os, I.bare, I.base, I.loc, I.cell, I.free, I.freeC, fun p hp => I.pin p (by simpa using hp), I.hok, I.len⟩
theorem offSuite {q : List (Addr × Obj)} (I : Inv (X.suite a (X.pn ++ pins)) q σ H s) (ok : X.Ok) : Inv X pins σ H s :=
  ⟨ok, I.os, I.bare, I.base, I.loc, I.cell, I.free, I.freeC, fun p hp => I.pin p (List.mem_append.mpr (.inl hp)), I.hok, I.len⟩
end

/-! ### clauses -/
def endAt (i : Option Nat) (D : Ends) : Ends := match i with
  | some i => { nx := fun σ' H' => D.nx (σ'.set i none) H', rt := D.rt, bk := fun σ' H' => D.bk (σ'.set i none) H', ct := fun σ' H' => D.ct (σ'.set i none) H' }
  | none => D
def putAt (i : Option Nat) (v : V) (σ : L2.St) : L2.St := match i with
  | some i => σ.set i (some v)
  | none => σ
/-- what the clauses want of an exception -/
def wCl (K : PySem.W.Frag) (Wout : WX) (D : Ends) : List (Value × Option Nat × TS) → WX
  | [] => Wout
  | (c, i, ts) :: r => fun cls d σ H => ∃ b, PySem.W.exmOne K cls c = some b ∧ (b = true → ∀ a, H a = none → ts (endAt i D) (putAt i (.ref a) σ) (upd H a (caught a cls d))) ∧ (b = false → wCl K Wout D r cls d σ H)
inductive Cls (X : Cx) : List ExceptHandler → List (Value × Option Nat × TS) → Prop
  | nil : Cls X [] []
  | named {x n : Str} {c : Value} {i : Nat} {ts : TS} {b₀ : Stmt} {su : List Stmt} {p1 p2 : Pos} {hd : List ExceptHandler} {l : List (Value × Option Nat × TS)} (hc : Names X x c) (hN : X.N.Nodup) (hi : X.N[i]? = some n) (hl : X.env.kindOf n = some .local)
      (hs : ∀ (a : Addr) (pn : List (Addr × Obj)), PSs (X.suite a pn) (b₀ :: su) ts) (r : Cls X hd l) : Cls X (.ExceptHandler (some (.Name x p1)) (some n) (b₀ :: su) p2 :: hd) ((c, some i, ts) :: l)
  | plain {x : Str} {c : Value} {ts : TS} {b₀ : Stmt} {su : List Stmt} {p1 p2 : Pos} {hd : List ExceptHandler} {l : List (Value × Option Nat × TS)} (hc : Names X x c)
      (hs : ∀ (a : Addr) (pn : List (Addr × Obj)), PSs (X.suite a pn) (b₀ :: su) ts) (r : Cls X hd l) : Cls X (.ExceptHandler (some (.Name x p1)) none (b₀ :: su) p2 :: hd) ((c, none, ts) :: l)
section
variable {X : Cx} {body : List Stmt} {c0 : ExceptHandler} {cr : List ExceptHandler} {l : List (Value × Option Nat × TS)} {pos : Pos} {tb : WX → TS} {Wout : WX}
/-- the clauses one after the other, the exception grounded: B its ground -/
theorem clauses_ok {B : Heap} {a : Addr} {pins : List (Addr × Obj)} {σ : L2.St} {H : Hp} {sI s : Shared} {cls : Value} {d : Option Addr} {D : Ends} {h3 : Heap} (ok : X.Ok) (hst : X.stack = X.env :: X.outer) (hf : X.env.frame = some X.env.locals) (tk : Takes X Wout)
    (J : Inv X pins σ H sI) (n0 : sI.heap.get? a = none) (nb : ∀ b o, sI.heap.get? b = some o → b ∉ frs X.stack → B.get? b = some o) (fl : HandSPX.FlyingZ B (X.env :: X.outer) a (Zc cls d) h3) (up : sI.heap.UpToSlots h3) (na : H a = none) (nL : a ≠ X.env.locals)
    (os : s.os = sI.os) (ag : AllBare s.gens) : ∀ {hd : List ExceptHandler} {l : List (Value × Option Nat × TS)}, Cls X hd l → wCl X.K Wout D l cls d σ H → wpAny (model X.prog X.w) X.A (handleBy (.ref a) X.env hd) (SP X pins D) X.xe { s with heap := h3 } := by
  have J3 : Inv X pins σ H { s with heap := h3 } := J.landed nb fl.1 up os ag
  obtain ⟨oe, vs, he, hz, hda⟩ := fl.there
  have looks : PySem.W.Looks (model X.prog X.w) h3 (typeOf (.ref a)) cls := fun _ _ _ _ k q => wpAny_typeOf_ref (k _ _ he) (by rw [hz.1]; exact q)
  have asked : ∀ {x : Str} {c : Value} {p : Pos} {Q : Value → Shared → Prop} {E : Value → Shared → Prop}, Names X x c → Q c { s with heap := h3 } → wpAny (model X.prog X.w) (X.A.mark (some (.ref a))) (eval (.Name x p) X.env) Q E { s with heap := h3 } := fun {x c p Q E} hc q => by
    obtain ⟨g, nd, m | ⟨m, bv, nn⟩⟩ := hc
    · exact ld_glob (X := X.suite a (X.pn ++ pins)) (inSuite J3 a) g m q nd
    · exact ld_blt (X := X.suite a (X.pn ++ pins)) (inSuite J3 a) g m bv q nn nd
  -- at the suite's first row
  have there : ∀ {h4 : Heap}, HandSPX.FlyingZ B (X.env :: X.outer) a (Zc cls d) h4 → h3.UpToSlots h4 → Inv (X.suite a (X.pn ++ pins)) [] σ (upd H a (caught a cls d)) { s with heap := h4 } := fun {h4} f4 u4 => by
    obtain ⟨o4, v4, e4, z4, d4⟩ := f4.there
    exact inSuite (track J n0 (J.landed (s' := { s with heap := h4 }) nb f4.1 (up.trans u4) os ag) e4 z4 d4 na nL) a
  intro hd l cs
  induction cs with
  | nil =>
    intro w
    refine wpAny_handleBy_nil ?_
    obtain ⟨_, _, _, o1, v1, T, _, _, g1, _, g2, g3, _⟩ := id fl
    unfold PySem.passOn
    refine wpAny_bind (wpAny_field g1 g2 g3 ?_)
    rw [if_neg (by simp : ¬ (Value.ref T == Value.none) = true)]
    have up2 : wpAny (model X.prog X.w) X.A (setFlight (.ref a) X.env.frame) (fun _ t => wpAny (model X.prog X.w) X.A (throw (.ref a) : Sem Flow) (SP X pins D) X.xe t) X.xe { s with heap := h3 } := by
      rw [hf]
      exact HandSPX.setFlight_upZ fl fun h5 hh u5 => wpAny_throw (tk _ _ ⟨a, B, sI, pins, σ, H, cls, d, rfl, J, nb, up.trans u5, .inr (.inr (by rw [hst]; exact hh)), na, os, ag, w⟩)
    first
      | exact wpAny_bind (wpAny_pure (wpAny_bind up2))
      | exact wpAny_bind up2
  | @named x n c i ts b₀ su p1 p2 hd2 l2 hc hN hi hl hs r ih =>
    rintro ⟨b, hb, yes, no⟩
    refine wpAny_handleBy_cons (codeAny_handlers_test (asked hc ((PySem.W.exm_one (M := model X.prog X.w) J3.kIn looks hb).here ?_))) fun q => nomatch q
    cases b with
    | false => exact ih (no rfl)
    | true =>
      refine codeAny_handlers_suite_as (HandSPX.lands_againZ fl fun h4 f4 u4 => ?_)
      refine store_ok (X := X.suite a (X.pn ++ pins)) (v := .ref a) (there f4 u4) hN hi (.inl hl) rfl (fun s5 S5 => ?_) (.inr hl)
      refine wpAny_mono ((hs a (X.pn ++ pins)).run [] s5 _ _ (endAt (some i) D) S5 (yes rfl a na)) (fun f s6 sp => ?_) fun _ _ z => z.elim
      have goes : ∀ {σ6 : L2.St} {H6 : Hp} {Q : Shared → Prop}, Inv (X.suite a (X.pn ++ pins)) [] σ6 H6 s6 → (∀ t, Inv X pins (σ6.set i none) H6 t → Q t) → wpAny (model X.prog X.w) X.A (do bindName X.env n .none; unbindBehindTheSuite X.env n p2) (fun _ t => Q t) X.xe s6 := fun S6 q => gone_ok (offSuite S6 ok) hN hi hl q
      cases f with
      | next => obtain ⟨_, _, S6, q6⟩ := sp; exact goes S6 fun t T => ⟨_, _, T, q6⟩
      | brk => obtain ⟨_, _, S6, q6⟩ := sp; exact goes S6 fun t T => ⟨_, _, T, q6⟩
      | cont => obtain ⟨_, _, S6, q6⟩ := sp; exact goes S6 fun t T => ⟨_, _, T, q6⟩
      | ret u => obtain ⟨_, _, _, S6, r6, q6⟩ := sp; exact goes S6 fun t T => ⟨_, _, _, T, r6, q6⟩
  | @plain x c ts b₀ su p1 p2 hd2 l2 hc hs r ih =>
    rintro ⟨b, hb, yes, no⟩
    refine wpAny_handleBy_cons (codeAny_handlers_test (asked hc ((PySem.W.exm_one (M := model X.prog X.w) J3.kIn looks hb).here ?_))) fun q => nomatch q
    cases b with
    | false => exact ih (no rfl)
    | true =>
      refine codeAny_handlers_suite (HandSPX.lands_againZ fl fun h4 f4 u4 => ?_)
      refine wpAny_mono ((hs a (X.pn ++ pins)).run [] _ _ _ (endAt none D) (there f4 u4) (yes rfl a na)) (fun f s6 sp => ?_) fun _ _ z => z.elim
      cases f with
      | next => obtain ⟨_, _, S6, q6⟩ := sp; exact ⟨_, _, offSuite S6 ok, q6⟩
      | brk => obtain ⟨_, _, S6, q6⟩ := sp; exact ⟨_, _, offSuite S6 ok, q6⟩
      | cont => obtain ⟨_, _, S6, q6⟩ := sp; exact ⟨_, _, offSuite S6 ok, q6⟩
      | ret u => obtain ⟨_, _, _, S6, r6, q6⟩ := sp; exact ⟨_, _, _, offSuite S6 ok, r6, q6⟩
theorem ps_tryN (hst : X.stack = X.env :: X.outer) (hf : X.env.frame = some X.env.locals) (tk : Takes X Wout)
    (hb : ∀ (W : WX) (pn : List (Addr × Obj)) (xe : Value → Shared → Prop), Takes (X.tr pn xe) W → PassesOwn (model X.prog X.w) X.A X.env xe → PSs (X.tr pn xe) body (tb W))
    (hc : Cls X (c0 :: cr) l) : PS X (.Try body (c0 :: cr) [] [] pos) (fun D σ H => tb (wCl X.K Wout D l) D σ H) := by
  refine ⟨fun pins s σ H D I h => ?_⟩
  have ok := I.ok
  have fr : X.A.frames = some (X.env :: X.outer) := by rw [ok.frames, hst]
  let xe : Value → Shared → Prop := fun e t => wpAny (model X.prog X.w) X.A (noteFrame e X.env) (fun _ t2 => wpAny (model X.prog X.w) X.A (setFlight e none) (fun _ t3 => wpAny (model X.prog X.w) X.A (handleBy e X.env (c0 :: cr)) (SP X pins D) X.xe t3) X.xe t2) X.xe t
  refine wpAny_Try_except (wpAny_mono ((hb (wCl X.K Wout D l) (X.pn ++ pins) xe (fun u t q => ?_) PassesOwn.looking).run [] s σ H D (I.toTry _) h) (fun f s1 sp => ?_) fun _ _ z => z)
  · obtain ⟨a, B, sI, pins', σ', H', cls, d, rfl, J', nb, up, sky, na, os, ag, w⟩ := q
    have J : Inv X pins σ' H' sI := J'.ofTry ok
    have sky2 : Sky B (X.env :: X.outer) a (Zc cls d) X.env.locals t.heap := by rw [← hst]; exact sky
    have nB : B.get? a = none := by
      rcases sky2 with ⟨_, q, _⟩ | q | q
      · exact q
      · exact q.2.1
      · exact q.2.1
    show wpAny (model X.prog X.w) X.A (noteFrame (.ref a) X.env) _ _ _
    refine Sky.land Zc.steady fr hf sky2 fun h3 fl up3 => ?_
    obtain ⟨oe, vs, he, hz, hda⟩ := fl.there
    have nfr : a ∉ frs (X.env :: X.outer) := fun hm => by
      obtain ⟨_, o2, e2, nf⟩ := fl.2.2.1.mem hm
      rw [he] at e2
      cases e2
      exact nf _ hda
    have nL : a ≠ X.env.locals := fun z => nfr (List.mem_filterMap.mpr ⟨X.env, List.mem_cons_self, by rw [hf, z]⟩)
    have n0 : sI.heap.get? a = none := by
      cases q : sI.heap.get? a with
      | none => rfl
      | some o => have := nb a o q (by rw [hst]; exact nfr); rw [nB] at this; cases this
    exact clauses_ok ok hst hf tk J n0 nb fl (up.trans up3) na nL os ag hc w
  · cases f with
    | next => obtain ⟨_, _, S6, q6⟩ := sp; exact wpAny_execs_nil ⟨_, _, S6.ofTry ok, q6⟩
    | brk => obtain ⟨_, _, S6, q6⟩ := sp; exact ⟨_, _, S6.ofTry ok, q6⟩
    | cont => obtain ⟨_, _, S6, q6⟩ := sp; exact ⟨_, _, S6.ofTry ok, q6⟩
    | ret u => obtain ⟨_, _, _, S6, r6, q6⟩ := sp; exact ⟨_, _, _, S6.ofTry ok, r6, q6⟩
end
end MM

/-! MM16: exceptions: try, raise, e.f, isinstance(e, C). -/
namespace MM
open PySem PySem.Spec PyProof.Rows L2

/-! ### what owns is a list, a dict or an object -/
def OwnK (H : Hp) (a : Addr) : Prop := (∃ xs, H a = some (.lst xs)) ∨ (∃ k, H a = some (.dK k)) ∨ (∃ k, H a = some (.dT k)) ∨ (∃ C d f, H a = some (.ins C d f)) ∨ ∃ ps, H a = some (.tbl ps)
section
variable {c : Cg} {Z : Addr → Prop} {H : Hp} {ρ : List Addr}
theorem memCons {a b : Addr} {P : Addr → Prop} {G F : List Addr} (e : F = a :: G) (h1 : P a) (h2 : ∀ x ∈ G, P x) (hb : b ∈ F) : P b := by
  rw [e] at hb
  rcases List.mem_cons.mp hb with q | q
  · rw [q]; exact h1
  · exact h2 b q
theorem memApp2 {b : Addr} {P : Addr → Prop} {G1 G2 F : List Addr} (e : F = G1 ++ G2) (h1 : ∀ x ∈ G1, P x) (h2 : ∀ x ∈ G2, P x) (hb : b ∈ F) : P b := by
  rw [e] at hb
  exact (List.mem_append.mp hb).elim (h1 b) (h2 b)
mutual
theorem RU.kind : ∀ {u : UV} {v : V} {F : List Addr}, RU c Z H ρ u v F → ∀ a ∈ F, OwnK H a
  | .d _, _, _, h => fun a ha => by rw [h.1] at ha; cases ha
  | .ref _, _, _, h => fun a ha => by rw [h.1] at ha; cases ha
  | .tp _, _, _, ⟨_, _, _, _, _, r⟩ => RUl.kind r
  | .fl _, _, _, ⟨_, _, _, _, _, r⟩ => RUl.kind r
  | .own _, _, _, ⟨a, vs, G, _, h, e, r⟩ => fun b hb => memCons e (.inl ⟨_, h⟩) (RUl.kind r) hb
  | .odK _, _, _, ⟨a, vs, G, _, h, e, r⟩ => fun b hb => memCons e (.inr (.inl ⟨_, h⟩)) (RUk.kind r) hb
  | .odT _, _, _, ⟨a, vs, G, _, h, e, r⟩ => fun b hb => memCons e (.inr (.inr (.inl ⟨_, h⟩))) (RUt.kind r) hb
  | .clo _ _, _, _, h => fun a ha => by rw [h.1] at ha; cases ha
theorem RUl.kind : ∀ {u : List UV} {v : List V} {F : List Addr}, RUl c Z H ρ u v F → ∀ a ∈ F, OwnK H a
  | [], _, _, h => fun a ha => by rw [h.2] at ha; cases ha
  | _ :: _, _, _, ⟨v, r, F1, F2, _, e, h, t⟩ => fun b hb => memApp2 e (RU.kind h) (RUl.kind t) hb
theorem RUk.kind : ∀ {u : List (Key × UV)} {v : List (Key × V)} {F : List Addr}, RUk c Z H ρ u v F → ∀ a ∈ F, OwnK H a
  | [], _, _, h => fun a ha => by rw [h.2] at ha; cases ha
  | (_, _) :: _, _, _, ⟨v, r, F1, F2, _, e, h, t⟩ => fun b hb => memApp2 e (RU.kind h) (RUk.kind t) hb
theorem RUt.kind : ∀ {u : List (List Key × UV)} {v : List (List Key × V)} {F : List Addr}, RUt c Z H ρ u v F → ∀ a ∈ F, OwnK H a
  | [], _, _, h => fun a ha => by rw [h.2] at ha; cases ha
  | (_, _) :: _, _, _, ⟨v, r, F1, F2, _, e, h, t⟩ => fun b hb => memApp2 e (RU.kind h) (RUt.kind t) hb
end
theorem RUf.kind : ∀ {u : List (Str × UV)} {v : List (Str × V)} {F : List Addr}, RUf c Z H ρ u v F → ∀ a ∈ F, OwnK H a
  | [], _, _, h => fun a ha => by rw [h.2] at ha; cases ha
  | (_, _) :: _, _, _, ⟨v, r, F1, F2, _, e, h, t⟩ => fun b hb => memApp2 e (RU.kind h) (RUf.kind t) hb
theorem RC.kind : ∀ {x : Cel} {a : Addr} {F : List Addr}, RC c Z H ρ x a F → ∀ b ∈ F, OwnK H b
  | .lst _, _, _, ⟨vs, G, h, e, r⟩ => fun b hb => memCons e (.inl ⟨_, h⟩) (RUl.kind r) hb
  | .dK _, _, _, ⟨vs, G, h, e, r⟩ => fun b hb => memCons e (.inr (.inl ⟨_, h⟩)) (RUk.kind r) hb
  | .dT _, _, _, ⟨vs, G, h, e, r⟩ => fun b hb => memCons e (.inr (.inr (.inl ⟨_, h⟩))) (RUt.kind r) hb
  | .obj _ _, _, _, ⟨Ca, dx, gs, G, m, h, e, r⟩ => fun b hb => memCons e (.inr (.inr (.inr (.inl ⟨_, _, _, h⟩)))) (RUf.kind r) hb
  | .tab _ _, _, _, ⟨_, e, ps, h, _⟩ => fun b hb => memCons e (.inr (.inr (.inr (.inr ⟨_, h⟩)))) (fun _ z => nomatch z) hb
theorem RHl.kind : ∀ {h : HS} {l : List Addr} {F : List Addr}, RHl c Z H ρ h l F → ∀ a ∈ F, OwnK H a
  | [], _, _, h => fun a ha => by rw [h.2] at ha; cases ha
  | _ :: _, _, _, ⟨a, r, F1, F2, _, e, h, t⟩ => fun b hb => memApp2 e (RC.kind h) (RHl.kind t) hb
theorem RS.kind : ∀ {s : SL} {l : L2.St} {F : List Addr}, RS c Z H ρ s l F → ∀ a ∈ F, OwnK H a
  | [], _, _, h => fun a ha => by rw [h.2] at ha; cases ha
  | none :: _, _, _, ⟨o, r, _, t⟩ => RS.kind t
  | some _ :: _, _, _, ⟨v, r, F1, F2, _, e, h, t⟩ => fun b hb => memApp2 e (RU.kind h) (RS.kind t) hb
theorem OwnK.xd {a : Addr} {gs : List (Str × V)} (h : OwnK H a) (e : H a = some (.xd gs)) : False := by
  rcases h with ⟨_, h⟩ | ⟨_, h⟩ | ⟨_, h⟩ | ⟨_, _, _, h⟩ | ⟨_, h⟩ <;> · rw [e] at h; cases h
end

/-! ### the classes' tables -/
structure ExT where
  sg : Str → Str → Option Bool
  st : Str → String → Option Bool
  fl : Str → Str → Bool
structure ExOk (K : PySem.W.Frag) (mg : Str → Option Value) (T : ExT) : Prop where
  g : ∀ C Ca x Da b, mg C = some (.ref Ca) → mg x = some (.ref Da) → T.sg C x = some b → PySem.W.exmOne K (.ref Ca) (.ref Da) = some b ∧ PySem.W.kitOne K (.ref Ca) (.ref Da) = some b ∧ ExcC K Ca
  t : ∀ C Ca n b, mg C = some (.ref Ca) → T.st C n = some b → PySem.W.exmOne K (.ref Ca) (.type n) = some b ∧ PySem.W.kitOne K (.ref Ca) (.type n) = some b ∧ ExcC K Ca
  f : ∀ C Ca f, mg C = some (.ref Ca) → T.fl C f = true → XfC K Ca ∧ PySem.W.findIn K (.ref Ca) f = some none

/-! ### try -/
def putR (i : Option Nat) (e : Exn) (σ : SL) : SL := match i with
  | some i => σ.set i (some (.d (.exn e.cls e.fs)))
  | none => σ
def goR (i : Option Nat) (σ : SL) : SL := match i with
  | some i => σ.set i none
  | none => σ
def endR (i : Option Nat) : RS' → RS'
  | .nx σ h => .nx (goR i σ) h
  | .bk σ h => .bk (goR i σ) h
  | .ct σ h => .ct (goR i σ) h
  | .rt u h => .rt u h
  | .ex _ _ _ => .bad
  | .bad => .bad
def catchM (e : Exn) : List ((Str → Option Bool) × Option Nat × MS) → MS
  | [] => fun σ h => .ex e σ h
  | (k, i, m) :: r => fun σ h => match k e.cls with
    | some true => endR i (m (putR i e σ) h)
    | some false => catchM e r σ h
    | none => .bad
def sTry (b : MS) (cl : List ((Str → Option Bool) × Option Nat × MS)) : MS := fun σ h => match b σ h with
  | .ex e σ' h' => catchM e cl σ' h'
  | r => r
section
variable {X : Cx} {c : Cg} {W : WX} {σ : L2.St} {H : Hp} {D : Ends}
theorem RS.blank {Z : Addr → Prop} {ρ : List Addr} : ∀ {s : SL} {l : L2.St} {F : List Addr} (i : Nat), RS c Z H ρ s l F → ∃ F', F'.Sublist F ∧ RS c Z H ρ (s.set i none) (l.set i none) F'
  | [], _, _, i, h => by
    rw [h.1, h.2]
    exact ⟨[], List.Sublist.refl _, ⟨rfl, rfl⟩⟩
  | none :: s, _, F, 0, ⟨o, r, e, t⟩ => by rw [e]; exact ⟨F, List.Sublist.refl _, ⟨none, r, rfl, t⟩⟩
  | some x :: s, _, _, 0, ⟨v, r, F1, F2, e, eF, h, t⟩ => by rw [e, eF]; exact ⟨F2, List.sublist_append_right _ _, ⟨none, r, rfl, t⟩⟩
  | none :: s, _, F, i + 1, ⟨o, r, e, t⟩ => by
    obtain ⟨F', h1, h2⟩ := RS.blank i t
    rw [e]
    exact ⟨F', h1, ⟨o, _, rfl, h2⟩⟩
  | some x :: s, _, _, i + 1, ⟨v, r, F1, F2, e, eF, h, t⟩ => by
    obtain ⟨F', h1, h2⟩ := RS.blank i t
    rw [e, eF]
    exact ⟨F1 ++ F', List.Sublist.append_left h1 F1, ⟨v, _, F1, F', rfl, rfl, h, h2⟩⟩
theorem Sta.blank {w : Wd} {Fs : List Addr} {σd : SL} {hd : HS} (S : Sta c w Fs σd hd σ H) (i : Nat) : ∃ Fs', Sta c w Fs' (σd.set i none) hd (σ.set i none) H ∧ Ext (full w Fs) H (full w Fs') H := by
  obtain ⟨F', h1, h2⟩ := RS.blank i S.s
  exact ⟨F', ⟨h2, S.h, S.ok.less (List.Sublist.append_right h1 _)⟩, Ext.sub fun a ha => (List.mem_append.mp ha).elim (fun q => List.mem_append_left _ (h1.subset q)) (fun q => List.mem_append_right _ q)⟩
theorem endR_ok {W' : WX} {i : Option Nat} {w0 : Wd} {r : RS'} (p : SPo c W w0 H D (endR i r)) : SPo c W' w0 H (endAt i D) r := by
  cases r with
  | rt u h => cases i <;> exact p
  | ex e σ h => exact p.elim
  | bad => exact p.elim
  | nx σd h =>
    cases i with
    | none => exact p
    | some i => exact fun w' Fs' σ' H' e S => let ⟨F2, S2, x2⟩ := S.blank i; p w' F2 _ H' (e.trans S.ok x2) S2
  | bk σd h =>
    cases i with
    | none => exact p
    | some i => exact fun w' Fs' σ' H' e S => let ⟨F2, S2, x2⟩ := S.blank i; p w' F2 _ H' (e.trans S.ok x2) S2
  | ct σd h =>
    cases i with
    | none => exact p
    | some i => exact fun w' Fs' σ' H' e S => let ⟨F2, S2, x2⟩ := S.blank i; p w' F2 _ H' (e.trans S.ok x2) S2
/-- the exception in hand -/
theorem Sta.caught {w : Wd} {Fs : List Addr} {σd : SL} {hd : HS} {e : Exn} {cls : Value} {dx : Option Addr} {a : Addr} (S : Sta c w Fs σd hd σ H) (rx : RX c w.Z H e cls dx) (na : H a = none) (i : Option Nat) :
    ∃ w2 Fs2, Ext (full w Fs) H (full w2 Fs2) (upd H a (MM.caught a cls dx)) ∧ Sta c w2 Fs2 (putR i e σd) hd (putAt i (.ref a) σ) (upd H a (MM.caught a cls dx)) := by
  obtain ⟨Ca, d, gs, rfl, hm, rfl, zd, ed, r⟩ := rx
  let H2 := upd H a (MM.caught a (.ref Ca) (some d))
  have kp : ∀ b o, H b = some o → H2 b = some o := fun b o h => upd_keep na b o h
  have th : ∀ b, H b ≠ none → H2 b ≠ none := fun b h => upd_there b h
  have nF : ∀ b ∈ Fs ++ w.F, b ≠ a := fun b hb => fun q => S.ok.trF b hb (by rw [q]; exact na)
  let w2 : Wd := ⟨w.ρ, fun b => w.Z b ∨ b = a, w.F⟩
  have hz : ∀ b, w.Z b → w2.Z b := fun b z => .inl z
  have ok2 : WOk (full w2 Fs) H2 := ⟨S.ok.nd, fun b hb z => by
      rcases z with z | z
      · exact S.ok.sep b hb z
      · exact nF b hb z, fun b hb => th b (S.ok.trF b hb), fun b z => by
      rcases z with z | z
      · exact th b (S.ok.trZ b z)
      · rw [z]; show upd H a _ a ≠ none; rw [upd_same]; exact fun q => nomatch q⟩
  have S2 : Sta c w2 Fs σd hd σ H2 := ⟨RS.mono (fun _ _ q => q) hz (fun b o _ q => kp b o q) (fun b _ o q => kp b o q) S.s, RHl.mono (fun _ _ q => q) hz (fun b o _ q => kp b o q) (fun b _ o q => kp b o q) S.h, ok2⟩
  have x2 : Ext (full w Fs) H (full w2 Fs) H2 := ⟨fun _ _ q => q, hz, fun b o q _ => kp b o q, fun b q => by
    rcases q with (q | q) | q
    · exact .inl q
    · exact .inr (.inr (by rw [q]; exact na))
    · exact .inr (.inl q), th⟩
  cases i with
  | none => exact ⟨w2, Fs, x2, S2⟩
  | some i =>
    have rd : RU c w2.Z H2 w2.ρ (.d (.exn e.cls e.fs)) (.ref a) [] := ⟨rfl, a, d, Ca, gs, rfl, hm, .inr rfl, upd_same, .inl zd, kp _ _ ed, RDf.mono hz (fun b o _ q => kp b o q) r⟩
    obtain ⟨F3, S3, x3⟩ := S2.put (i := i) (Fv := []) (by rw [fullv_nil]; exact ok2) rd
    rw [fullv_nil] at x3
    exact ⟨w2, F3, x2.trans ok2 x3, S3⟩
/-- the clauses' suites -/
inductive ClM (c : Cg) (K : PySem.W.Frag) : List ((Str → Option Bool) × Option Nat × MS) → List (Value × Option Nat × TS) → Prop
  | nil : ClM c K [] []
  | cons {k : Str → Option Bool} {i : Option Nat} {m : MS} {v : Value} {W' : WX} {r : List ((Str → Option Bool) × Option Nat × MS)} {l : List (Value × Option Nat × TS)} (hk : ∀ C Ca b, c.mg C = some (.ref Ca) → k C = some b → PySem.W.exmOne K (.ref Ca) v = some b) (t : ClM c K r l) :
      ClM c K ((k, i, m) :: r) ((v, i, tS c W' m) :: l)
theorem catch_ok {K : PySem.W.Frag} {e : Exn} {cls : Value} {dx : Option Addr} {w : Wd} {Fs : List Addr} {hd : HS} {σd : SL} : ∀ {cl : List ((Str → Option Bool) × Option Nat × MS)} {l : List (Value × Option Nat × TS)}, ClM c K cl l → Sta c w Fs σd hd σ H → RX c w.Z H e cls dx →
    SPo c W (full w Fs) H D (catchM e cl σd hd) → wCl K W D l cls dx σ H
  | _, _, .nil, S, rx, p => p w Fs σ H cls dx Ext.refl S rx
  | _, _, .cons (k := k) (i := i) (m := m) hk t, S, rx, p => by
    obtain ⟨Ca, d, gs, e1, hm, e2, _⟩ := id rx
    unfold catchM at p
    cases q : k e.cls with
    | none => simp only [q] at p; exact p.elim
    | some b =>
      refine ⟨b, by rw [e1]; exact hk _ _ _ hm q, fun hb a na => ?_, fun hb => ?_⟩
      · subst hb
        simp only [q] at p
        obtain ⟨w2, Fs2, x2, S2⟩ := S.caught rx na i
        exact ⟨w2, Fs2, _, hd, S2, endR_ok (SPo.shift x2 S2.ok p)⟩
      · subst hb
        simp only [q] at p
        exact catch_ok t S rx p
theorem s_try {body : List Stmt} {c0 : ExceptHandler} {cr : List ExceptHandler} {l : List (Value × Option Nat × TS)} {pos : Pos} {mb : MS} {cl : List ((Str → Option Bool) × Option Nat × MS)} (hst : X.stack = X.env :: X.outer) (hf : X.env.frame = some X.env.locals) (tk : Takes X W)
    (hb : ∀ (W' : WX) (pn : List (Addr × Obj)) (xe : Value → Shared → Prop), Takes (X.tr pn xe) W' → PassesOwn (model X.prog X.w) X.A X.env xe → PSs (X.tr pn xe) body (tS c W' mb))
    (hc : Cls X (c0 :: cr) l) (hm : ClM c X.K cl l) : PS X (.Try body (c0 :: cr) [] [] pos) (tS c W (sTry mb cl)) :=
  PS.imp (ps_tryN hst hf tk hb hc) fun D σ H ⟨w, Fs, σd, hd, S, p⟩ => ⟨w, Fs, σd, hd, S, by
    unfold sTry at p
    revert p
    cases mb σd hd with
    | ex e σ' h' => exact fun p w' Fs' σ2 H2 cls dx x S2 rx => catch_ok hm S2 rx (SPo.shift x S2.ok p)
    | nx σ' h' => exact fun p => p
    | bk σ' h' => exact fun p => p
    | ct σ' h' => exact fun p => p
    | rt u h' => exact fun p => p
    | bad => exact fun p => p⟩
end

/-! ### e.f -/
def tXfT (K : PySem.W.Frag) (f : Str) (te : TE) : TE := fun σ H Q => te σ H fun x H1 => ∃ (a Ca d : Addr) (gs : List (Str × V)) (v : V), x = .ref a ∧ H1 a = some (caught a (.ref Ca) (some d)) ∧ H1 d = some (.xd gs) ∧ XfC K Ca ∧ PySem.W.findIn K (.ref Ca) f = some none ∧ gs.lookup f = some v ∧ Q v H1
section
variable {X : Cx} {c : Cg} {W : WX} {m : ME} {pu : Bool} {e : Expr} {pos : Pos} {f : Str}
theorem caught_inst {pins : List (Addr × Obj)} {σ : L2.St} {H : Hp} {s : Shared} {a Ca d : Addr} {gs : List (Str × V)} (I : Inv X pins σ H s) (e1 : H a = some (caught a (.ref Ca) (some d))) (e2 : H d = some (.xd gs)) :
    ∃ (ob od : Obj), PySem.W.InstAt s.heap a ob Ca (some od) ∧ ∃ mA : Str → Option Value, (∀ f, PySem.W.lookIn f od = some (mA f)) ∧ ∀ f, RelO (gs.lookup f) (mA f) := by
  obtain ⟨⟨ob, vs, h1, hz, h2⟩, _, _⟩ := I.hok a _ e1
  obtain ⟨mA, hns, hr⟩ := (show ObjOk X.prog X.w H s.heap d (.xd gs) from I.hok d _ e2)
  obtain ⟨od, ho, hl⟩ := lookIn_ns hns
  exact ⟨ob, od, ⟨h1, hz.1, by unfold PySem.W.notCls; rw [h2] <;> rfl, by rw [hz.2]; exact ho⟩, mA, hl, hr⟩
theorem pe_xfT {te : TE} (he : PE X e te) (hb : attributeBase e f X.env (eval e X.env) = eval e X.env := by rfl) : PE X (.Attribute e f pos) (tXfT X.K f te) := by
  refine ⟨fun pins s σ H Q I h => attr_of hb (thn (he.run pins s σ H _ I h) fun u s1 hh => ?_)⟩
  obtain ⟨x, H1, I1, rx, a, Ca, d, gs, v, rfl, e1, e2, T, hno, l, q⟩ := hh
  obtain rfl : u = Value.ref a := rx
  obtain ⟨ob, od, J, mA, hl, hr⟩ := caught_inst I1 e1 e2
  obtain ⟨u, hu, ru⟩ := RelO.some_of (v := v) (o := mA f) (by rw [← l]; exact hr f)
  exact HandSPX.exc_get I1.kIn J T.ga T.gg T.exC (PySem.W.findObj_own T.hdC hno rfl (by rw [hl, hu])) (handed_of ru) ⟨v, H1, I1.tok _, ru, q⟩
def mXf (T : ExT) (f : Str) (m : ME) : ME := fun σ h => bindM (m σ h) fun u h1 => match u with
  | .d (.exn C fs) => if T.fl C f = true then ofO ((fs.lookup f).map .d) h1 else .bad
  | _ => .bad
theorem RDf.look {Z : Addr → Prop} {H : Hp} {f : Str} {d : DV} : ∀ {fs : List (Str × DV)} {gs : List (Str × V)}, RDf c Z H fs gs → fs.lookup f = some d → ∃ v, gs.lookup f = some v ∧ RD c Z H d v
  | [], _, _, e => by cases e
  | (g, x) :: fs, _, ⟨v, r, e1, h, t⟩, e => by
    rw [e1]
    rw [List.lookup_cons] at e ⊢
    cases q : f == g with
    | true => rw [q] at e; cases e; exact ⟨v, rfl, h⟩
    | false => rw [q] at e; exact t.look e
theorem e_xf {T : ExT} (hT : ExOk X.K X.mg T) (hm : c.mg = X.mg) (he : PE X e (tV pu .C c W m)) (hb : attributeBase e f X.env (eval e X.env) = eval e X.env := by rfl) : PE X (.Attribute e f pos) (tV pu .E c W (mXf T f m)) :=
  PE.imp (pe_xfT he hb) fun σ H Q ⟨w, Fs, σd, hd, S, p⟩ => step1 (md := .C) S p fun u h1 w1 H1 x Fx S1 mo ru p1 => by
    split at p1
    · rename_i C fs
      split at p1
      · rename_i hf
        cases q : fs.lookup f with
        | none => rw [q] at p1; exact p1.elim
        | some d =>
          rw [q] at p1
          obtain ⟨_, a, dd, Ca, gs, rfl, hC, _, e1, _, e2, r⟩ := ru
          obtain ⟨v, l, rd⟩ := r.look q
          obtain ⟨h1, h2⟩ := hT.f C Ca f (by rw [← hm]; exact hC) hf
          exact ⟨a, Ca, dd, gs, v, rfl, e1, e2, h1, h2, l, fin_d p1 S1.wok S1.h rd⟩
      · exact p1.elim
    · exact p1.elim
end

/-! ### isinstance(e, C) -/
def rIsX (K : PySem.W.Frag) : List V → Hp → VK → Prop := fun xs H Q => ∃ (a Ca d : Addr) (gs : List (Str × V)) (cv : V) (u : Value) (b : Bool), xs = [.ref a, cv] ∧ ClsV cv u ∧ H a = some (caught a (.ref Ca) (some d)) ∧ H d = some (.xd gs) ∧ ExcC K Ca ∧ PySem.W.kitOne K (.ref Ca) u = some b ∧ Q (.bl b) H
section
variable {X : Cx} {c : Cg}
theorem call_isX : CallR X (.builtin "isinstance") (rIsX X.K) := by
  intro pins s σ H xs us Q I r h
  obtain ⟨a, Ca, d, gs, cv, u, b, rfl, k, e1, e2, C, e, q⟩ := h
  obtain ⟨u1, u2, rfl, r1, r2⟩ := vals2 r
  cases (show u1 = Value.ref a from r1)
  cases k.eq r2
  obtain ⟨ob, od, J, _⟩ := caught_inst I e1 e2
  have hcl : (PySem.W.clsIn X.K Ca).isSome = true := by
    obtain ⟨cd, hc, _⟩ := PySem.W.any_some C.hd
    rw [hc]
    rfl
  exact PySem.W.kia_one (PySem.W.kitx_exc hcl C.hg C.hk C.hs C.ha C.hn C.ht C.hm) I.kIn J e (fun z => nomatch z) fun tk => ⟨.bl b, H, I.tok tk, rfl, q⟩
def fIsX (T : ExT) : HS → UV → UV → Option UV := fun h u v => match u, v with
  | .d (.exn C _), .d (.glo x) => (T.sg C x).map fun b => .d (.bl b)
  | .d (.exn C _), .d (.ty n) => (T.st C n).map fun b => .d (.bl b)
  | u, v => fIsi h u v
theorem fIsX_ok {T : ExT} (hT : ExOk c.K c.mg T) : OpS c (fun x y H Q => rIsi c.K [x, y] H Q ∨ rIsX c.K [x, y] H Q) (fIsX T) := fun pu W σ w H h u u' x y Fx Fy z Q ok hh ru ru' e p => by
  unfold fIsX at e
  split at e
  · rename_i C fs x
    rw [Option.map_eq_some_iff] at e
    obtain ⟨b, e, rfl⟩ := e
    obtain ⟨_, a, d, Ca, gs, rfl, hC, _, e1, _, e2, r⟩ := ru
    obtain ⟨_, Da, rfl, hD⟩ := ru'
    obtain ⟨_, h2, h3⟩ := hT.g C Ca x Da b hC hD e
    exact .inr ⟨a, Ca, d, gs, .ref Da, .ref Da, b, rfl, .own Da, e1, e2, h3, h2, fin_d p ok hh rfl⟩
  · rename_i C fs n
    rw [Option.map_eq_some_iff] at e
    obtain ⟨b, e, rfl⟩ := e
    obtain ⟨_, a, d, Ca, gs, rfl, hC, _, e1, _, e2, r⟩ := ru
    rw [show y = _ from ru'.2]
    obtain ⟨_, h2, h3⟩ := hT.t C Ca n b hC e
    exact .inr ⟨a, Ca, d, gs, .ty n, .type n, b, rfl, .ty n, e1, e2, h3, h2, fin_d p ok hh rfl⟩
  · exact .inl (fIsi_ok pu W σ w H h _ _ x y Fx Fy z Q ok hh ru ru' e p)
end
end MM

/-! MM17: raise C(e, ..), C's own __init__ saying Base.__init__(self, ..) and storing its parameters. -/
namespace MM
open PySem PySem.Spec PyProof.Rows L2

/-- what the base class must say: Base.__init__ is ValueError's -/
structure IniB (K : PySem.W.Frag) (L : Addr) : Prop where
  hg : PySem.W.specialIn K (.ref L) "__getattribute__" = some (some (.builtin "type.__getattribute__"))
  hr : PySem.W.readsIn K L (.type "type") = true
  hi : PySem.W.findCls K (.ref L) (.type "type") "__init__" = some (.val (.builtin "ValueError.__init__"))
section
variable {X : Cx} {e : Expr} {es : List Expr} {ta : TA} {L : Str} {La : Addr} {p1 p2 pos : Pos}
/-- Base.__init__(self, ..) -/
theorem pe_binit {pl : Sem Bool} (B : IniB X.K La) (hg : Gl X L) (hm : X.mg L = some (.ref La)) (ha : PA X (e :: es) ta) (hdb : (L == ("__debug__" : Str)) = false := by decide)
    (hc : eval (.Call (.Attribute (.Name L p1) "__init__" p2) (e :: es) [] pos) X.env = (do
      let u ← eval (.Name L p1) X.env
      standAt p2.atName
      let (g, fst) ← holding [u] (getMethod u "__init__" pl)
      callWith pos g fst (backTo pos (starEach (e :: es) X.env)) (backToKw pos (keywordEach [] X.env))) := by rfl)
    (he : starEach (e :: es) X.env = (false, eval e X.env) :: starEach es X.env := by rfl) (hpl : (backTo pos (starEach es X.env)).any (·.1) = false := by rfl) :
    PE X (.Call (.Attribute (.Name L p1) "__init__" p2) (e :: es) [] pos) (tVeI X.K ta) := by
  refine ⟨fun pins s σ H Q I h => PySem.W.methodCall_KW (ld_glob I hg hm ?_ hdb) hc⟩
  refine PySem.W.method_cls I.kIn B.hg (PySem.W.cls_value I.kIn B.hr B.hi (by decide +kernel) ?_)
  show wpAny _ _ (callWith pos (Value.builtin "ValueError.__init__") [] (backTo pos (starEach (e :: es) X.env)) []) _ _ _
  refine PyProof.Rows.callWith_method1 (thn (ha.run pos pins _ σ H _ (I.tok _) h) fun us s1 q => ?_) he hpl
  obtain ⟨vs, H1, I1, r1, a, C, ws, rfl, hl, T, ea, q⟩ := q
  cases r1 with
  | @cons _ u0 _ ur ra rw' =>
    obtain rfl : u0 = Value.ref a := ra
    exact oinit_ok T I1 ea (by rw [← Paired.length rw', sizeLine_eq]; omega) fun s' J => ⟨.non, H1, J, rfl, q⟩
end
/-- the promise of such an __init__: the fields fs, in the order of the parameters -/
def spIni (C : Addr) (fs : List Str) : Sp := fun vs H Q E => ∃ a ys, vs = .ref a :: ys ∧ ys.length = fs.length ∧ H a = some (exo a C none) ∧
  ∀ d H', H d = none → d ≠ a → H' a = some (exo a C (some d)) → H' d = some (exd d (fs.zip ys).reverse) → (∀ b, b ≠ a → b ≠ d → H' b = H b) → Q .non H'
section
variable {P : Program} {w : World} {K : PySem.W.Frag} {mg : Str → Option Value} {base : Heap} {qual : Str} {st : Stmt} {fa C La : Addr} {fd : FuncData} {N : List Str} {k : Nat}
theorem ini1 {x f m : Str} {j : Nat} {p1 p2 p3 p4 p5 p6 q1 q2 q3 q4 : Pos} (F : Fun K "__init__" qual st fa fd) (hN : N = [("self" : Str), x]) (S : FnScope N N (defScope st)) (T : OexC K C) (B : IniB K La) (hno : PySem.W.findIn K (.ref C) f = some none)
    (hb : defBody st = [.Expr (.Call (.Attribute (.Name "LiftedError" p1) "__init__" p2) [.Name "self" p3, .Constant (.str m) j p4] [] p5) p6, .Assign [.Attribute (.Name "self" q1) f q2] (.Name x q3) q4])
    (hc : ∀ env : Env, ∃ pl : Sem Bool, eval (.Call (.Attribute (.Name "LiftedError" p1) "__init__" p2) [.Name "self" p3, .Constant (.str m) j p4] [] p5) env = (do
      let u ← eval (.Name "LiftedError" p1) env
      standAt p2.atName
      let (g, fst) ← holding [u] (getMethod u "__init__" pl)
      callWith p5 g fst (backTo p5 (starEach [.Name "self" p3, .Constant (.str m) j p4] env)) (backToKw p5 (keywordEach [] env))))
    (hL : (defScope st).names.lookup ("LiftedError" : Str) = some .globalImplicit) (hm : mg ("LiftedError" : Str) = some (.ref La)) (hs : (defScope st).names.lookup ("self" : Str) = some .local) (hxs : (defScope st).names.lookup x = some .local)
    (d4 : (x == ("__debug__" : Str)) = false := by decide) (d5 : (x == ("__classdict__" : Str)) = false := by decide) :
    FnOk P w K mg base (L2.CX P w) (k + 1) fa fd N (spIni C [f]) := by
  subst hN
  refine F.okX S (fun vs H Q E ⟨a, ys, e, l, _⟩ => by rw [e, List.length_cons, l]; rfl) fun cdv A outer s H vs Q E hr h => ?_
  rw [hb]
  obtain ⟨pl, hc⟩ := hc (cxOf (L2.CX P w) P w K mg base _ qual (defScope st) fa cdv A outer s H E).env
  refine ⟨_, pss_cons (ps_expr (pe_binit B hL hm (pa_cons (pe_var (i := 0) rfl (.inl hs) (by decide) (by decide)) (pa_cons pe_str pa_nil)) (by decide) hc) ?_) (pss_one (ps_ost (pe_var (i := 0) rfl (.inl hs) (by decide) (by decide)) (pe_var (i := 1) rfl (.inl hxs) d4 d5))), ?_⟩
  · rfl
  obtain ⟨a, ys, rfl, hl, ha, q⟩ := h
  match ys, hl with
  | [y], _ =>
    refine ⟨.ref a, rfl, a, C, [.str m], rfl, (by show 1 ≤ 1000; decide), T, ha, y, rfl, .ref a, rfl, a, C, rfl, T, hno, .inl ⟨ha, fun dx n ne => ?_⟩⟩
    exact q dx _ n ne upd_same (by rw [upd_ne ne, upd_same]; rfl) fun b h1 h2 => by rw [upd_ne h1, upd_ne h2]
theorem ini2 {x y f g m : Str} {j : Nat} {p1 p2 p3 p4 p5 p6 q1 q2 q3 q4 r1 r2 r3 r4 : Pos} (F : Fun K "__init__" qual st fa fd) (hN : N = [("self" : Str), x, y]) (S : FnScope N N (defScope st)) (T : OexC K C) (B : IniB K La) (hno : PySem.W.findIn K (.ref C) f = some none) (hno2 : PySem.W.findIn K (.ref C) g = some none)
    (hb : defBody st = [.Expr (.Call (.Attribute (.Name "LiftedError" p1) "__init__" p2) [.Name "self" p3, .Constant (.str m) j p4] [] p5) p6, .Assign [.Attribute (.Name "self" q1) f q2] (.Name x q3) q4, .Assign [.Attribute (.Name "self" r1) g r2] (.Name y r3) r4])
    (hc : ∀ env : Env, ∃ pl : Sem Bool, eval (.Call (.Attribute (.Name "LiftedError" p1) "__init__" p2) [.Name "self" p3, .Constant (.str m) j p4] [] p5) env = (do
      let u ← eval (.Name "LiftedError" p1) env
      standAt p2.atName
      let (g, fst) ← holding [u] (getMethod u "__init__" pl)
      callWith p5 g fst (backTo p5 (starEach [.Name "self" p3, .Constant (.str m) j p4] env)) (backToKw p5 (keywordEach [] env))))
    (hL : (defScope st).names.lookup ("LiftedError" : Str) = some .globalImplicit) (hm : mg ("LiftedError" : Str) = some (.ref La)) (hs : (defScope st).names.lookup ("self" : Str) = some .local) (hxs : (defScope st).names.lookup x = some .local) (hys : (defScope st).names.lookup y = some .local)
    (d4 : (x == ("__debug__" : Str)) = false := by decide) (d5 : (x == ("__classdict__" : Str)) = false := by decide) (d6 : (y == ("__debug__" : Str)) = false := by decide) (d7 : (y == ("__classdict__" : Str)) = false := by decide) :
    FnOk P w K mg base (L2.CX P w) (k + 1) fa fd N (spIni C [f, g]) := by
  subst hN
  refine F.okX S (fun vs H Q E ⟨a, ys, e, l, _⟩ => by rw [e, List.length_cons, l]; rfl) fun cdv A outer s H vs Q E hr h => ?_
  rw [hb]
  obtain ⟨pl, hc⟩ := hc (cxOf (L2.CX P w) P w K mg base _ qual (defScope st) fa cdv A outer s H E).env
  refine ⟨_, pss_cons (ps_expr (pe_binit B hL hm (pa_cons (pe_var (i := 0) rfl (.inl hs) (by decide) (by decide)) (pa_cons pe_str pa_nil)) (by decide) hc) ?_) (pss_cons (ps_ost (pe_var (i := 0) rfl (.inl hs) (by decide) (by decide)) (pe_var (i := 1) rfl (.inl hxs) d4 d5)) (pss_one (ps_ost (pe_var (i := 0) rfl (.inl hs) (by decide) (by decide)) (pe_var (i := 2) rfl (.inl hys) d6 d7)))), ?_⟩
  · rfl
  obtain ⟨a, ys, rfl, hl, ha, q⟩ := h
  match ys, hl with
  | [u, v], _ =>
    refine ⟨.ref a, rfl, a, C, [.str m], rfl, (by show 1 ≤ 1000; decide), T, ha, u, rfl, .ref a, rfl, a, C, rfl, T, hno, .inl ⟨ha, fun dx n ne => ?_⟩⟩
    refine ⟨v, rfl, .ref a, rfl, a, C, rfl, T, hno2, .inr ⟨dx, [(f, u)], upd_same, by rw [upd_ne ne, upd_same], (by show 1 ≤ 900; decide), ?_⟩⟩
    exact q dx _ n ne (by rw [upd_ne (Ne.symm ne), upd_same]) (by rw [upd_same]; rfl) fun b h1 h2 => by rw [upd_ne h2, upd_ne h1, upd_ne h2]
end

/-! ### raise -/
def uDs (us : List UV) : Option (List DV) := mapO uD us
def sRaise (C : Str) (fs : List Str) (ms : MAs) : MS := fun σ h => match ms σ h with
  | .ok us h1 => match uDs us with
    | some ds => .ex ⟨C, (fs.zip ds).reverse⟩ σ h1
    | none => .bad
  | .err e h1 => .ex e σ h1
  | .bad => .bad
section
variable {X : Cx} {c : Cg} {W : WX} {ms : MAs} {σ : L2.St} {H : Hp} {e : Expr} {es : List Expr} {x : Str} {p pos pos2 : Pos} {C fI : Addr} {k : Nat} {fd : FuncData} {ps fs : List Str}
theorem RDf.snoc {Z : Addr → Prop} {H : Hp} {f : Str} {d : DV} {v : V} (r : RD c Z H d v) : ∀ {fs : List (Str × DV)} {gs : List (Str × V)}, RDf c Z H fs gs → RDf c Z H (fs ++ [(f, d)]) (gs ++ [(f, v)])
  | [], _, t => by rw [show _ = [] from t]; exact ⟨v, [], rfl, r, rfl⟩
  | (_, _) :: _, _, ⟨v', r', e, h, t⟩ => by rw [e]; exact ⟨v', r' ++ [(f, v)], rfl, h, t.snoc r⟩
theorem RDf.zipR {Z : Addr → Prop} {H : Hp} : ∀ {fs : List Str} {ds : List DV} {vs : List V}, RDl c Z H ds vs → RDf c Z H (fs.zip ds).reverse (fs.zip vs).reverse
  | [], _, _, _ => by rw [List.zip_nil_left, List.zip_nil_left]; rfl
  | _ :: _, [], _, t => by rw [show _ = [] from t, List.zip_nil_right, List.zip_nil_right]; rfl
  | f :: fs, d :: ds, _, ⟨v, r, e, h, t⟩ => by
    rw [e, List.zip_cons_cons, List.zip_cons_cons, List.reverse_cons, List.reverse_cons]
    exact RDf.snoc h (RDf.zipR t)
theorem s_raise {a : Expr} {as : List Expr} (hcalm : X.calm = true) (tk : Takes X W) (hmg : c.mg = X.mg) (T : OexC X.K C) (iC : PySem.W.findIn X.K (.ref C) "__init__" = some (some (.ref fI))) (tI : PySem.W.typeIn X.K (.ref fI) = some (.type "function"))
    (F1 : FnOk X.prog X.w X.K X.mg X.base (L2.CX X.prog X.w) k fI fd ps (spIni C fs)) (hr : Room (k + 1) X.A) (hb : Binds X.K fd ps []) (hg : Gl X x) (hm : X.mg x = some (.ref C)) (ha : PA X (a :: as) (tAs false c W ms)) (hn : ArgN ms fs.length)
    (hlen : fs.length ≤ 1000 := by decide) (hdb : (x == ("__debug__" : Str)) = false := by decide) (he : starEach (a :: as) X.env = (false, eval a X.env) :: starEach as X.env := by rfl) (hpl : (backTo pos (starEach as X.env)).any (·.1) = false := by rfl) :
    PS X (.Raise (some (.Call (.Name x p) (a :: as) [] pos)) none pos2) (tS c W (sRaise x fs ms)) :=
  PS.imp (ps_raise hcalm tk (pmk_oex T iC tI F1 hr hb .nil (fun _ _ _ _ _ _ _ ⟨_, _, _, _, _, _, _, _, _, _, _, _, q⟩ => q.elim) hg hm ha hdb he hpl)) fun D σ H ⟨w, Fs, σd, hd, S, p⟩ => by
    refine ⟨w, Fs, σd, hd, S, ?_⟩
    unfold sRaise at p
    have hn' := hn σd hd
    revert p hn'
    cases ms σd hd with
    | err e h1 => exact fun p _ w' H' cls dx e' ok' rh rx => p w' Fs σ H' cls dx (e'.full Fs) (S.ext e' ok' rh) rx
    | bad => exact fun p _ => p
    | ok us h1 =>
      intro p hn' w1 H1 vs Fv mo pp rh ru
      have p : SPo c W (full w Fs) H D (match uDs us with
        | some ds => .ex ⟨x, (fs.zip ds).reverse⟩ σd h1
        | none => .bad) := p
      cases q : uDs us with
      | none => rw [q] at p; exact p.elim
      | some ds =>
        rw [q] at p
        have rd := uDs_ok q ru
        have hl : vs.length = fs.length := by rw [ru.length]; exact hn' us h1 rfl
        refine ⟨by rw [hl]; exact hlen, fun b nb => ⟨b, vs, by rw [List.append_nil], hl, upd_same, fun d H' nd ne e1 e2 e3 => ⟨rfl, d, (fs.zip vs).reverse, e1, e2, by rw [upd_ne ne] at nd; exact nd, ?_⟩⟩⟩
        have nd1 : H1 d = none := by rw [upd_ne ne] at nd; exact nd
        have eH : upd (del H' b) d (.xd (fs.zip vs).reverse) = upd H1 d (.xd (fs.zip vs).reverse) := by
          funext z
          by_cases hz : z = d
          · rw [hz, upd_same, upd_same]
          · rw [upd_ne hz, upd_ne hz]
            by_cases hzb : z = b
            · rw [hzb, del_same, nb]
            · rw [del_ne hzb, e3 z hzb hz, upd_ne hzb]
        rw [eH]
        have S1 := S.ext mo.ext.1 mo.ext.2 rh
        obtain ⟨x2, ok2⟩ := ext_tup (o := .xd (fs.zip vs).reverse) nd1 S1.ok
        let w2 : Wd := ⟨w1.ρ, fun z => w1.Z z ∨ z = d, w1.F⟩
        have hz : ∀ z, w1.Z z → w2.Z z := fun z q => .inl q
        have S2 : Sta c w2 Fs σd h1 σ (upd H1 d (.xd (fs.zip vs).reverse)) := ⟨RS.mono (fun _ _ q => q) hz (fun z o _ q => upd_keep nd1 z o q) (fun z _ o q => upd_keep nd1 z o q) S1.s, RH_updZ nd1 S1.h, ok2⟩
        exact p w2 Fs σ _ (.ref C) (some d) ((mo.ext.1.full Fs).trans S1.ok x2) S2 ⟨C, d, _, rfl, by rw [hmg]; exact hm, rfl, .inr rfl, upd_same, RDf.mono hz (fun z o _ q => upd_keep nd1 z o q) (RDf.zipR rd)⟩
end
end MM

/-! MM18: lambdas without parameters handed to defs: a closure is a value, its caught cells are tracked while it is abroad. -/
namespace MM
open PySem PySem.Spec PyProof.Rows L2
open Classical in
/-- without what T tells -/
noncomputable def drT (T : Addr → Prop) (H : Hp) : Hp := fun b => if T b then none else H b
open Classical in
/-- what T tells as in H, the rest as in H' -/
noncomputable def reT (T : Addr → Prop) (H H' : Hp) : Hp := fun b => if T b then H b else H' b
section
variable {T : Addr → Prop} {H H' : Hp} {b : Addr}
theorem drT_in (h : T b) : drT T H b = none := by unfold drT; rw [if_pos h]
theorem drT_out (h : ¬ T b) : drT T H b = H b := by unfold drT; rw [if_neg h]
theorem drT_some {o : HO} (h : drT T H b = some o) : ¬ T b ∧ H b = some o := by
  by_cases q : T b
  · rw [drT_in q] at h; cases h
  · rw [drT_out q] at h; exact ⟨q, h⟩
theorem reT_in (h : T b) : reT T H H' b = H b := by unfold reT; rw [if_pos h]
theorem reT_out (h : ¬ T b) : reT T H H' b = H' b := by unfold reT; rw [if_neg h]
end
/-- T tells tracked cells -/
def TCel (T : Addr → Prop) (H : Hp) : Prop := ∀ b, T b → ∃ o, H b = some (CelO b o)
section
variable {P : Program} {w : World} {T : Addr → Prop} {H H' : Hp} {h h' B : Heap} {fs : List Addr}
theorem hok_dr (x : HOk P w H h) (t : TCel T H) : HOk P w (drT T H) h := fun b u e => by
  obtain ⟨_, e⟩ := drT_some e
  refine (x b u e).stay (fun _ _ _ q => q) (fun c q => ?_) fun c xs q => ?_
  · rw [drT_out fun z => ?_]
    · exact q
    · obtain ⟨o, q2⟩ := t c z; rw [q] at q2; cases q2
  · rw [drT_out fun z => ?_]
    · exact q
    · obtain ⟨o, q2⟩ := t c z; rw [q] at q2; cases q2
theorem hok_re (x : HOk P w H' h') (t : TCel T H) (gone : ∀ b, T b → H' b = none) (kp : ∀ b o, T b → H b = some (CelO b o) → h'.get? b = some o) : HOk P w (reT T H H') h' := fun b u e => by
  by_cases q : T b
  · rw [reT_in q] at e
    obtain ⟨o, e2⟩ := t b q
    rw [e2] at e
    cases e
    exact ⟨kp b o q e2, o, kp b o q e2⟩
  · rw [reT_out q] at e
    refine (x b u e).stay (fun _ _ _ z => z) (fun c z => ?_) fun c xs z => ?_
    · rw [reT_out fun y => by rw [gone c y] at z; cases z]; exact z
    · rw [reT_out fun y => by rw [gone c y] at z; cases z]; exact z
/-- a call at the heap without T, seen with T -/
theorem un_re (u : Un fs [] (drT T H) H' h h') (x : HOk P w H h) (t : TCel T H) (nf : ∀ b, T b → b ∉ fs) : Un fs [] H (reT T H H') h h' ∧ (∀ b, T b → H' b = none) ∧ ∀ b o, T b → H b = some (CelO b o) → h'.get? b = some o := by
  have at_ : ∀ b o, T b → H b = some (CelO b o) → h.get? b = some o := fun b o _ e => (x b _ e).1
  have gone : ∀ b, T b → H' b = none := fun b q => by
    obtain ⟨o, e⟩ := t b q
    exact u.free b o (at_ b o q e) (drT_in q) (by simp)
  have nT : ∀ {b}, H b = none → ¬ T b := fun {b} n q => by
    obtain ⟨o, e⟩ := t b q
    rw [n] at e; cases e
  refine ⟨⟨fun b o e n f g => u.keep b o e (by rw [drT_out (nT n)]; exact n) f g, fun b o e n f g => u.slot b o e (by rw [drT_out (nT n)]; exact n) f g, fun b o e n g => ?_, u.there, fun b xs e => ?_, fun b o v e => ?_, fun b ps e => ?_⟩, gone, fun b o q e => u.keep b o (at_ b o q e) (drT_in q) (nf b q) (by simp)⟩
  · rw [reT_out (nT n)]
    exact u.free b o e (by rw [drT_out (nT n)]; exact n) g
  · have nt : ¬ T b := fun q => by obtain ⟨o, e2⟩ := t b q; rw [e] at e2; cases e2
    rw [reT_out nt]
    exact u.tups b xs (by rw [drT_out nt]; exact e)
  · by_cases q : T b
    · rw [reT_in q]; exact e
    · rw [reT_out q]
      exact u.frzs b o v (by rw [drT_out q]; exact e)
  · have nt : ¬ T b := fun q => by obtain ⟨o, e2⟩ := t b q; rw [e] at e2; cases e2
    rw [reT_out nt]
    exact u.tbls b ps (by rw [drT_out nt]; exact e)
theorem ub_re (u : UB fs (drT T H) H' h B h') (x : HOk P w H h) (t : TCel T H) (nf : ∀ b, T b → b ∉ fs) : UB fs H (reT T H H') h B h' ∧ (∀ b, T b → H' b = none) ∧ ∀ b o, T b → H b = some (CelO b o) → B.get? b = some o := by
  have at_ : ∀ b o, T b → H b = some (CelO b o) → h.get? b = some o := fun b o _ e => (x b _ e).1
  have gone : ∀ b, T b → H' b = none := fun b q => by
    obtain ⟨o, e⟩ := t b q
    exact u.free b o (at_ b o q e) (drT_in q)
  have nT : ∀ {b}, H b = none → ¬ T b := fun {b} n q => by
    obtain ⟨o, e⟩ := t b q
    rw [n] at e; cases e
  refine ⟨⟨fun b o e n f => u.keep b o e (by rw [drT_out (nT n)]; exact n) f, u.slot, fun b o e n => ?_, u.there, fun b xs e => ?_, fun b o v e => ?_, fun b ps e => ?_⟩, gone, fun b o q e => u.keep b o (at_ b o q e) (drT_in q) (nf b q)⟩
  · rw [reT_out (nT n)]
    exact u.free b o e (by rw [drT_out (nT n)]; exact n)
  · have nt : ¬ T b := fun q => by obtain ⟨o, e2⟩ := t b q; rw [e] at e2; cases e2
    rw [reT_out nt]
    exact u.tups b xs (by rw [drT_out nt]; exact e)
  · by_cases q : T b
    · rw [reT_in q]; exact e
    · rw [reT_out q]
      exact u.frzs b o v (by rw [drT_out q]; exact e)
  · have nt : ¬ T b := fun q => by obtain ⟨o, e2⟩ := t b q; rw [e] at e2; cases e2
    rw [reT_out nt]
    exact u.tbls b ps (by rw [drT_out nt]; exact e)
end

/-! ### a closure's run -/
/-- what its text must be like -/
structure CloS (J : CloI) : Prop where
  kind : J.scope.kind = .function
  co : J.scope.isCoroutine = false
  gen : J.scope.isGenerator = false
  own : ∀ y ∈ J.scope.names, y.2 ≠ .local ∧ y.2 ≠ .cell
  free : ∀ y ∈ J.scope.names, y.2 = .free → y.1 ∈ J.caps
  frk : ∀ y ∈ J.caps, J.scope.names.lookup y = some .free
  nd : J.caps.Nodup
  bind : ∀ (cl : List (Str × Addr)) (pm cv ctv : Value), bindArgs (PySem.W.kla_fn "<lambda>" J.qual J.params J.body J.scope cl pm cv ctv) ⟨[], []⟩ = pure []
abbrev cloEnv (J : CloI) (L f c' : Addr) (cl : List (Str × Addr)) : Env := PySem.W.envX J.qual J.scope L f (.ref c') cl
def cloCx (P : Program) (w : World) (K : PySem.W.Frag) (mg : Str → Option Value) (base : Heap) (J : CloI) (f c' : Addr) (cl : List (Str × Addr)) (A : Around) (outer : List Env) (s : Shared) (H : Hp) (E : XK) : Cx where
  prog := P
  w := w
  K := K
  mg := mg
  base := base
  A := A.deeper (cloEnv J s.heap.objs.size f c' cl)
  N := J.caps
  s_0 := s
  H_0 := H
  env := cloEnv J s.heap.objs.size f c' cl
  outer := outer
  stack := cloEnv J s.heap.objs.size f c' cl :: outer
  ex := []
  fn := fun _ => false
  calm := true
  pn := []
  xe := fun e s' => wpAny (model P w) (A.deeper (cloEnv J s.heap.objs.size f c' cl)) (leaving (cloEnv J s.heap.objs.size f c' cl) e) (fun _ t => L2.CX P w outer H s E e t) (fun e' t => L2.CX P w outer H s E e' t) s'
section
variable {P : Program} {w : World} {K : PySem.W.Frag} {mg : Str → Option Value} {base : Heap} {J : CloI} {f c' : Addr} {cl : List (Str × Addr)} {A : Around} {outer : List Env} {s : Shared} {H : Hp} {Z : Addr → Prop} {vs : List V}
theorem clo_start {E : XK} {h₁ : Heap} {tk : Nat} (S : CloS J) (hd : A.handled = none) (e0 : Env0 P w K mg base A outer s (drT (fun b => ∃ y, cl.lookup y = some b) H)) (x : HOk P w H s.heap) (C : CapA Z H cl J.caps vs) (hns : h₁.Ns s.heap.objs.size fun y => ([] : List (Str × Value)).reverse.lookup y)
    (kp : ∀ b o, s.heap.get? b = some o → h₁.get? b = some o) : Inv (cloCx P w K mg base J f c' cl A outer s (drT (fun b => ∃ y, cl.lookup y = some b) H) E) [] (vs.map some) (drT (fun b => ∃ y, cl.lookup y = some b) H) { s with heap := h₁, toks := tk } := by
  have noA : ∀ b : Addr, b ∉ (cloCx P w K mg base J f c' cl A outer s (drT (fun b => ∃ y, cl.lookup y = some b) H) E).ex := fun b z => nomatch (show b ∈ ([] : List Addr) from z)
  have at_ : ∀ {a o}, H a = some (CelO a o) → h₁.get? a = some o := fun {a o} q => kp _ _ (x a _ q).1
  refine ⟨⟨e0.mod, S.kind, rfl, rfl, Nat.le_refl _, C.inj, fun y hy => ?_, fun y c z _ => ?_, fun _ => hd, Around.frames_deeper e0.frames, .inr ⟨rfl, rfl⟩, fun b z => absurd z (noA b), e0.bs, e0.bsz, fun b _ _ => noA b, fun b z => absurd z (noA b), e0.funs, e0.frf⟩,
    rfl, e0.bare, Un.kept kp, ⟨_, hns, fun i y v e1 e2 e3 => ?_⟩, fun y c e => ?_, e0.hok.fresh (Nat.le_refl _), fun y c e => drT_in ⟨y, e⟩, fun q hq => absurd (show q ∈ ([] : List (Addr × Obj)) ++ [] from hq) (by simp), e0.hok.kept kp, ?_⟩
  · have hy : J.scope.names.lookup y = some .cell ∨ J.scope.names.lookup y = some .free := hy
    rcases hy with hy | hy
    · exact absurd rfl (S.own _ (PySem.mem_of_lookup hy)).2
    · obtain ⟨j, hj⟩ := List.mem_iff_getElem?.mp (S.free _ (PySem.mem_of_lookup hy) rfl)
      have hjv : j < vs.length := by rw [C.len]; exact (List.getElem?_eq_some_iff.mp hj).1
      obtain ⟨a, _, _, q, _⟩ := C.has j y _ hj (List.getElem?_eq_getElem hjv)
      exact ⟨a, q⟩
  · have z : false = true := z
    cases z
  · have e2' : vs[i]? = some v := by
      rw [List.getElem?_map] at e2
      cases q : vs[i]? with
      | none => rw [q] at e2; cases e2
      | some u => rw [q] at e2; cases e2; rfl
    obtain ⟨a, o, u, q1, q2, q3, q4⟩ := C.has i y v e1 e2'
    exact ⟨u, q4, .inr ⟨.inr (S.frk y (List.mem_of_getElem? e1)), a, q1, o, at_ q2, q3⟩⟩
  · obtain ⟨_, o, v, q, hv⟩ := C.all y c e
    exact ⟨v, o, at_ q, hv⟩
  · show (vs.map some).length = J.caps.length
    rw [List.length_map, C.len]
abbrev clT (cl : List (Str × Addr)) : Addr → Prop := fun b => ∃ y, cl.lookup y = some b
abbrev cloE (cl : List (Str × Addr)) (H : Hp) (E : XK) : XK := fun cls d H' => (∀ b, clT cl b → H' b = none) → E cls d (reT (clT cl) H H')
theorem clo_run {k : Nat} {Q : VK} {E : XK} (S : CloS J) (hr : Room (k + 1) A) (e0 : Env0 P w K mg base A outer s H) (hf : H f = some (LmO f J cl c')) (hc : H c' = some (LamX.CodeO c' J.qual)) (C : CapA Z H cl J.caps vs)
    (hbody : ∀ X : Cx, X = cloCx P w K mg base J f c' cl A outer s (drT (clT cl) H) (cloE cl H E) → Room k X.A → Takes X (fun cls d _ H' => cloE cl H E cls d H') → PassesOwn (model X.prog X.w) X.A X.env X.xe → ∃ tb, PE X J.body tb ∧
      tb (vs.map some) (drT (clT cl) H) fun v H' => (∀ b, clT cl b → H' b = none) → Q v (reT (clT cl) H H')) :
    codeAny (model P w) A (.call (.ref f) ⟨[], []⟩) (CR (L2.CX P w) outer P w H s Q E) s := by
  have tc : TCel (clT cl) H := fun b ⟨y, q⟩ => let ⟨_, o, _, q2, _⟩ := C.all y b q; ⟨o, q2⟩
  have nf : ∀ b, clT cl b → b ∉ frs outer := fun b q hb => by
    obtain ⟨o, e⟩ := tc b q
    rw [e0.frf b hb] at e
    cases e
  have lim : s.heap.NoLimit := e0.mod.nolimit.keeps fun b o e => (e0.bs b o e).1
  have nn : ∀ b, H b = none → drT (clT cl) H b = none := fun b n => by
    by_cases q : clT cl b
    · exact drT_in q
    · rw [drT_out q]; exact n
  have e1 : Env0 P w K mg base A outer s (drT (clT cl) H) := ⟨e0.frames, e0.mod, fun b o e => ⟨(e0.bs b o e).1, nn b (e0.bs b o e).2⟩, e0.bsz, e0.funs, fun b hb => nn b (e0.frf b hb), hok_dr e0.hok tc, e0.bare⟩
  obtain ⟨⟨pm, ctv, of1⟩, _, _⟩ := e0.hok f _ hf
  obtain ⟨⟨oc, ws, t, hoc, hdc, hvc⟩, _, _⟩ := e0.hok c' _ hc
  refine PySem.W.kla_callFunE hr.depth of1 rfl S.co S.gen rfl ⟨c', oc, ws, t, rfl, hoc, hdc, hvc⟩ ?_
  rw [S.bind]
  refine wpAny_pure (wpAny_newFunctionEnv (fun y hy => (S.own y hy).2) (fun y hy => absurd hy (by simp)) (fun h₁ hns hsb => ⟨lim.fresh _ hsb, ?_⟩) S.kind)
  show codeAny _ _ (.expr J.body (cloEnv J s.heap.objs.size f c' cl)) _ _
  have kp : ∀ b o, s.heap.get? b = some o → h₁.get? b = some o := fun b o e => hsb.extBut b o (Nat.ne_of_lt (Heap.lt_size e)) (Heap.get?_push_of_some _ e)
  have I : Inv (cloCx P w K mg base J f c' cl A outer s (drT (clT cl) H) (cloE cl H E)) [] (vs.map some) (drT (clT cl) H) { s with heap := h₁, toks := s.toks + ([] : List (Str × Value)).length } := clo_start S hr.hd e1 e0.hok C hns kp
  obtain ⟨tb, hp, hq⟩ := hbody _ rfl (hr.deeper _) (takes_of rfl rfl rfl rfl) (passes_of rfl)
  have out : ∀ e s', (cloCx P w K mg base J f c' cl A outer s (drT (clT cl) H) (cloE cl H E)).xe e s' → wpAny (model P w) (A.deeper (cloEnv J s.heap.objs.size f c' cl)) (leaving (cloEnv J s.heap.objs.size f c' cl) e) (fun _ t => CR (L2.CX P w) outer P w H s Q E (.error e) t) (fun e' t => CR (L2.CX P w) outer P w H s Q E (.error e') t) s' := fun e s' q => by
    have conv : ∀ u t, L2.CX P w outer (drT (clT cl) H) s (cloE cl H E) u t → CR (L2.CX P w) outer P w H s Q E (.error u) t := fun u t ⟨a, B, H', cls, d, q1, fl, hok, ub, na, os, ag, hE⟩ => by
      obtain ⟨ub2, gone, kp2⟩ := ub_re ub e0.hok tc nf
      have ng : ¬ clT cl a := fun z => by
        obtain ⟨o, e⟩ := tc a z
        have := kp2 a o z e
        rw [fl.2.1] at this
        cases this
      exact ⟨a, B, reT (clT cl) H H', cls, d, q1, fl, hok_re hok tc gone kp2, ub2, by rw [reT_out ng]; exact na, os, ag, hE gone⟩
    exact wpAny_mono q (fun _ t z => conv e t z) fun e' t z => conv e' t z
  refine PySem.W.kla_codeExpr (wpAny_mono (hp.run [] _ _ _ _ I hq) (fun v s' z => ?_) out)
  obtain ⟨u, H', J', rv, q⟩ := z
  obtain ⟨un2, gone, kp2⟩ := un_re J'.base e0.hok tc nf
  exact ⟨u, reT (clT cl) H H', J'.os, J'.bare, un2, hok_re J'.hok tc gone kp2, rv, q gone⟩
end
end MM

/-! MM19: values without closures stand without the tracked cells; call() of a closure. -/
namespace MM
open PySem PySem.Spec PyProof.Rows L2

mutual
def noClo : UV → Bool
  | .d _ => true
  | .ref _ => true
  | .tp xs => noCloL xs
  | .fl xs => noCloL xs
  | .own xs => noCloL xs
  | .odK kvs => noCloK kvs
  | .odT kvs => noCloT kvs
  | .clo _ _ => false
def noCloL : List UV → Bool
  | [] => true
  | x :: xs => noClo x && noCloL xs
def noCloK : List (Key × UV) → Bool
  | [] => true
  | (_, x) :: xs => noClo x && noCloK xs
def noCloT : List (List Key × UV) → Bool
  | [] => true
  | (_, x) :: xs => noClo x && noCloT xs
end
def noCloF : List (Str × UV) → Bool
  | [] => true
  | (_, x) :: xs => noClo x && noCloF xs
def noCloC : Cel → Bool
  | .lst xs => noCloL xs
  | .dK kvs => noCloK kvs
  | .dT kvs => noCloT kvs
  | .obj _ fs => noCloF fs
  | .tab _ _ => true
section
variable {c : Cg} {Z T : Addr → Prop} {H : Hp} {ρ : List Addr} (t : TCel T H)
abbrev mZ (Z T : Addr → Prop) : Addr → Prop := fun a => Z a ∧ ¬ T a
include t
theorem not_T {a : Addr} {o : HO} (e : H a = some o) (ne : ∀ ob, o ≠ CelO a ob) : ¬ T a := fun q => by
  obtain ⟨ob, e2⟩ := t a q
  rw [e] at e2
  exact ne ob (Option.some.inj e2)
theorem keep_T {a : Addr} {o : HO} (z : Z a) (e : H a = some o) (ne : ∀ ob, o ≠ CelO a ob) : mZ Z T a ∧ drT T H a = some o :=
  ⟨⟨z, not_T t e ne⟩, by rw [drT_out (not_T t e ne)]; exact e⟩
theorem Rd_T {a : Addr} {u : HO} (ne : u ≠ .own a) (nf : ∀ ob, u ≠ CelO a ob) (h : Rd H a u) : ¬ T a ∧ Rd (drT T H) a u := by
  rcases h with h | ⟨o, h⟩
  · exact ⟨not_T t h nf, .inl (by rw [drT_out (not_T t h nf)]; exact h)⟩
  · have n : ¬ T a := not_T t h fun ob e => by
      unfold CelO at e
      injection e with _ e2
      exact ne e2
    exact ⟨n, .inr ⟨o, by rw [drT_out n]; exact h⟩⟩
theorem FzT.dr {a : Addr} {xs : List V} (h : FzT c Z H a xs) : FzT c (mZ Z T) (drT T H) a xs := h.elim (fun h => let ⟨n, r⟩ := Rd_T (u := .tup xs) t (fun e => nomatch e) (fun _ e => nomatch e) h.2; .inl ⟨⟨h.1, n⟩, r⟩) .inr
theorem FzL.dr {a : Addr} {xs : List V} (h : FzL c Z H a xs) : FzL c (mZ Z T) (drT T H) a xs := h.elim (fun h => let ⟨n, r⟩ := Rd_T (u := .lst xs) t (fun e => nomatch e) (fun _ e => nomatch e) h.2; .inl ⟨⟨h.1, n⟩, r⟩) .inr
mutual
theorem RD.dr : ∀ {x : DV} {v : V}, RD c Z H x v → RD c (mZ Z T) (drT T H) x v
  | .non, _, h => h
  | .bl _, _, h => h
  | .int _, _, h => h
  | .str _, _, h => h
  | .ty _, _, h => h
  | .glo _, _, h => h
  | .tup _, _, ⟨a, vs, e, f, r⟩ => ⟨a, vs, e, FzT.dr t f, RDl.dr r⟩
  | .lst _, _, ⟨a, vs, e, z, h, r⟩ => let ⟨k1, k2⟩ := keep_T t z h (fun _ q => nomatch q); ⟨a, vs, e, k1, k2, RDl.dr r⟩
  | .rol _, _, ⟨a, vs, e, f, r⟩ => ⟨a, vs, e, FzL.dr t f, RDl.dr r⟩
  | .dK _, _, ⟨a, vs, e, z, h, r⟩ => let ⟨k1, k2⟩ := keep_T t z h (fun _ q => nomatch q); ⟨a, vs, e, k1, k2, RDk.dr r⟩
  | .dT _, _, ⟨a, vs, e, z, h, r⟩ => let ⟨k1, k2⟩ := keep_T t z h (fun _ q => nomatch q); ⟨a, vs, e, k1, k2, RDt.dr r⟩
  | .ins _ _, _, ⟨a, dx, Ca, gs, e, m, z, h, r⟩ => let ⟨k1, k2⟩ := keep_T t z h (fun _ q => nomatch q); ⟨a, dx, Ca, gs, e, m, k1, k2, RDf.dr r⟩
  | .exn _ _, _, ⟨a, d, Ca, gs, e, m, z, h, z2, h2, r⟩ => let ⟨k1, k2⟩ := keep_T t z h (fun _ q => nomatch q); let ⟨k3, k4⟩ := keep_T t z2 h2 (fun _ q => nomatch q); ⟨a, d, Ca, gs, e, m, k1, k2, k3, k4, RDf.dr r⟩
theorem RDl.dr : ∀ {xs : List DV} {vs : List V}, RDl c Z H xs vs → RDl c (mZ Z T) (drT T H) xs vs
  | [], _, h => h
  | _ :: _, _, ⟨v, r, e, h, q⟩ => ⟨v, r, e, RD.dr h, RDl.dr q⟩
theorem RDk.dr : ∀ {xs : List (Key × DV)} {vs : List (Key × V)}, RDk c Z H xs vs → RDk c (mZ Z T) (drT T H) xs vs
  | [], _, h => h
  | (_, _) :: _, _, ⟨v, r, e, h, q⟩ => ⟨v, r, e, RD.dr h, RDk.dr q⟩
theorem RDt.dr : ∀ {xs : List (List Key × DV)} {vs : List (List Key × V)}, RDt c Z H xs vs → RDt c (mZ Z T) (drT T H) xs vs
  | [], _, h => h
  | (_, _) :: _, _, ⟨v, r, e, h, q⟩ => ⟨v, r, e, RD.dr h, RDt.dr q⟩
theorem RDf.dr : ∀ {xs : List (Str × DV)} {vs : List (Str × V)}, RDf c Z H xs vs → RDf c (mZ Z T) (drT T H) xs vs
  | [], _, h => h
  | (_, _) :: _, _, ⟨v, r, e, h, q⟩ => ⟨v, r, e, RD.dr h, RDf.dr q⟩
end
theorem out_T {a : Addr} {o : HO} (e : H a = some o) (ne : ∀ ob, o ≠ CelO a ob) : drT T H a = some o := by rw [drT_out (not_T t e ne)]; exact e
mutual
theorem RU.dr : ∀ {x : UV} {v : V} {F : List Addr}, noClo x = true → RU c Z H ρ x v F → RU c (mZ Z T) (drT T H) ρ x v F
  | .d _, _, _, _, ⟨e, h⟩ => ⟨e, RD.dr t h⟩
  | .ref _, _, _, _, h => h
  | .tp _, _, _, n, ⟨a, vs, e, z, h, r⟩ => let ⟨k1, k2⟩ := Rd_T (u := .tup vs) t (fun q => nomatch q) (fun _ q => nomatch q) h; ⟨a, vs, e, ⟨z, k1⟩, k2, RUl.dr (by simpa [noClo] using n) r⟩
  | .fl _, _, _, n, ⟨a, vs, e, z, h, r⟩ => let ⟨k1, k2⟩ := keep_T t z h (fun _ q => nomatch q); ⟨a, vs, e, k1, k2, RUl.dr (by simpa [noClo] using n) r⟩
  | .own _, _, _, n, ⟨a, vs, G, e, h, eF, r⟩ => ⟨a, vs, G, e, out_T t h (fun _ q => nomatch q), eF, RUl.dr (by simpa [noClo] using n) r⟩
  | .odK _, _, _, n, ⟨a, vs, G, e, h, eF, r⟩ => ⟨a, vs, G, e, out_T t h (fun _ q => nomatch q), eF, RUk.dr (by simpa [noClo] using n) r⟩
  | .odT _, _, _, n, ⟨a, vs, G, e, h, eF, r⟩ => ⟨a, vs, G, e, out_T t h (fun _ q => nomatch q), eF, RUt.dr (by simpa [noClo] using n) r⟩
  | .clo _ _, _, _, n, _ => by simp [noClo] at n
theorem RUl.dr : ∀ {xs : List UV} {vs : List V} {F : List Addr}, noCloL xs = true → RUl c Z H ρ xs vs F → RUl c (mZ Z T) (drT T H) ρ xs vs F
  | [], _, _, _, h => h
  | _ :: _, _, _, n, ⟨v, r, F1, F2, e, eF, h, q⟩ => ⟨v, r, F1, F2, e, eF, RU.dr (by simp [noCloL] at n; exact n.1) h, RUl.dr (by simp [noCloL] at n; exact n.2) q⟩
theorem RUk.dr : ∀ {xs : List (Key × UV)} {vs : List (Key × V)} {F : List Addr}, noCloK xs = true → RUk c Z H ρ xs vs F → RUk c (mZ Z T) (drT T H) ρ xs vs F
  | [], _, _, _, h => h
  | (_, _) :: _, _, _, n, ⟨v, r, F1, F2, e, eF, h, q⟩ => ⟨v, r, F1, F2, e, eF, RU.dr (by simp [noCloK] at n; exact n.1) h, RUk.dr (by simp [noCloK] at n; exact n.2) q⟩
theorem RUt.dr : ∀ {xs : List (List Key × UV)} {vs : List (List Key × V)} {F : List Addr}, noCloT xs = true → RUt c Z H ρ xs vs F → RUt c (mZ Z T) (drT T H) ρ xs vs F
  | [], _, _, _, h => h
  | (_, _) :: _, _, _, n, ⟨v, r, F1, F2, e, eF, h, q⟩ => ⟨v, r, F1, F2, e, eF, RU.dr (by simp [noCloT] at n; exact n.1) h, RUt.dr (by simp [noCloT] at n; exact n.2) q⟩
end
theorem RUf.dr : ∀ {xs : List (Str × UV)} {vs : List (Str × V)} {F : List Addr}, noCloF xs = true → RUf c Z H ρ xs vs F → RUf c (mZ Z T) (drT T H) ρ xs vs F
  | [], _, _, _, h => h
  | (_, _) :: _, _, _, n, ⟨v, r, F1, F2, e, eF, h, q⟩ => ⟨v, r, F1, F2, e, eF, RU.dr t (by simp [noCloF] at n; exact n.1) h, RUf.dr (by simp [noCloF] at n; exact n.2) q⟩
theorem RC.dr : ∀ {x : Cel} {a : Addr} {F : List Addr}, noCloC x = true → RC c Z H ρ x a F → RC c (mZ Z T) (drT T H) ρ x a F
  | .lst _, _, _, n, ⟨vs, G, h, e, r⟩ => ⟨vs, G, out_T t h (fun _ q => nomatch q), e, RUl.dr t n r⟩
  | .dK _, _, _, n, ⟨vs, G, h, e, r⟩ => ⟨vs, G, out_T t h (fun _ q => nomatch q), e, RUk.dr t n r⟩
  | .dT _, _, _, n, ⟨vs, G, h, e, r⟩ => ⟨vs, G, out_T t h (fun _ q => nomatch q), e, RUt.dr t n r⟩
  | .obj _ _, _, _, n, ⟨Ca, dx, gs, G, m, h, e, r⟩ => ⟨Ca, dx, gs, G, m, out_T t h (fun _ q => nomatch q), e, RUf.dr t n r⟩
  | .tab _ _, _, _, _, ⟨e, eF, ps, h, tr, r⟩ => ⟨e, eF, ps, out_T t h (fun _ q => nomatch q), tr, fun pos cv q => let ⟨c', e1, e2, e3⟩ := r pos cv q; let ⟨k1, k2⟩ := keep_T t e2 e3 (fun _ q => nomatch q); ⟨c', e1, k1, k2⟩⟩
theorem RHl.dr : ∀ {x : HS} {l : List Addr} {F : List Addr}, x.all noCloC = true → RHl c Z H ρ x l F → RHl c (mZ Z T) (drT T H) ρ x l F
  | [], _, _, _, h => h
  | _ :: _, _, _, n, ⟨v, r, F1, F2, e, eF, h, q⟩ => by
    rw [List.all_cons, Bool.and_eq_true] at n
    exact ⟨v, r, F1, F2, e, eF, RC.dr t n.1 h, RHl.dr n.2 q⟩
end
/-- what a closure may have caught -/
def plainU : UV → Bool
  | .d _ => true
  | .ref _ => true
  | _ => false
theorem plain_F {c : Cg} {Z : Addr → Prop} {H : Hp} {ρ : List Addr} : ∀ {xs : List UV} {vs : List V} {F : List Addr}, xs.all plainU = true → RUl c Z H ρ xs vs F → F = [] ∧ noCloL xs = true
  | [], _, _, _, h => ⟨h.2, rfl⟩
  | x :: xs, _, _, n, ⟨v, r, F1, F2, e, eF, h, q⟩ => by
    rw [List.all_cons, Bool.and_eq_true] at n
    obtain ⟨k1, k2⟩ := plain_F n.2 q
    cases x with
    | d y => exact ⟨by rw [eF, h.1, k1]; rfl, by simp [noCloL, noClo, k2]⟩
    | ref i => exact ⟨by rw [eF, h.1, k1]; rfl, by simp [noCloL, noClo, k2]⟩
    | _ => exact absurd n.1 (by simp [plainU])
/-- the lambdas' functions keep what they tell -/
structure CloOk (c : Cg) (P : Program) (w : World) (base : Heap) (CB : Nat → ME) (k : Nat) : Prop where
  run : ∀ i J, c.ci i = some J → CloS J ∧ ∀ (X : Cx) (W : WX), Cc c P w base J.caps J.scope k X W → PE X J.body (tV false .E c W (CB i))
def mClo (CB : Nat → ME) (j : Nat) : ME := fun σ h => match σ[j]? with
  | some (some (.clo i caps)) => if h.all noCloC = true ∧ caps.all plainU = true then CB i (caps.map some) h else .bad
  | _ => .bad
section
variable {X : Cx} {c : Cg} {W : WX} {P : Program} {w : World} {base : Heap} {N : List Str} {sc : Scope} {k : Nat} {CB : Nat → ME}
theorem RUl.plainS {Z : Addr → Prop} {H : Hp} {ρ : List Addr} : ∀ {us : List UV} {vs : List V} {F : List Addr}, RUl c Z H ρ us vs F → RS c Z H ρ (us.map some) (vs.map some) F
  | [], _, _, h => by rw [h.1, h.2]; exact ⟨rfl, rfl⟩
  | _ :: _, _, _, ⟨v, r, F1, F2, e, eF, h, t⟩ => by rw [e]; exact ⟨v, r.map some, F1, F2, rfl, eF, h, t.plainS⟩
theorem e_clo (C : Cc c P w base N sc (k + 1) X W) (O : CloOk c P w base CB k) (j : Nat) {a : Str} {p1 p2 : Pos} (hv : PE X (.Name a p1) (tVar j)) : PE X (.Call (.Name a p1) [] [] p2) (tV false .E c W (mClo CB j)) := by
  refine ⟨fun pins s σ H Q I ⟨wd, Fs, σd, hd, S, p⟩ => ?_⟩
  unfold mClo at p
  split at p
  · rename_i i caps hj
    split at p
    · rename_i hn
      obtain ⟨v0, G, e0, ru, _⟩ := S.s.get hj
      obtain ⟨eG, J, f, c', cl, vs, hci, rfl, zf, hf, zc, hc, ca, rl⟩ := ru
      have tc : TCel (clT cl) H := fun b ⟨y, q⟩ => let ⟨_, o, _, q2, _⟩ := ca.all y b q; ⟨o, q2⟩
      have tz : ∀ b, clT cl b → wd.Z b := fun b ⟨y, q⟩ => (ca.all y b q).1
      refine wpAny_Call_Name_kw (thn (hv.run pins s σ H (fun v H1 => v = .ref f ∧ H1 = H) I ⟨.ref f, e0, rfl, rfl⟩) fun u s1 ⟨v, H1, I1, r1, q1⟩ => ?_)
      obtain ⟨rfl, rfl⟩ := q1
      obtain rfl : u = Value.ref f := r1
      obtain ⟨⟨pm, ctv, of1⟩, _, _⟩ := I1.hok f _ hf
      refine PySem.W.callWith_F0 ⟨_, _, _, _, of1⟩ ?_
      obtain ⟨CS, hb⟩ := O.run i J hci
      let T := clT cl
      let w3 : Wd := ⟨wd.ρ, mZ wd.Z T, wd.F⟩
      have nF : ∀ b ∈ wd.F, ¬ T b := fun b hb q => S.wok.sep b hb (tz b q)
      have ok3 : WOk w3 (drT T H1) := ⟨S.wok.nd, fun b hb z => S.wok.sep b hb z.1, fun b hb => by rw [drT_out (nF b hb)]; exact S.wok.trF b hb, fun b z => by rw [drT_out z.2]; exact S.wok.trZ b z.1⟩
      have S3 : Sta c w3 [] (caps.map some) hd (vs.map some) (drT T H1) := ⟨RUl.plainS (RUl.dr tc (plain_F hn.2 rl).2 rl), RHl.dr tc hn.1 S.h, ok3⟩
      -- back with the cells
      have back : ∀ {w' : Wd} {H' : Hp} {G : List Addr}, (∀ b, T b → H' b = none) → Ext w3 (drT T H1) ⟨w'.ρ, w'.Z, w'.F ++ G⟩ H' → WOk ⟨w'.ρ, w'.Z, w'.F ++ G⟩ H' → Ext wd H1 ⟨w'.ρ, fun b => w'.Z b ∨ T b, w'.F ++ G⟩ (reT T H1 H') ∧ WOk ⟨w'.ρ, fun b => w'.Z b ∨ T b, w'.F ++ G⟩ (reT T H1 H') := fun {w' H' G} gone e ok => by
        have nT : ∀ b, H' b ≠ none → ¬ T b := fun b n q => n (gone b q)
        have th : ∀ b, H' b ≠ none → reT T H1 H' b ≠ none := fun b n => by rw [reT_out (nT b n)]; exact n
        refine ⟨⟨e.rho, fun b z => ?_, fun b o q n => ?_, fun b q => ?_, fun b n => ?_⟩, ⟨ok.nd, fun b hb z => ?_, fun b hb => th b (ok.trF b hb), fun b z => ?_⟩⟩
        · by_cases q : T b
          · exact .inr q
          · exact .inl (e.z b ⟨z, q⟩)
        · by_cases y : T b
          · rw [reT_in y]; exact q
          · rw [reT_out y]; exact e.keep b o (by rw [drT_out y]; exact q) n
        · have old : w3.Z b ∨ b ∈ w3.F ∨ drT T H1 b = none → ¬ T b → wd.Z b ∨ b ∈ wd.F ∨ H1 b = none := fun z y => by
            rcases z with z | z | z
            · exact .inl z.1
            · exact .inr (.inl z)
            · rw [drT_out y] at z; exact .inr (.inr z)
          by_cases y : T b
          · exact .inl (tz b y)
          · rcases q with (q | q) | q
            · exact old (e.new b (.inl q)) y
            · exact absurd q y
            · exact old (e.new b (.inr q)) y
        · by_cases y : T b
          · rw [reT_in y]; exact n
          · rw [reT_out y]; exact e.there b (by rw [drT_out y]; exact n)
        · rcases z with z | z
          · exact ok.sep b hb z
          · exact nT b (ok.trF b hb) z
        · rcases z with z | z
          · exact th b (ok.trZ b z)
          · rw [reT_in z]
            exact S.wok.trZ b (tz b z)
      have up : ∀ {w' : Wd} {H' : Hp}, (∀ b, T b → H' b = none) → ∀ b o, H' b = some o → reT T H1 H' b = some o := fun {w' H'} gone b o q => by
        rw [reT_out fun y => by rw [gone b y] at q; cases q]; exact q
      have rc := clo_run (k := k) (vs := vs) (Q := Q) (E := WE W σ) CS (by have := C.room; exact this) I1.env0 hf hc ca fun X3 e3 hr3 tk3 po3 => by
        subst e3
        refine ⟨_, hb _ (fun cls d _ H' => cloE cl H1 (WE W σ) cls d H') ⟨C.eP, C.ew, C.eK, C.emg, C.ebase, rfl, rfl, rfl, hr3, tk3, po3, CS.kind, CS.nd⟩, w3, [], _, hd, S3, ?_⟩
        revert p
        cases CB i (caps.map some) hd with
        | ok u h' =>
          intro p w' H' v Fv mo pp rh ru gone
          obtain ⟨b1, b2⟩ := back gone mo.1 mo.2
          exact p ⟨w'.ρ, fun b => w'.Z b ∨ T b, w'.F⟩ _ v Fv ⟨b1, b2⟩ .no (RHl.mono (fun _ _ e => e) (fun _ z => .inl z) (fun b o _ q => up (w' := w') gone b o q) (fun b _ o q => up (w' := w') gone b o q) rh)
            (RU.mono (fun _ _ e => e) (fun _ z => .inl z) (fun b o _ q => up (w' := w') gone b o q) (fun b _ o q => up (w' := w') gone b o q) ru)
        | err e h' =>
          intro p w' H' cls dx ex ok rh rx gone
          obtain ⟨b1, b2⟩ := back (w' := w') (G := []) gone (by rw [List.append_nil]; exact ex) (by rw [List.append_nil]; exact ok)
          rw [List.append_nil] at b1 b2
          obtain ⟨Ca, d, gs, x1, x2, x3, x4, x5, x6⟩ := rx
          exact p ⟨w'.ρ, fun b => w'.Z b ∨ T b, w'.F⟩ _ cls dx b1 b2 (RHl.mono (fun _ _ e => e) (fun _ z => .inl z) (fun b o _ q => up (w' := w') gone b o q) (fun b _ o q => up (w' := w') gone b o q) rh)
            ⟨Ca, d, gs, x1, x2, x3, .inl x4, up (w' := w') gone _ _ x5, RDf.mono (fun _ z => .inl z) (fun b o _ q => up (w' := w') gone b o q) x6⟩
        | bad => exact fun p => p
      refine wpAny_call (codeAny_mono rc fun r s' hq => ?_)
      cases r with
      | error e => exact passAt C.tk σ pins H1 s1 e s' I1 hq
      | ok fl =>
        cases fl with
        | ret u => exact I1.after hq
        | next => exact False.elim hq
        | brk => exact False.elim hq
        | cont => exact False.elim hq
    · exact p.elim
  · exact p.elim
end
end MM

/-! MM20: lambdas made, defs called with them. -/
namespace MM
open PySem PySem.Spec PyProof.Rows L2

/-! ### a lambda is made -/
def tLm (P : Addr) (J : CloI) (cl : List (Str × Addr)) : TE := fun σ H Q => ∃ ps : Array Value, H P = some (.tbl ps) ∧ TriplesOk ps.toList ∧ (∀ (pos : Pos) (cv : Value), codeAmong pos ps.toList = some cv → ∃ c', cv = .ref c' ∧ H c' = some (LamX.CodeO c' J.qual)) ∧
  (∀ f c', H f = none → H c' = some (LamX.CodeO c' J.qual) → (∃ pos : Pos, codeAmong pos ps.toList = some (.ref c')) → Q (.ref f) (upd H f (LmO f J cl c'))) ∧
  (∀ (f c' : Addr) (ps' : Array Value), H f = none → H c' = none → f ≠ c' → TriplesOk ps'.toList → (∀ (p' : Pos) (cv : Value), codeAmong p' ps'.toList = some cv → codeAmong p' ps.toList = some cv ∨ cv = .ref c') →
    Q (.ref f) (upd (upd (upd H P (.tbl ps')) c' (LamX.CodeO c' J.qual)) f (LmO f J cl c')))
/-- what a def that makes lambdas is known to be -/
structure Lm (X : Cx) (cP P : Addr) (q : Str) : Prop where
  code : X.env.code = .ref cP
  qual : X.env.qual ++ "<lambda>" = q
  tb : LamX.TabB X.base X.mg cP P
  fn : ∀ y, X.fn y = true
  st : X.stack = X.env :: X.outer
/-- how the lambda's names lie to the maker's -/
structure LamAt (sc : Scope) (N : List Str) (J : CloI) (js : List Nat) : Prop where
  free : ∀ y ∈ J.scope.names, y.2 = .free → sc.names.lookup y.1 = some .cell ∨ sc.names.lookup y.1 = some .free
  caps : ∀ y ∈ J.caps, (y, NameKind.free) ∈ J.scope.names
  at_ : js.map (fun j => N[j]?) = J.caps.map some
section
variable {X : Cx} {cP P : Addr} {q : Str}
theorem lm_obj {pins : List (Addr × Obj)} {σ : L2.St} {H : Hp} {s : Shared} {J : CloI} {cl : List (Str × Addr)} {c' : Addr} {pm ctv : Value} {t' : Nat} (I : Inv X pins σ H s) :
    Inv X pins σ (upd H s.heap.objs.size (LmO s.heap.objs.size J cl c')) { s with heap := s.heap.push (PySem.W.kla_obj "<lambda>" J.qual J.params J.body J.scope cl pm c' ctv), toks := t' } := by
  refine I.laid (a := s.heap.objs.size) (fun b u e => Heap.get?_push_of_some _ e) (Nat.le_refl _) ?_
  have e : (s.heap.push (PySem.W.kla_obj "<lambda>" J.qual J.params J.body J.scope cl pm c' ctv)).get? s.heap.objs.size = some (PySem.W.kla_obj "<lambda>" J.qual J.params J.body J.scope cl pm c' ctv) := Heap.get?_push_size _ rfl
  exact ⟨⟨pm, ctv, e⟩, ⟨_, e⟩, fun h1 h2 ⟨p, t, z⟩ st => ⟨p, t, st _ z⟩⟩
theorem pe_lm {sc : Scope} {N : List Str} {J : CloI} {js : List Nat} {pos : Pos} (M : Lm X cP P q) (hq : J.qual = q) (hs : X.env.scope = sc) (L : LamAt sc N J js) (hdef : ∀ env : Env, defaultsOf J.params env = ([], [])) :
    PE X (.Lambda J.params J.body J.scope pos) (tLm P J (cloFrom X.env.cells J.scope.names [])) := by
  refine ⟨fun pins s σ H Q I ⟨ps, hP, ht, ha, k1, k2⟩ => PySem.W.kla_eval (hdef _) ?_⟩
  have hfree : ∀ y ∈ J.scope.names, y.2 = .free → ∃ c, X.env.cells.lookup y.1 = some c := fun y hy e => by
    have z := L.free y hy e
    rw [← hs] at z
    exact I.ok.has _ z
  have bP : s.heap.BuiltinsAt X.mg P := M.tb.bm.keeps I.bk
  have hP' : s.heap.get? P = some { cls := .none, data := .fields ps } := I.hok P _ hP
  have eq : X.env.qual ++ "<lambda>" = J.qual := M.qual.trans hq.symm
  rw [eq]
  cases hc : codeAmong pos ps.toList with
  | none =>
    refine PySem.W.kla_makeFunction (mg := X.mg) (c := cP) (P := P) (ps := ps) (closure_ok hfree) I.ok.glob (I.mod.glob.keeps I.bk) M.code (M.tb.code.keeps I.bk) hP' ht hc M.tb.gP bP fun c' ctv h' tk hx hge hlt hrec htb => ?_
    obtain ⟨c2, oc, vs, t, e2, hoc, hd, hv⟩ := hrec
    cases e2
    have nC : H c' = none := I.hok.fresh hge
    have I1 := LamX.inv_table (t' := tk) (more := #[rawInt pos.line, rawInt pos.col, .ref c']) (h' := h') I hP (fun b o hb e => hx b o hb e) htb hge ⟨oc, vs, t, hoc, hd, hv⟩
    have hsz : s.heap.objs.size ≤ h'.objs.size := Nat.le_trans hge (Nat.le_of_lt hlt)
    have eL : (ps ++ #[rawInt pos.line, rawInt pos.col, .ref c']).toList = ps.toList ++ [rawInt pos.line, rawInt pos.col, .ref c'] := by simp
    refine ⟨.ref h'.objs.size, _, lm_obj (J := J) (cl := cloFrom X.env.cells J.scope.names []) (c' := c') (pm := (X.mg "__name__").getD .none) (ctv := ctv) I1, rfl, k2 h'.objs.size c' _ (I.hok.fresh hsz) nC (Nat.ne_of_gt hlt) (by rw [eL]; exact PySem.TriplesOk_snoc _ _ _ _ ht) fun p' cv hcv => ?_⟩
    rw [eL] at hcv
    exact LamX.among_app _ ht hcv
  | some cv =>
    obtain ⟨c', e, hco⟩ := ha pos cv hc
    subst e
    refine PySem.W.kla_makeFunctionHit (mg := X.mg) (c := cP) (P := P) (ps := ps) (closure_ok hfree) I.ok.glob (I.mod.glob.keeps I.bk) M.code (M.tb.code.keeps I.bk) hP' ht hc bP fun ctv h' tk hx hsz => ?_
    have I1 : Inv X pins σ H { s with heap := h', toks := tk } := I.kept hx
    exact ⟨.ref h'.objs.size, _, lm_obj (J := J) (cl := cloFrom X.env.cells J.scope.names []) (c' := c') (pm := (X.mg "__name__").getD .none) (ctv := ctv) I1, rfl, k1 h'.objs.size c' (I.hok.fresh hsz) hco ⟨pos, hc⟩⟩
end

/-! ### argument lists with lambdas -/
inductive AU where
  | v (u : UV) | lam (i : Nat) (js : List Nat)
section
variable (c : Cg) (Z : Addr → Prop) (H : Hp) (ρ : List Addr) (ec : List (Str × Addr))
def RA : AU → V → Prop
  | .v u, v => RU c Z H ρ u v []
  | .lam i _, v => ∃ J f c', c.ci i = some J ∧ v = .ref f ∧ Z f ∧ H f = some (LmO f J (cloFrom ec J.scope.names []) c') ∧ Z c' ∧ H c' = some (LamX.CodeO c' J.qual)
def RAl : List AU → List V → Prop
  | [], vs => vs = []
  | x :: xs, vs => ∃ v r, vs = v :: r ∧ RA c Z H ρ ec x v ∧ RAl xs r
end
section
variable {c : Cg} {Z Z' : Addr → Prop} {H H' : Hp} {ρ ρ' : List Addr} {ec : List (Str × Addr)} (hr : ∀ (i : Nat) a, ρ[i]? = some a → ρ'[i]? = some a) (hz : ∀ a, Z a → Z' a) (hk : ∀ a o, Z a → H a = some o → H' a = some o)
include hr hz hk
theorem RA.mono : ∀ {x : AU} {v : V}, RA c Z H ρ ec x v → RA c Z' H' ρ' ec x v
  | .v _, _, h => RU.mono hr hz hk (fun _ z => nomatch z) h
  | .lam _ _, _, ⟨J, f, c', h1, h2, h3, h4, h5, h6⟩ => ⟨J, f, c', h1, h2, hz _ h3, hk _ _ h3 h4, hz _ h5, hk _ _ h5 h6⟩
theorem RAl.mono : ∀ {xs : List AU} {vs : List V}, RAl c Z H ρ ec xs vs → RAl c Z' H' ρ' ec xs vs
  | [], _, h => h
  | _ :: _, _, ⟨v, r, e, h, t⟩ => ⟨v, r, e, RA.mono hr hz hk h, RAl.mono t⟩
end
abbrev MLs := SL → HS → MR (List AU)
def ALo (c : Cg) (W : WX) (ec : List (Str × Addr)) (σ : L2.St) (w : Wd) (H : Hp) (Q : List V → Hp → Prop) : MR (List AU) → Prop
  | .ok as h' => ∀ (w' : Wd) (H' : Hp) (vs : List V), Ext w H w' H' → WOk w' H' → RH c w'.Z H' w'.ρ h' w'.F → RAl c w'.Z H' w'.ρ ec as vs → Q vs H'
  | .err e h' => ∀ (w' : Wd) (H' : Hp) (cls : Value) (dx : Option Addr), Ext w H w' H' → WOk w' H' → RH c w'.Z H' w'.ρ h' w'.F → RX c w'.Z H' e cls dx → W cls dx σ H'
  | .bad => False
def tAsL (c : Cg) (W : WX) (ec : List (Str × Addr)) (m : MLs) : TA := fun σ H Q => ∃ w Fs σd hd, Sta c w Fs σd hd σ H ∧ ALo c W ec σ w H Q (m σd hd)
def lNil : MLs := fun _ h => .ok [] h
def lCons (m : ME) (ms : MLs) : MLs := fun σ h => bindM (m σ h) fun u h1 => if noOwn u = true then bindM (ms σ h1) fun as h2 => .ok (.v u :: as) h2 else .bad
def lLam (i : Nat) (js : List Nat) (k : Nat) (P : Addr) (q : Str) (ms : MLs) : MLs := fun σ h => match h[k]? with
  | some (.tab P' q') => if P' = P ∧ q' = q then bindM (ms σ h) fun as h2 => .ok (.lam i js :: as) h2 else .bad
  | _ => .bad
section
variable {X : Cx} {c : Cg} {W : WX} {m : ME} {ms : MLs} {e : Expr} {es : List Expr} {ec : List (Str × Addr)}
theorem ALo.shift {σ : L2.St} {w w1 : Wd} {H H1 : Hp} {Q : List V → Hp → Prop} {r : MR (List AU)} (e : Ext w H w1 H1) (ok : WOk w1 H1) (h : ALo c W ec σ w H Q r) : ALo c W ec σ w1 H1 Q r := by
  cases r with
  | ok as h' => exact fun w' H' vs x o rh ra => h w' H' vs (e.trans ok x) o rh ra
  | err x h' => exact fun w' H' cls dx e' ok' rh rx => h w' H' cls dx (e.trans ok e') ok' rh rx
  | bad => exact h
theorem la_nil : PA X [] (tAsL c W ec lNil) := PA.imp pa_nil fun σ H Q ⟨w, Fs, σd, hd, S, p⟩ => p w H [] Ext.refl S.wok S.h rfl
theorem la_cons (ha : PE X e (tV false .E c W m)) (hr : PA X es (tAsL c W ec ms)) (hs : starEach (e :: es) X.env = (false, eval e X.env) :: starEach es X.env := by rfl) : PA X (e :: es) (tAsL c W ec (lCons m ms)) :=
  PA.imp (pa_cons ha hr hs) fun σ H Q ⟨w, Fs, σd, hd, S, p⟩ => by
    refine ⟨w, Fs, σd, hd, S, ?_⟩
    unfold lCons at p
    revert p
    cases m σd hd with
    | bad => exact fun p => p
    | err x h' => exact fun p => p
    | ok u h1 =>
      intro p w1 H1 v Fv mo pp rh ru
      have p : ALo c W ec σ w H Q (if noOwn u = true then bindM (ms σd h1) fun as h2 => .ok (.v u :: as) h2 else .bad) := p
      by_cases hn : noOwn u = true
      · rw [if_pos hn] at p
        have eF := noOwn_F hn ru
        subst eF
        have S1 := S.ext mo.ext.1 mo.ext.2 rh
        have p1 := ALo.shift mo.ext.1 mo.ext.2 p
        refine ⟨w1, Fs, σd, h1, S1, ?_⟩
        revert p1
        cases ms σd h1 with
        | bad => exact fun p => p
        | err x h' => exact fun p => p
        | ok as h2 =>
          exact fun p1 w2 H2 vs x o rh2 ra => p1 w2 H2 (v :: vs) x o rh2 ⟨v, vs, rfl, RU.mono x.rho x.z (frozen_kept S1.wok x) (fun _ z => nomatch z) ru, ra⟩
      · rw [if_neg hn] at p; exact p.elim
theorem la_lam {cP P : Addr} {q : Str} {sc : Scope} {N : List Str} {J : CloI} {i k : Nat} {js : List Nat} {pos : Pos} (M : Lm X cP P q) (hci : c.ci i = some J) (hq : J.qual = q) (hs' : X.env.scope = sc) (L : LamAt sc N J js) (hdef : ∀ env : Env, defaultsOf J.params env = ([], []))
    (hr : PA X es (tAsL c W X.env.cells ms)) (hs : starEach (.Lambda J.params J.body J.scope pos :: es) X.env = (false, eval (.Lambda J.params J.body J.scope pos) X.env) :: starEach es X.env := by rfl) : PA X (.Lambda J.params J.body J.scope pos :: es) (tAsL c W X.env.cells (lLam i js k P q ms)) :=
  PA.imp (pa_cons (pe_lm M hq hs' L hdef) hr hs) fun σ H Q ⟨w, Fs, σd, hd, S, p⟩ => by
    unfold lLam at p
    split at p
    · rename_i P' q' hk
      split at p
      · rename_i he
        rw [he.1, he.2] at hk
        obtain ⟨a0, G0, hρ, rc, hsub⟩ := RHl.get S.h hk
        obtain ⟨ea, eG, ps, hP, ht, ha⟩ := id rc
        rw [ea] at hρ
        have PF : P ∈ w.F := hsub _ (by rw [eG]; exact List.mem_cons_self)
        have fin : ∀ (w1 : Wd) (H1 : Hp) (f c' : Addr), Ext w H w1 H1 → Sta c w1 Fs σd hd σ H1 → w1.Z f → H1 f = some (LmO f J (cloFrom X.env.cells J.scope.names []) c') → w1.Z c' → H1 c' = some (LamX.CodeO c' J.qual) →
            tAsL c W X.env.cells ms σ H1 fun vs H2 => Q (.ref f :: vs) H2 := fun w1 H1 f c' x S1 zf hf zc hc => by
          refine ⟨w1, Fs, σd, hd, S1, ?_⟩
          have p1 := ALo.shift x S1.wok p
          revert p1
          cases ms σd hd with
          | bad => exact fun p => p
          | err x h' => exact fun p => p
          | ok as h2 => exact fun p1 w2 H2 vs y o rh2 ra => p1 w2 H2 (.ref f :: vs) y o rh2 ⟨.ref f, vs, rfl, ⟨J, f, c', hci, rfl, y.z _ zf, frozen_kept S1.wok y _ _ zf hf, y.z _ zc, frozen_kept S1.wok y _ _ zc hc⟩, ra⟩
        refine ⟨ps, hP, ht, fun pos cv z => ?_, fun f c' nf hc' hin => ?_, fun f c' ps' nf nc nfc ht' hin => ?_⟩
        · obtain ⟨c', e1, _, e3⟩ := ha pos cv z
          exact ⟨c', e1, by rw [hq]; exact e3⟩
        · obtain ⟨pp, hpp⟩ := hin
          obtain ⟨c2, e1, zc, _⟩ := ha pp _ hpp
          cases e1
          obtain ⟨x1, ok1⟩ := ext_tup (o := LmO f J (cloFrom X.env.cells J.scope.names []) c') nf S.ok
          have hz : ∀ z, w.Z z → w.Z z ∨ z = f := fun z q => .inl q
          have S1 : Sta c ⟨w.ρ, fun z => w.Z z ∨ z = f, w.F⟩ Fs σd hd σ (upd H f (LmO f J (cloFrom X.env.cells J.scope.names []) c')) := ⟨RS.mono (fun _ _ q => q) hz (fun z o _ q => upd_keep nf z o q) (fun z _ o q => upd_keep nf z o q) S.s, RH_updZ nf S.h, ok1⟩
          exact fin _ _ f c' (ext_tup nf S.wok).1 S1 (.inr rfl) upd_same (.inl zc) (upd_keep nf _ _ hc')
        · let H1 := upd (upd (upd H P (.tbl ps')) c' (LamX.CodeO c' J.qual)) f (LmO f J (cloFrom X.env.cells J.scope.names []) c')
          have nPc : P ≠ c' := fun z => by rw [z, nc] at hP; cases hP
          have nPf : P ≠ f := fun z => by rw [z, nf] at hP; cases hP
          have atO : ∀ b, b ≠ P → b ≠ c' → b ≠ f → H1 b = H b := fun b h1 h2 h3 => by show upd _ _ _ b = _; rw [upd_ne h3, upd_ne h2, upd_ne h1]
          have atP : H1 P = some (.tbl ps') := by show upd _ _ _ P = _; rw [upd_ne nPf, upd_ne nPc, upd_same]
          have atc : H1 c' = some (LamX.CodeO c' J.qual) := by show upd _ _ _ c' = _; rw [upd_ne (Ne.symm nfc), upd_same]
          have atf : H1 f = some (LmO f J (cloFrom X.env.cells J.scope.names []) c') := upd_same
          have kp : ∀ b o, H b = some o → b ≠ P → H1 b = some o := fun b o q n => by
            rw [atO b n (ne_of_none q nc) (ne_of_none q nf)]; exact q
          have th : ∀ b, H b ≠ none → H1 b ≠ none := fun b n => by
            by_cases z : b = P
            · rw [z, atP]; exact fun q => nomatch q
            · cases q : H b with
              | none => exact absurd q n
              | some o => rw [kp b o q z]; exact fun q => nomatch q
          let w1 : Wd := ⟨w.ρ, fun z => w.Z z ∨ z = c' ∨ z = f, w.F⟩
          have hz : ∀ z, w.Z z → w1.Z z := fun z q => .inl q
          have zP : ∀ z, w.Z z → z ≠ P := fun z q e => S.wok.sep P PF (e ▸ q)
          have x1 : Ext w H w1 H1 := ⟨fun _ _ q => q, hz, fun b o q n => kp b o q (fun e => n (e ▸ PF)), fun b q => by
            rcases q with (q | q | q) | q
            · exact .inl q
            · exact .inr (.inr (by rw [q]; exact nc))
            · exact .inr (.inr (by rw [q]; exact nf))
            · exact .inr (.inl q), th⟩
          have ndS := List.nodup_append.mp S.ok.nd
          have ok1 : WOk (full w1 Fs) H1 := ⟨S.ok.nd, fun b hb z => by
            rcases z with z | z | z
            · exact S.ok.sep b hb z
            · exact S.ok.trF b hb (by rw [z]; exact nc)
            · exact S.ok.trF b hb (by rw [z]; exact nf), fun b hb => th b (S.ok.trF b hb), fun b z => by
            rcases z with z | z | z
            · exact th b (S.ok.trZ b z)
            · rw [z, atc]; exact fun q => nomatch q
            · rw [z, atf]; exact fun q => nomatch q⟩
          have rhH : RHl c w1.Z H w.ρ hd w.ρ w.F := RHl.mono (fun _ _ q => q) hz (fun _ _ _ q => q) (fun _ _ _ q => q) S.h
          obtain ⟨Fx, F1, F2, e1, rc1, kk⟩ := RHl.focus rhH hk hρ
          obtain ⟨_, eFx, _⟩ := id rc1
          subst eFx
          have ndF : (F1 ++ [P] ++ F2).Nodup := by rw [← e1]; exact ndS.2.1
          have notP : ∀ b ∈ F1 ++ F2, b ≠ P := fun b hb e => by
            subst e
            have pm : (F1 ++ [b] ++ F2).Perm (b :: (F1 ++ F2)) := by rw [List.append_assoc]; exact List.perm_middle
            exact (List.nodup_cons.mp (pm.nodup_iff.mp ndF)).1 hb
          have rcM : RC c w1.Z H1 w1.ρ (.tab P q) P [P] := ⟨rfl, rfl, ps', atP, ht', fun p0 cv z => by
            rcases hin p0 cv z with z | z
            · obtain ⟨c2, e2, e3, e4⟩ := ha p0 cv z
              exact ⟨c2, e2, .inl e3, kp _ _ e4 (zP _ e3)⟩
            · exact ⟨c', z, .inr (.inl rfl), by rw [← hq]; exact atc⟩⟩
          have rh1 := kk H1 (.tab P q) [P] (fun b o z e => by
            refine kp b o e ?_
            rcases z with (z | z | z) | z
            · exact zP b z
            · intro _; rw [z, nc] at e; cases e
            · intro _; rw [z, nf] at e; cases e
            · exact notP b z) rcM
          have ehd : hd.set k (.tab P q) = hd := by
            obtain ⟨hl, e⟩ := List.getElem?_eq_some_iff.mp hk
            rw [← e, List.set_getElem_self]
          rw [ehd, ← e1] at rh1
          have S1 : Sta c w1 Fs σd hd σ H1 := ⟨RS.mono (fun _ _ q => q) hz (fun b o z q => kp b o q (zP b z)) (fun b hb o q => kp b o q fun e => ndS.2.2 b hb P PF e) S.s, rh1, ok1⟩
          exact fin w1 H1 f c' x1 S1 (.inr (.inr rfl)) atf (.inr (.inl rfl)) atc
      · exact p.elim
    · exact p.elim
end
end MM

/-! MM21: a def called with lambdas: its caller's cells are tracked meanwhile. -/
namespace MM
open PySem PySem.Spec PyProof.Rows L2
open Classical in
/-- the cells that T tells are tracked -/
noncomputable def trT (T : Addr → Prop) (h : Heap) (H : Hp) : Hp := fun b => if T b then (h.get? b).map (CelO b) else H b
section
variable {T : Addr → Prop} {H H' : Hp} {h h' : Heap} {b : Addr}
theorem trT_in {o : Obj} (q : T b) (e : h.get? b = some o) : trT T h H b = some (CelO b o) := by unfold trT; rw [if_pos q, e]; rfl
theorem trT_out (q : ¬ T b) : trT T h H b = H b := by unfold trT; rw [if_neg q]
/-- the running frame's cells -/
abbrev envT (X : Cx) : Addr → Prop := fun b => ∃ y, X.env.cells.lookup y = some b
variable {X : Cx} {pins : List (Addr × Obj)} {σ : L2.St} {s : Shared}
theorem cel_at (I : Inv X pins σ H s) (q : envT X b) : ∃ o v, s.heap.get? b = some o ∧ o.data = .cell v ∧ H b = none ∧ trT (envT X) s.heap H b = some (CelO b o) := by
  obtain ⟨y, e⟩ := q
  obtain ⟨v, o, ho, hd⟩ := I.cell y b e
  exact ⟨o, v, ho, hd, I.freeC y b e, trT_in ⟨y, e⟩ ho⟩
theorem trT_keep (I : Inv X pins σ H s) {o : HO} (e : H b = some o) : ¬ envT X b ∧ trT (envT X) s.heap H b = some o := by
  have n : ¬ envT X b := fun q => by obtain ⟨_, _, _, _, n, _⟩ := cel_at I q; rw [e] at n; cases n
  exact ⟨n, by rw [trT_out n]; exact e⟩
theorem trT_TCel (I : Inv X pins σ H s) : TCel (envT X) (trT (envT X) s.heap H) := fun b q => by
  obtain ⟨o, _, _, _, _, e⟩ := cel_at I q
  exact ⟨o, e⟩
theorem trT_hok (I : Inv X pins σ H s) : HOk X.prog X.w (trT (envT X) s.heap H) s.heap := fun b u e => by
  by_cases q : envT X b
  · obtain ⟨o, v, ho, hd, _, e2⟩ := cel_at I q
    rw [e2] at e
    cases e
    exact ⟨ho, o, ho⟩
  · rw [trT_out q] at e
    exact (I.hok b u e).stay (fun _ _ _ z => z) (fun c z => (trT_keep I z).2) fun c xs z => (trT_keep I z).2
theorem cel_new (I : Inv X pins σ H s) (hfn : ∀ y, X.fn y = true) (q : envT X b) : X.s_0.heap.objs.size ≤ b ∧ b ≠ X.env.locals := let ⟨y, e⟩ := q; ⟨I.ok.cab y b (hfn y) e, I.cne y b e⟩
theorem cel_nofr (I : Inv X pins σ H s) (hfn : ∀ y, X.fn y = true) (q : envT X b) : b ∉ frs X.stack := fun hb => by
  obtain ⟨h1, h2⟩ := cel_new I hfn q
  rcases List.mem_cons.mp (I.stkSub b hb) with z | z
  · exact h2 z
  · obtain ⟨_, o, ho, _⟩ := I.ok.funs.mem z
    exact absurd (Nat.lt_of_lt_of_le (Heap.lt_size ho) h1) (Nat.lt_irrefl _)
theorem trT_env0 (I : Inv X pins σ H s) (hfn : ∀ y, X.fn y = true) : Env0 X.prog X.w X.K X.mg X.base X.A X.stack s (trT (envT X) s.heap H) := by
  have e0 := I.env0
  refine ⟨e0.frames, e0.mod, fun b o e => ⟨(e0.bs b o e).1, ?_⟩, e0.bsz, e0.funs, fun b hb => ?_, trT_hok I, e0.bare⟩
  · rw [trT_out fun q => ?_]
    · exact (e0.bs b o e).2
    · exact absurd (Nat.lt_of_lt_of_le (Heap.lt_size e) (Nat.le_trans I.ok.bsz (cel_new I hfn q).1)) (Nat.lt_irrefl _)
  · rw [trT_out fun q => cel_nofr I hfn q hb]
    exact e0.frf b hb
/-- a call with the cells tracked, seen without -/
theorem un_tr (I : Inv X pins σ H s) {fs : List Addr} (u : Un fs [] (trT (envT X) s.heap H) H' s.heap h') (x : HOk X.prog X.w H' h') : Un fs [] H (drT (envT X) H') s.heap h' ∧ HOk X.prog X.w (drT (envT X) H') h' ∧ TCel (envT X) H' := by
  have tc : TCel (envT X) H' := fun b q => by
    obtain ⟨o, _, _, _, _, e⟩ := cel_at I q
    exact ⟨o, u.frzs b o _ e⟩
  refine ⟨⟨fun b o e n f g => ?_, fun b o e n f g => ?_, fun b o e n g => ?_, u.there, fun b xs e => ?_, fun b o v e => ?_, fun b ps e => ?_⟩, hok_dr x tc, tc⟩
  · by_cases q : envT X b
    · obtain ⟨o2, _, h2, _, _, e2⟩ := cel_at I q
      rw [e] at h2
      cases h2
      exact (x b _ (u.frzs b o _ e2)).1
    · exact u.keep b o e (by rw [trT_out q]; exact n) f g
  · by_cases q : envT X b
    · obtain ⟨o2, _, h2, _, _, e2⟩ := cel_at I q
      rw [e] at h2
      cases h2
      exact ⟨o.slots, (x b _ (u.frzs b o _ e2)).1⟩
    · exact u.slot b o e (by rw [trT_out q]; exact n) f g
  · by_cases q : envT X b
    · exact drT_in q
    · rw [drT_out q]
      exact u.free b o e (by rw [trT_out q]; exact n) g
  · obtain ⟨n, e2⟩ := trT_keep I e
    rw [drT_out n]
    exact u.tups b xs e2
  · obtain ⟨n, e2⟩ := trT_keep I e
    rw [drT_out n]
    exact u.frzs b o v e2
  · obtain ⟨n, e2⟩ := trT_keep I e
    rw [drT_out n]
    exact u.tbls b ps e2
theorem run_tr {k : Nat} {f : Addr} {fd : FuncData} {ps : List Str} {sp : Sp} {us : List Value} {vs : List V} {Q : VK} (F : FnOk X.prog X.w X.K X.mg X.base (L2.CX X.prog X.w) k f fd ps sp) (hr : Room k X.A) (hb : Binds X.K fd ps []) (hfn : ∀ y, X.fn y = true) (I : Inv X pins σ H s) (r : Vals vs us)
    (h : sp vs (trT (envT X) s.heap H) (fun v H' => TCel (envT X) H' → Q v (drT (envT X) H')) fun _ _ _ => False) : wpAny (model X.prog X.w) X.A (call (.ref f) us) (EP X pins σ Q) X.xe s := by
  have hl : (us ++ []).length = ps.length := by rw [List.append_nil, ← r.length]; exact F.len _ _ _ _ h
  refine wpAny_call (codeAny_mono (F.run X.A X.stack s _ ⟨us, []⟩ (us ++ []) vs _ _ hr (trT_env0 I hfn) (hb s us I.kIn hl) (by rw [List.append_nil]; exact r) h) fun r s' hq => ?_)
  cases r with
  | error e =>
    obtain ⟨_, _, _, _, _, _, _, _, _, _, _, _, z⟩ := hq
    exact z.elim
  | ok fl =>
    cases fl with
    | ret u =>
      obtain ⟨v, H', os, bare, un, hok, rv, q⟩ := hq
      obtain ⟨un2, hok2, tc⟩ := un_tr I un hok
      exact I.after ⟨v, _, os, bare, un2, hok2, rv, q tc⟩
    | next => exact False.elim hq
    | brk => exact False.elim hq
    | cont => exact False.elim hq
end
/-- the arguments, the lambdas with what they catch -/
def resL (σ : SL) : List AU → Option (List UV)
  | [] => some []
  | .v u :: r => (resL σ r).map (u :: ·)
  | .lam i js :: r => match mapO (fun j => match σ[j]? with
      | some (some u) => if plainU u then some u else none
      | _ => none) js, resL σ r with
    | some caps, some us => some (.clo i caps :: us)
    | _, _ => none
def mCallL (f : MF) (ms : MLs) : ME := fun σ h => bindM (ms σ h) fun as h1 => match resL σ as with
  | some us => match f us h1 with
    | .ok (.d x) h2 => if h2.all noCloC = true then .ok (.d x) h2 else .bad
    | _ => .bad
  | none => .bad
/-- the lambdas' places in the maker -/
def LamsOk (c : Cg) (sc : Scope) (N : List Str) (as : List AU) : Prop := ∀ a ∈ as, match a with
  | .v _ => True
  | .lam i js => ∃ J, c.ci i = some J ∧ LamAt sc N J js
section
variable {X : Cx} {c : Cg} {W : WX} {pins : List (Addr × Obj)} {σ : L2.St} {H : Hp} {s : Shared}
theorem mapO_get {α β : Type} {f : α → Option β} : ∀ {xs : List α} {ys : List β}, mapO f xs = some ys → ys.length = xs.length ∧ ∀ (i : Nat) x, xs[i]? = some x → ∃ y, ys[i]? = some y ∧ f x = some y
  | [], ys, h => by cases h; exact ⟨rfl, fun i x e => by simp at e⟩
  | x :: xs, ys, h => by
    unfold mapO at h
    split at h
    · rename_i y ys' q1 q2
      cases h
      obtain ⟨h1, h2⟩ := mapO_get q2
      refine ⟨by simp [h1], fun i z e => ?_⟩
      cases i with
      | zero => simp at e; subst e; exact ⟨y, rfl, q1⟩
      | succ i => simp at e; simpa using h2 i z e
    · cases h
theorem RS.pick {Z : Addr → Prop} {ρ : List Addr} {Fs : List Addr} {σd : SL} (rs : RS c Z H ρ σd σ Fs) : ∀ {js : List Nat} {caps : List UV}, mapO (fun j => match σd[j]? with
      | some (some u) => if plainU u then some u else none
      | _ => none) js = some caps → caps.all plainU = true ∧ ∃ vs, RUl c Z H ρ caps vs [] ∧ js.map (fun j => σ[j]?) = vs.map fun v => some (some v)
  | [], caps, h => by cases h; exact ⟨rfl, [], ⟨rfl, rfl⟩, rfl⟩
  | j :: js, caps, h => by
    unfold mapO at h
    split at h
    · rename_i u caps' q1 q2
      cases h
      obtain ⟨p1, vs, p2, p3⟩ := RS.pick rs q2
      split at q1
      · rename_i u' hu
        split at q1
        · rename_i hp
          cases q1
          obtain ⟨v, G, e, r, _⟩ := rs.get hu
          have eG : G = [] := by
            cases u with
            | d x => exact r.1
            | ref i => exact r.1
            | _ => exact absurd hp (by simp [plainU])
          subst eG
          exact ⟨by rw [List.all_cons, hp, p1]; rfl, v :: vs, ⟨v, vs, [], [], rfl, rfl, r, p2⟩, by rw [List.map_cons, List.map_cons, e, p3]⟩
        · cases q1
      · cases q1
    · cases h
/-- behind the arguments, with the cells tracked -/
theorem res_ok {w : Wd} {Fs : List Addr} {σd : SL} {hd : HS} {sc : Scope} {N : List Str} (I : Inv X pins σ H s) (S : Sta c w Fs σd hd σ H) (hs : X.env.scope = sc) (hN : X.N = N) : ∀ {as : List AU} {us : List UV} {vs : List V}, LamsOk c sc N as → RAl c w.Z H w.ρ X.env.cells as vs → resL σd as = some us →
    RUl c (fun b => w.Z b ∨ envT X b) (trT (envT X) s.heap H) w.ρ us vs []
  | [], us, vs, _, r, e => by
    cases e
    exact ⟨r, rfl⟩
  | .v u :: as, us, vs, L, ⟨v, r, e1, h, t⟩, e => by
    simp only [resL, Option.map_eq_some_iff] at e
    obtain ⟨us', e, rfl⟩ := e
    exact ⟨v, r, [], [], e1, rfl, RU.mono (fun _ _ q => q) (fun _ z => .inl z) (fun b o _ q => (trT_keep I q).2) (fun _ z => nomatch z) h, res_ok I S hs hN (fun a ha => L a (List.mem_cons_of_mem _ ha)) t e⟩
  | .lam i js :: as, us, vs, L, ⟨v, r, e1, ⟨J, f, c', hci, ev, zf, hf, zc, hc⟩, t⟩, e => by
    unfold resL at e
    split at e
    · rename_i caps us' q1 q2
      cases e
      obtain ⟨p1, ws, p2, p3⟩ := RS.pick S.s q1
      obtain ⟨J', hci', LA⟩ := L (.lam i js) List.mem_cons_self
      rw [hci] at hci'
      cases hci'
      have hfree : ∀ y ∈ J.scope.names, y.2 = .free → ∃ c, X.env.cells.lookup y.1 = some c := fun y hy e => by
        have z := LA.free y hy e
        rw [← hs] at z
        exact I.ok.has _ z
      refine ⟨v, r, [], [], e1, rfl, ?_, res_ok I S hs hN (fun a ha => L a (List.mem_cons_of_mem _ ha)) t q2⟩
      refine ⟨rfl, J, f, c', _, ws, hci, ev, .inl zf, (trT_keep I hf).2, .inl zc, (trT_keep I hc).2, ⟨?_, fun y a q => ?_, fun x y a q1 q2 => I.ok.inj x y a (NdefX.clo_cm hfree q1) (NdefX.clo_cm hfree q2), fun j y u e1 e2 => ?_⟩, RUl.mono (fun _ _ q => q) (fun _ z => .inl z) (fun b o _ q => (trT_keep I q).2) (fun _ z => nomatch z) p2⟩
      · have l1 := congrArg List.length LA.at_
        have l2 := congrArg List.length p3
        rw [List.length_map, List.length_map] at l1 l2
        omega
      · have q2 := NdefX.clo_cm hfree q
        obtain ⟨o, w0, _, hd, _, e⟩ := cel_at I ⟨y, q2⟩
        exact ⟨.inr ⟨y, q2⟩, o, w0, e, hd⟩
      · have a1 : (js.map fun j => N[j]?)[j]? = some (some y) := by rw [LA.at_, List.getElem?_map, e1]; rfl
        have a2 : (js.map fun j => σ[j]?)[j]? = some (some (some u)) := by rw [p3, List.getElem?_map, e2]; rfl
        rw [List.getElem?_map] at a1 a2
        cases ej : js[j]? with
        | none => rw [ej] at a1; cases a1
        | some n =>
          rw [ej] at a1 a2
          have n1 : X.N[n]? = some y := by rw [hN]; exact Option.some.inj a1
          have n2 : σ[n]? = some (some u) := Option.some.inj a2
          have hy := LA.caps y (List.mem_of_getElem? e1)
          have kin := LA.free _ hy rfl
          rw [← hs] at kin
          obtain ⟨m, hn, hl⟩ := I.loc
          obtain ⟨u2, ru, lk⟩ := hl n y u n1 n2 (kin.elim (fun z => .inr (.inl z)) fun z => .inr (.inr z))
          rcases lk with ⟨z, _⟩ | ⟨_, a, q, o, ho, hdo⟩
          · have z : X.env.scope.names.lookup y = some .local := z
            have kin : X.env.scope.names.lookup y = some .cell ∨ X.env.scope.names.lookup y = some .free := kin
            rcases kin with k | k <;> · rw [z] at k; cases k
          · exact ⟨a, o, u2, NdefX.clo_has hfree hy q, trT_in ⟨y, q⟩ ho, hdo, ru⟩
    · cases e
theorem e_callL {P : Program} {w : World} {base : Heap} {N : List Str} {sc : Scope} {k n : Nat} {fa cP Pt : Addr} {fd : FuncData} {ps : List Str} {f : MF} {x q : Str} {p pos : Pos} {e : Expr} {es : List Expr} {ms : MLs} (C : Cc c P w base N sc k X W) (M : Lm X cP Pt q)
    (F : FnOk X.prog X.w X.K X.mg X.base (L2.CX X.prog X.w) k fa fd ps (spM c n f)) (hg : Gl X x) (hm : X.mg x = some (.ref fa)) (hk : PySem.W.keepIn X.K (.ref fa) = true) (hb : Binds X.K fd ps [])
    (ha : PA X (e :: es) (tAsL c W X.env.cells ms)) (hn : ∀ σd hd as h1, ms σd hd = .ok as h1 → as.length = n ∧ LamsOk c sc N as)
    (hdb : (x == ("__debug__" : Str)) = false := by decide) (he : starEach (e :: es) X.env = (false, eval e X.env) :: starEach es X.env := by rfl) (hpl : (backTo pos (starEach es X.env)).any (·.1) = false := by rfl) :
    PE X (.Call (.Name x p) (e :: es) [] pos) (tV false .E c W (mCallL f ms)) := by
  refine ⟨fun pins s σ H Q I ⟨wd, Fs, σd, hd, S, pp⟩ => ?_⟩
  refine wpAny_Call_Name_kw (ld_glob I hg hm ?_ hdb)
  let R : List V → Hp → Prop := fun vs H1 => ∃ w1 as h1, Ext wd H w1 H1 ∧ WOk w1 H1 ∧ RH c w1.Z H1 w1.ρ h1 w1.F ∧ RAl c w1.Z H1 w1.ρ X.env.cells as vs ∧ ms σd hd = .ok as h1
  have args : tAsL c W X.env.cells ms σ H R := by
    refine ⟨wd, Fs, σd, hd, S, ?_⟩
    unfold mCallL at pp
    revert pp
    cases em : ms σd hd with
    | ok as h1 => exact fun _ w' H' vs x o rh ra => ⟨w', as, h1, x, o, rh, ra, em⟩
    | err e h1 => exact fun pp => pp
    | bad => exact fun pp => pp
  refine PySem.W.callWith_K (h₀ := X.base) I.ok.mod.kin hk (thn (ha.run pos pins s σ H R I args) fun us s1 ⟨vs, H1, I1, r, w1, as, h1, x1, o1, rh1, ra, em⟩ => ⟨I1.kIn, ?_⟩) he hpl
  unfold mCallL at pp
  rw [em] at pp
  simp only [bindM_ok] at pp
  split at pp
  · rename_i us' hus
    have S1 := S.ext x1 o1 rh1
    obtain ⟨hl, L⟩ := hn _ _ _ _ em
    have rl := res_ok I1 S1 C.esc C.eN L ra hus
    have p1 := EPo.shift x1 o1 (pu := false) .no pp
    let w2 : Wd := ⟨w1.ρ, fun b => w1.Z b ∨ envT X b, w1.F⟩
    let H2 := trT (envT X) s1.heap H1
    have up : ∀ b o, H1 b = some o → H2 b = some o := fun b o q => (trT_keep I1 q).2
    have nT : ∀ b, H1 b ≠ none → ¬ envT X b := fun b n q => by obtain ⟨_, _, _, _, z, _⟩ := cel_at I1 q; exact n z
    have th : ∀ b, H1 b ≠ none → H2 b ≠ none := fun b n => by
      cases q : H1 b with
      | none => exact absurd q n
      | some o => rw [up b o q]; exact fun z => nomatch z
    have ok2 : WOk w2 H2 := ⟨o1.nd, fun b hb z => by
      rcases z with z | z
      · exact o1.sep b hb z
      · exact nT b (o1.trF b hb) z, fun b hb => th b (o1.trF b hb), fun b z => by
      rcases z with z | z
      · exact th b (o1.trZ b z)
      · obtain ⟨o, _, _, _, _, e⟩ := cel_at I1 z
        rw [show H2 b = _ from e]
        exact fun q => nomatch q⟩
    have rh2 : RH c w2.Z H2 w2.ρ h1 w2.F := RHl.mono (fun _ _ q => q) (fun _ z => .inl z) (fun b o _ q => up b o q) (fun b _ o q => up b o q) rh1
    have hlen : vs.length = n := by
      have : ∀ {as : List AU} {vs : List V}, RAl c w1.Z H1 w1.ρ X.env.cells as vs → vs.length = as.length := fun {as} => by
        induction as with
        | nil => intro vs h; rw [show vs = [] from h]; rfl
        | cons a as ih => intro vs ⟨v, r, e, _, t⟩; rw [e, List.length_cons, List.length_cons, ih t]
      rw [this ra, hl]
    refine run_tr F C.room hb M.fn I1 r ⟨hlen, w2, us', h1, ok2, rh2, rl, ?_⟩
    revert p1
    cases f us' h1 with
    | bad => exact fun p => p.elim
    | err e h' => exact fun p => p.elim
    | ok u h' =>
      cases u with
      | d d =>
        intro p1 w3 H3 v Fv mo rh3 ru3 tc
        have p1 : EPo false .E c W σ w1 H1 Q (if h'.all noCloC = true then .ok (.d d) h' else .bad) := p1
        by_cases hq : h'.all noCloC = true
        · rw [if_pos hq] at p1
          have eF : Fv = [] := ru3.1
          subst eF
          let w4 : Wd := ⟨w3.ρ, mZ w3.Z (envT X), w3.F⟩
          have x3 := mo.ext.1
          have o3 := mo.ext.2
          have zT : ∀ b, envT X b → w3.Z b := fun b q => x3.z b (.inr q)
          have nF : ∀ b ∈ w3.F, ¬ envT X b := fun b hb q => o3.sep b hb (zT b q)
          have x4 : Ext w1 H1 w4 (drT (envT X) H3) := ⟨x3.rho, fun b z => ⟨x3.z b (.inl z), nT b (o1.trZ b z)⟩, fun b o q n => by
            rw [drT_out (nT b (by rw [q]; exact fun z => nomatch z))]
            exact x3.keep b o (up b o q) n, fun b q => by
            have nb : ¬ envT X b := q.elim (fun z => z.2) (nF b)
            rcases x3.new b (q.elim (fun z => .inl z.1) .inr) with z | z | z
            · exact z.elim .inl fun z => absurd z nb
            · exact .inr (.inl z)
            · refine .inr (.inr ?_)
              exact (trT_out nb).symm.trans z, fun b n => by
            rw [drT_out (nT b n)]
            exact x3.there b (th b n)⟩
          have o4 : WOk w4 (drT (envT X) H3) := ⟨o3.nd, fun b hb z => o3.sep b hb z.1, fun b hb => by rw [drT_out (nF b hb)]; exact o3.trF b hb, fun b z => by rw [drT_out z.2]; exact o3.trZ b z.1⟩
          exact p1 w4 _ v [] ⟨by rw [List.append_nil]; exact x4, by rw [List.append_nil]; exact o4⟩ .no (RHl.dr tc hq rh3) ⟨rfl, RD.dr tc ru3.2⟩
        · rw [if_neg hq] at p1
          exact p1.elim
      | _ => exact fun p => p.elim
  · exact pp.elim
end
end MM

/-! MM22: the rules in the words of the printed derivations. -/
namespace MM
open PySem PySem.Spec PyProof.Rows L2

def visB (sc : Scope) (x : Str) : Bool := match sc.names.lookup x with
  | some .local => true
  | some .cell => true
  | some .free => true
  | _ => false
theorem visB_ok {sc : Scope} {x : Str} (h : visB sc x = true) : Vis sc x := by
  unfold visB at h
  split at h
  · rename_i q; exact .inl q
  · rename_i q; exact .inr (.inl q)
  · rename_i q; exact .inr (.inr q)
  · cases h
def locB (sc : Scope) (x : Str) : Bool := match sc.names.lookup x with
  | some .local => true
  | some .cell => true
  | _ => false
theorem locB_ok {sc : Scope} {x : Str} (h : locB sc x = true) : Loc sc x := by
  unfold locB at h
  split at h
  · rename_i q; exact .inl q
  · rename_i q; exact .inr q
  · cases h
/-- no such names in the module -/
def NoG (c : Cg) (L : List Str) : Prop := ∀ x ∈ L, c.mg x = none
theorem NoG.at {c : Cg} {L : List Str} (h : NoG c L) {x : Str} (hx : L.contains x = true) : c.mg x = none := h x (by simpa using hx)
/-- a def that is known by its function -/
def Gd (c : Cg) (P : Program) (w : World) (base : Heap) (k : Nat) (x : Str) (n : Nat) (f : MF) : Prop :=
  ∃ fa fd ps, FnOk P w c.K c.mg base (L2.CX P w) k fa fd ps (spM c n f) ∧ c.mg x = some (.ref fa) ∧ PySem.W.keepIn c.K (.ref fa) = true ∧ Binds c.K fd ps []
theorem Gd.mono {c : Cg} {P : Program} {w : World} {base : Heap} {j k : Nat} {x : Str} {n : Nat} {f : MF} (g : Gd c P w base j x n f) (h : j ≤ k) : Gd c P w base k x n f :=
  let ⟨fa, fd, ps, F, a, b, d⟩ := g; ⟨fa, fd, ps, F.mono h, a, b, d⟩
section
variable {c : Cg} {P : Program} {w : World} {base : Heap} {N : List Str} {sc : Scope} {k : Nat} {X : Cx} {W : WX} {pu : Bool} {L : List Str} {m ma mb : ME} {ms : MAs} {a b e : Expr} {es : List Expr} {p pos : Pos}
theorem Cc.blk (C : Cc c P w base N sc k X W) {scope : Scope} (hk : scope.kind = .function) : Blk X scope fun Y => Cc c P w base N (relS scope sc) k Y W0 := fun s H Ca cl fp =>
  ⟨C.eP, C.ew, C.eK, C.emg, C.ebase, C.eN, by rw [← C.esc]; rfl, C.calm, C.room, LamX.takes0, .never, hk, C.nd⟩
theorem Cc.hu (C : Cc c P w base N sc k X W) : X.A.units + 64 < cLine := by have := C.room.un; omega
theorem Cc.var (C : Cc c P w base N sc k X W) (i : Nat) {x : Str} (hi : N[i]? = some x := by rfl) (hv : visB sc x = true := by rfl) (hd : (x == ("__debug__" : Str)) = false := by decide) (hcd : (x == ("__classdict__" : Str)) = false := by decide) : PE X (.Name x pos) (tVar i) := C.v i hi (visB_ok hv) hd hcd
theorem Cc.glb (C : Cc c P w base N sc k X W) {x : Str} (h : sc.names.lookup x = some .globalImplicit := by rfl) : Gl X x := C.gl h
theorem Cc.fn (C : Cc c P w base N sc k X W) {j : Nat} {fa : Addr} {fd : FuncData} {ps : List Str} {sp : Sp} (F : FnOk P w c.K c.mg base (L2.CX P w) j fa fd ps sp) : FnOk X.prog X.w X.K X.mg X.base (L2.CX X.prog X.w) j fa fd ps sp := by
  rw [C.eP, C.ew, ← C.eK, ← C.emg, C.ebase]; exact F
theorem g_call (C : Cc c P w base N sc k X W) {x : Str} {n : Nat} {f : MF} (G : Gd c P w base k x n f) (ha : PA X (e :: es) (tAs false c W ms)) (hn : ArgN ms n) (hg : sc.names.lookup x = some .globalImplicit := by rfl) (hdb : (x == ("__debug__" : Str)) = false := by decide)
    (he : starEach (e :: es) X.env = (false, eval e X.env) :: starEach es X.env := by rfl) (hpl : (backTo pos (starEach es X.env)).any (·.1) = false := by rfl) : PE X (.Call (.Name x p) (e :: es) [] pos) (tV false .E c W (mCall f ms)) := by
  obtain ⟨fa, fd, ps, F, m1, m2, m3⟩ := G
  exact e_call (C.fn F) C.room (C.gl hg) (C.mgo m1) (by rw [← C.eK]; exact m2) (by rw [← C.eK]; exact m3) C.tk ha hn hdb he hpl
theorem g_callL (C : Cc c P w base N sc k X W) {cP Pt : Addr} {q : Str} (M : Lm X cP Pt q) {x : Str} {n : Nat} {f : MF} {mls : MLs} (G : Gd c P w base k x n f) (ha : PA X (e :: es) (tAsL c W X.env.cells mls)) (hn : ∀ σd hd as h1, mls σd hd = .ok as h1 → as.length = n ∧ LamsOk c sc N as) (hg : sc.names.lookup x = some .globalImplicit := by rfl) (hdb : (x == ("__debug__" : Str)) = false := by decide)
    (he : starEach (e :: es) X.env = (false, eval e X.env) :: starEach es X.env := by rfl) (hpl : (backTo pos (starEach es X.env)).any (·.1) = false := by rfl) : PE X (.Call (.Name x p) (e :: es) [] pos) (tV false .E c W (mCallL f mls)) := by
  obtain ⟨fa, fd, ps, F, m1, m2, m3⟩ := G
  exact e_callL C M (C.fn F) (C.gl hg) (C.mgo m1) (by rw [← C.eK]; exact m2) (by rw [← C.eK]; exact m3) ha hn hdb he hpl
/-! #### how many arguments, which lambdas -/
abbrev LN (c : Cg) (sc : Scope) (N : List Str) (ms : MLs) (n : Nat) : Prop := ∀ σd hd as h1, ms σd hd = .ok as h1 → as.length = n ∧ LamsOk c sc N as
theorem ln_nil : LN c sc N lNil 0 := fun σ h as h1 e => by cases e; exact ⟨rfl, fun _ z => nomatch z⟩
theorem ln_cons {mls : MLs} {n : Nat} (h : LN c sc N mls n) : LN c sc N (lCons m mls) (n + 1) := fun σ hd as h1 e => by
  unfold lCons at e
  cases q : m σ hd with
  | err x h' => rw [q] at e; cases e
  | bad => rw [q] at e; cases e
  | ok u h' =>
    rw [q] at e
    simp only [bindM_ok] at e
    split at e
    · cases q2 : mls σ h' with
      | err x h' => rw [q2] at e; cases e
      | bad => rw [q2] at e; cases e
      | ok us2 h2 =>
        rw [q2] at e
        simp only [bindM_ok] at e
        cases e
        obtain ⟨l1, l2⟩ := h _ _ _ _ q2
        exact ⟨by rw [List.length_cons, l1], fun a ha => (List.mem_cons.mp ha).elim (fun z => by rw [z]; trivial) (l2 a)⟩
    · cases e
theorem ln_lam {mls : MLs} {n i kt : Nat} {js : List Nat} {Pt : Addr} {q : Str} {J : CloI} (hci : c.ci i = some J) (LA : LamAt sc N J js) (h : LN c sc N mls n) : LN c sc N (lLam i js kt Pt q mls) (n + 1) := fun σ hd as h1 e => by
  unfold lLam at e
  split at e
  · split at e
    · cases q2 : mls σ hd with
      | err x h' => rw [q2] at e; cases e
      | bad => rw [q2] at e; cases e
      | ok us2 h2 =>
        rw [q2] at e
        simp only [bindM_ok] at e
        cases e
        obtain ⟨l1, l2⟩ := h _ _ _ _ q2
        exact ⟨by rw [List.length_cons, l1], fun a ha => (List.mem_cons.mp ha).elim (fun z => by rw [z]; exact ⟨J, hci, LA⟩) (l2 a)⟩
    · cases e
  · cases e
def lamAtB (sc : Scope) (N : List Str) (J : CloI) (js : List Nat) : Bool :=
  J.scope.names.all (fun y => !decide (y.2 = .free) || decide (sc.names.lookup y.1 = some .cell) || decide (sc.names.lookup y.1 = some .free)) && J.caps.all (fun y => decide ((y, NameKind.free) ∈ J.scope.names)) && decide (js.map (fun j => N[j]?) = J.caps.map some)
theorem lamAtB_ok {J : CloI} {js : List Nat} (h : lamAtB sc N J js = true) : LamAt sc N J js := by
  unfold lamAtB at h
  simp only [Bool.and_eq_true, List.all_eq_true, Bool.or_eq_true, Bool.not_eq_true', decide_eq_true_eq, decide_eq_false_iff_not] at h
  obtain ⟨⟨h1, h2⟩, h3⟩ := h
  exact ⟨fun y hy e => (h1 y hy).elim (fun z => z.elim (fun z => absurd e z) .inl) .inr, h2, h3⟩
def cloSB (J : CloI) : Bool :=
  decide (J.scope.kind = .function) && !J.scope.isCoroutine && !J.scope.isGenerator && J.scope.names.all (fun y => !decide (y.2 = .local) && !decide (y.2 = .cell)) && J.scope.names.all (fun y => !decide (y.2 = .free) || decide (y.1 ∈ J.caps)) && J.caps.all (fun y => decide (J.scope.names.lookup y = some .free)) && decide J.caps.Nodup
theorem cloSB_ok {J : CloI} (h : cloSB J = true) (hb : ∀ (cl : List (Str × Addr)) (pm cv ctv : Value), bindArgs (PySem.W.kla_fn "<lambda>" J.qual J.params J.body J.scope cl pm cv ctv) ⟨[], []⟩ = pure []) : CloS J := by
  unfold cloSB at h
  simp only [Bool.and_eq_true, List.all_eq_true, Bool.or_eq_true, Bool.not_eq_true', decide_eq_true_eq, decide_eq_false_iff_not] at h
  obtain ⟨⟨⟨⟨⟨⟨h1, h2⟩, h3⟩, h4⟩, h5⟩, h6⟩, h7⟩ := h
  exact ⟨h1, h2, h3, h4, fun y hy e => (h5 y hy).elim (fun z => absurd e z) id, h6, h7, hb⟩

/-! #### built-in functions -/
theorem g_len (C : Cc c P w base N sc k X W) (B : NoG c L) (ha : PE X a (tV pu .C c W m)) (hb : L.contains ("len" : Str) = true := by rfl) (hg : sc.names.lookup ("len" : Str) = some .globalImplicit := by rfl) (hs : starEach [a] X.env = (false, eval a X.env) :: starEach [] X.env := by rfl) : PE X (.Call (.Name "len" p) [a] [] pos) (tV pu .E c W (mUn fLen m)) :=
  e_call1 (by have := @call_len X; rw [← C.eK] at this; exact this) fLen_ok (C.gl hg) (C.mgo (B.at hb)) PySem.boot_len ha hs
theorem g_abs (C : Cc c P w base N sc k X W) (B : NoG c L) (ha : PE X a (tV pu .C c W m)) (hb : L.contains ("abs" : Str) = true := by rfl) (hg : sc.names.lookup ("abs" : Str) = some .globalImplicit := by rfl) (hs : starEach [a] X.env = (false, eval a X.env) :: starEach [] X.env := by rfl) : PE X (.Call (.Name "abs" p) [a] [] pos) (tV pu .E c W (mUn fAbs m)) :=
  e_call1 call_abs fAbs_ok (C.gl hg) (C.mgo (B.at hb)) (by first | exact PyProof.Rows.Boot.«abs» | kernel_rfl) ha hs
theorem g_int (C : Cc c P w base N sc k X W) (B : NoG c L) (ha : PE X a (tV pu .C c W m)) (hb : L.contains ("int" : Str) = true := by rfl) (hg : sc.names.lookup ("int" : Str) = some .globalImplicit := by rfl) (hs : starEach [a] X.env = (false, eval a X.env) :: starEach [] X.env := by rfl) : PE X (.Call (.Name "int" p) [a] [] pos) (tV pu .E c W (mUn fInt m)) :=
  e_callTy1 call_int1 fInt_ok (C.gl hg) (C.mgo (B.at hb)) (by first | exact PyProof.Rows.Boot.«int» | kernel_rfl) ha hs
theorem g_sum (C : Cc c P w base N sc k X W) (B : NoG c L) (ha : PE X a (tV pu .C c W m)) (hb : L.contains ("sum" : Str) = true := by rfl) (hg : sc.names.lookup ("sum" : Str) = some .globalImplicit := by rfl) (hs : starEach [a] X.env = (false, eval a X.env) :: starEach [] X.env := by rfl) : PE X (.Call (.Name "sum" p) [a] [] pos) (tV pu .E c W (mUn fSum m)) :=
  e_call1 (by have := cr_sumM C.calm; rw [← C.eK] at this; exact this) fSum_ok (C.gl hg) (C.mgo (B.at hb)) (by first | exact PyProof.Rows.Boot.«sum» | kernel_rfl) ha hs
theorem g_max1 (C : Cc c P w base N sc k X W) (B : NoG c L) (ha : PE X a (tV pu .C c W m)) (hb : L.contains ("max" : Str) = true := by rfl) (hg : sc.names.lookup ("max" : Str) = some .globalImplicit := by rfl) (hs : starEach [a] X.env = (false, eval a X.env) :: starEach [] X.env := by rfl) : PE X (.Call (.Name "max" p) [a] [] pos) (tV pu .E c W (mUn fMax m)) :=
  e_call1 (by have := cr_max C.calm; rw [← C.eK] at this; exact this) fMax_ok (C.gl hg) (C.mgo (B.at hb)) (by first | exact PyProof.Rows.Boot.«max» | kernel_rfl) ha hs
theorem g_min1 (C : Cc c P w base N sc k X W) (B : NoG c L) (ha : PE X a (tV pu .C c W m)) (hb : L.contains ("min" : Str) = true := by rfl) (hg : sc.names.lookup ("min" : Str) = some .globalImplicit := by rfl) (hs : starEach [a] X.env = (false, eval a X.env) :: starEach [] X.env := by rfl) : PE X (.Call (.Name "min" p) [a] [] pos) (tV pu .E c W (mUn fMin m)) :=
  e_call1 (by have := cr_min C.calm; rw [← C.eK] at this; exact this) fMin_ok (C.gl hg) (C.mgo (B.at hb)) (by first | exact PyProof.Rows.Boot.«min» | kernel_rfl) ha hs
theorem g_max2 (C : Cc c P w base N sc k X W) (B : NoG c L) (ha : PE X a (tV pu .B c W ma)) (hb : PE X b (tV pu .C c W mb)) (hb1 : L.contains ("max" : Str) = true := by rfl) (hg : sc.names.lookup ("max" : Str) = some .globalImplicit := by rfl) (hs : starEach [a, b] X.env = (false, eval a X.env) :: starEach [b] X.env := by rfl) (hs2 : starEach [b] X.env = (false, eval b X.env) :: starEach [] X.env := by rfl) (hpl : (backTo pos (starEach [b] X.env)).any (·.1) = false := by rfl) : PE X (.Call (.Name "max" p) [a, b] [] pos) (tV pu .E c W (mBin fMax2 ma mb)) :=
  e_call2 (call_max2 C.calm) fMax2_ok (C.gl hg) (C.mgo (B.at hb1)) (by first | exact PyProof.Rows.Boot.«max» | kernel_rfl) ha hb hs hs2 (hpl := hpl)
theorem g_min2 (C : Cc c P w base N sc k X W) (B : NoG c L) (ha : PE X a (tV pu .B c W ma)) (hb : PE X b (tV pu .C c W mb)) (hb1 : L.contains ("min" : Str) = true := by rfl) (hg : sc.names.lookup ("min" : Str) = some .globalImplicit := by rfl) (hs : starEach [a, b] X.env = (false, eval a X.env) :: starEach [b] X.env := by rfl) (hs2 : starEach [b] X.env = (false, eval b X.env) :: starEach [] X.env := by rfl) (hpl : (backTo pos (starEach [b] X.env)).any (·.1) = false := by rfl) : PE X (.Call (.Name "min" p) [a, b] [] pos) (tV pu .E c W (mBin fMin2 ma mb)) :=
  e_call2 (call_min2 C.calm) fMin2_ok (C.gl hg) (C.mgo (B.at hb1)) (by first | exact PyProof.Rows.Boot.«min» | kernel_rfl) ha hb hs hs2 (hpl := hpl)
theorem g_list (C : Cc c P w base N sc k X W) (B : NoG c L) (ha : PE X a (tV pu .C c W m)) (hb : L.contains ("list" : Str) = true := by rfl) (hg : sc.names.lookup ("list" : Str) = some .globalImplicit := by rfl) (hs : starEach [a] X.env = (false, eval a X.env) :: starEach [] X.env := by rfl) : PE X (.Call (.Name "list" p) [a] [] pos) (tV pu .E c W (mUn fList m)) :=
  e_callTy1 (by have := @call_list_of X; rw [← C.eK] at this; exact this) fList_ok (C.gl hg) (C.mgo (B.at hb)) (by first | exact PyProof.Rows.Boot.«list» | kernel_rfl) ha hs
theorem g_tuple (C : Cc c P w base N sc k X W) (B : NoG c L) (ha : PE X a (tV pu .C c W m)) (hb : L.contains ("tuple" : Str) = true := by rfl) (hg : sc.names.lookup ("tuple" : Str) = some .globalImplicit := by rfl) (hs : starEach [a] X.env = (false, eval a X.env) :: starEach [] X.env := by rfl) : PE X (.Call (.Name "tuple" p) [a] [] pos) (tV pu .E c W (mUn fTuple m)) :=
  e_callTy1 (by have := @call_tuple_of X; rw [← C.eK] at this; exact this) fTuple_ok (C.gl hg) (C.mgo (B.at hb)) (by first | exact PyProof.Rows.Boot.«tuple» | kernel_rfl) ha hs
theorem g_isi (C : Cc c P w base N sc k X W) (B : NoG c L) {T : ExT} (hT : ExOk c.K c.mg T) (ha : PE X a (tV pu .B c W ma)) (hb : PE X b (tV pu .C c W mb)) (hb1 : L.contains ("isinstance" : Str) = true := by rfl) (hg : sc.names.lookup ("isinstance" : Str) = some .globalImplicit := by rfl) (hs : starEach [a, b] X.env = (false, eval a X.env) :: starEach [b] X.env := by rfl) (hs2 : starEach [b] X.env = (false, eval b X.env) :: starEach [] X.env := by rfl) (hpl : (backTo pos (starEach [b] X.env)).any (·.1) = false := by rfl) : PE X (.Call (.Name "isinstance" p) [a, b] [] pos) (tV pu .E c W (mBin (fIsX T) ma mb)) :=
  e_call2 (by have := (@call_isi X).or (@call_isX X); rw [← C.eK] at this; exact this) (fIsX_ok hT) (C.gl hg) (C.mgo (B.at hb1)) (by first | exact PyProof.Rows.Boot.«isinstance» | kernel_rfl) ha hb hs hs2 (hpl := hpl)
theorem g_ty (C : Cc c P w base N sc k X W) (B : NoG c L) {x : Str} {n : String} (hv : bootBuiltins x = some (.type n)) (hb : L.contains x = true := by rfl) (hg : sc.names.lookup x = some .globalImplicit := by rfl) (hn : x ≠ "__name__" := by decide) (hd : (x == ("__debug__" : Str)) = false := by decide) : PE X (.Name x p) (tV pu .E c W (mK (.ty n))) :=
  e_ty (C.gl hg) (C.mgo (B.at hb)) hv hn hd
theorem g_glo (C : Cc c P w base N sc k X W) {x : Str} {fa : Addr} (hm : c.mg x = some (.ref fa)) (hg : sc.names.lookup x = some .globalImplicit := by rfl) (hd : (x == ("__debug__" : Str)) = false := by decide) : PE X (.Name x p) (tV pu .E c W (mK (.glo x))) :=
  e_glo (C.gl hg) (C.mgo hm) C.emg hd
end
end MM

/-! MM23: statements and defs in the words of the printed derivations; while; recursion. -/
namespace MM
open PySem PySem.Spec PyProof.Rows L2

/-! ### while, with fuel -/
def whileF (t : MT) (b : MS) : Nat → MS
  | 0 => fun _ _ => .bad
  | n + 1 => fun σ h => bindT (t σ h) σ fun k h1 => if k then (match b σ h1 with
    | .nx σ' h' => whileF t b n σ' h'
    | .ct σ' h' => whileF t b n σ' h'
    | .bk σ' h' => .nx σ' h'
    | r => r) else .nx σ h1
def sWhile (fu : SL → HS → Nat) (t : MT) (b : MS) : MS := fun σ h => whileF t b (fu σ h) σ h
section
variable {c : Cg} {P : Program} {w : World} {base : Heap} {N : List Str} {sc : Scope} {k : Nat} {X : Cx} {W : WX} {pu : Bool} {m ma mb : ME} {mt : MT} {ms ns : MS} {a b e : Expr} {es : List Expr} {p p' pos : Pos} {x : Str}
theorem s_while {t : Expr} {body : List Stmt} {fu : SL → HS → Nat} (hp : PassesOwn (model X.prog X.w) X.A X.env X.xe) (ht : PT X t (tB2 pu c W mt)) (hb : PSs X body (tS c W ms)) : PS X (.While t body [] pos) (tS c W (sWhile fu mt ms)) :=
  PS.imp (ps_while hp ht hb) fun D σ H ⟨w, Fs, σd, hd, S, p⟩ => by
    refine ⟨fun n σ' H' => ∃ w' Fs' σd' hd', Sta c w' Fs' σd' hd' σ' H' ∧ SPo c W (full w' Fs') H' D (whileF mt ms n σd' hd'), ⟨_, w, Fs, σd, hd, S, p⟩, fun n σ' H' ⟨w', Fs', σd', hd', S', p'⟩ => ?_⟩
    cases n with
    | zero => exact p'.elim
    | succ n =>
      refine stepST S' p' fun u h1 w1 H1 S1 p1 => ?_
      cases u with
      | false =>
        rw [if_neg Bool.false_ne_true] at p1 ⊢
        exact SPo.next p1 S1
      | true =>
        rw [if_pos rfl] at p1 ⊢
        refine ⟨fun σ2 H2 => ∃ w2 Fs2 σd2 hd2, Sta c w2 Fs2 σd2 hd2 σ2 H2 ∧ SPo c W (full w2 Fs2) H2 D (whileF mt ms n σd2 hd2), fun σ2 H2 h => ⟨n, Nat.lt_succ_self n, h⟩, w1, Fs', σd', h1, S1, ?_⟩
        revert p1
        cases ms σd' h1 with
        | nx σ2 h2 => exact fun p1 w2 Fs2 σ2' H2 x2 S2 => ⟨w2, Fs2, σ2, h2, S2, SPo.shift x2 S2.ok p1⟩
        | ct σ2 h2 => exact fun p1 w2 Fs2 σ2' H2 x2 S2 => ⟨w2, Fs2, σ2, h2, S2, SPo.shift x2 S2.ok p1⟩
        | bk σ2 h2 => exact fun p1 => p1
        | rt u h2 => exact fun p1 => p1
        | ex e σ2 h2 => exact fun p1 => p1
        | bad => exact fun p1 => p1
/-! ### names as targets -/
theorem Cc.hfF (C : Cc c P w base N sc k X W) (Fn : ∀ y, X.fn y = true) : X.fn x = true ∨ X.env.scope.names.lookup x = some .local := .inl (Fn x)
theorem Cc.pgN (C : Cc c P w base N sc k X W) (Fn : ∀ y, X.fn y = true) (i : Nat) (hi : N[i]? = some x := by rfl) (hl : locB sc x = true := by rfl) : PG X (.Name x pos) (gName i) := pg_name C.nd (C.ni hi) (C.lc (locB_ok hl)) (.inl (Fn x))
theorem Cc.pgL (C : Cc c P w base N sc k X W) (i : Nat) (hi : N[i]? = some x := by rfl) (hl : sc.names.lookup x = some .local := by rfl) : PG X (.Name x pos) (gName i) := pg_name C.nd (C.ni hi) (C.lc (.inl hl)) (.inr (by rw [C.esc]; exact hl))
theorem Cc.pgT (C : Cc c P w base N sc k X W) {n j : Nat} {t : TGs} (h : PGs X es t) (hn : (assignEach es X.env).length = n := by rfl) (hst : (assignEach es X.env).findIdx? (·.1) = none := by rfl) : PG X (.Tuple es j pos) (gTup c.K n t) := by
  rw [C.eK]; exact pg_tup C.calm h hn hst
/-! ### small statements -/
theorem g_set (C : Cc c P w base N sc k X W) (Fn : ∀ y, X.fn y = true) (i : Nat) (he : PE X e (tV pu .E c W m)) (hi : N[i]? = some x := by rfl) (hl : locB sc x = true := by rfl) (hsw : swapsWith e (some (.Name x p')) pos.line X.env = pure false := by rfl) : PS X (.Assign [.Name x p'] e pos) (tS c W (sSet i m)) :=
  s_set (fun h => ps_set C.nd (C.ni hi) (C.lc (locB_ok hl)) h hsw (.inl (Fn x))) he
theorem g_mv (C : Cc c P w base N sc k X W) (Fn : ∀ y, X.fn y = true) (i j : Nat) {y : Str} (hi : N[i]? = some x := by rfl) (hl : locB sc x = true := by rfl) (hj : N[j]? = some y := by rfl) (hv : visB sc y = true := by rfl) (hsw : swapsWith (.Name y p) (some (.Name x p')) pos.line X.env = pure false := by rfl)
    (hd : (y == ("__debug__" : Str)) = false := by decide) (hcd : (y == ("__classdict__" : Str)) = false := by decide) : PS X (.Assign [.Name x p'] (.Name y p) pos) (tS c W (sMv i j)) :=
  s_mv i j (fun h => ps_set C.nd (C.ni hi) (C.lc (locB_ok hl)) h hsw (.inl (Fn x))) (C.var j hj hv hd hcd)
theorem g_aug (C : Cc c P w base N sc k X W) (Fn : ∀ y, X.fn y = true) (i : Nat) {op : Operator} {g : Int → Int → Int} (hop : PIp X op (ipI g)) (he : PE X e (tV pu .C c W m)) (hi : N[i]? = some x := by rfl) (hl : locB sc x = true := by rfl) : PS X (.AugAssign (.Name x p') op e pos) (tS c W (sAug i g m)) :=
  s_aug rfl (fun h => ps_aug C.nd (C.ni hi) (C.lc (locB_ok hl)) h hop (.inl (Fn x))) he
theorem g_for (C : Cc c P w base N sc k X W) {tg iter : Expr} {body : List Stmt} {g : TG} {td : TD} (hi : PE X iter (tV pu .E c W m)) (hg : PG X tg g) (hgs : TgS c g td) (hb : PSs X body (tS c W ms)) (hs : ∀ y, foldedSetIterable iter X.env y = pure y := by intro _; rfl) : PS X (.For tg iter body [] pos) (tS c W (sFor m td ms)) :=
  s_for C.eK C.po C.calm hi hg hgs hb hs
variable {L : List Str}
theorem g_forR1 (C : Cc c P w base N sc k X W) (B : NoG c L) {tg : Expr} {body : List Stmt} {g : TG} {td : TD} (hb : PE X b (tV pu .C c W mb)) (hg : PG X tg g) (hgs : TgS c g td) (hbd : PSs X body (tS c W ms)) (hb1 : L.contains ("range" : Str) = true := by rfl) (hgl : sc.names.lookup ("range" : Str) = some .globalImplicit := by rfl) (hs2 : starEach [b] X.env = [(false, eval b X.env)] := by rfl) :
    PS X (.For tg (.Call (.Name "range" p) [b] [] p') body [] pos) (tS c W (sForR (mK (.int 0)) mb td ms)) := s_forR1 C.po C.calm (C.gl hgl) (C.mgo (B.at hb1)) hb hg hgs hbd hs2
theorem g_forR2 (C : Cc c P w base N sc k X W) (B : NoG c L) {tg : Expr} {body : List Stmt} {g : TG} {td : TD} (ha : PE X a (tV pu .C c W ma)) (hb : PE X b (tV pu .C c W mb)) (hg : PG X tg g) (hgs : TgS c g td) (hbd : PSs X body (tS c W ms)) (hb1 : L.contains ("range" : Str) = true := by rfl) (hgl : sc.names.lookup ("range" : Str) = some .globalImplicit := by rfl)
    (hs : starEach [a, b] X.env = [(false, eval a X.env), (false, eval b X.env)] := by rfl) (hs2 : starEach [b] X.env = [(false, eval b X.env)] := by rfl) :
    PS X (.For tg (.Call (.Name "range" p) [a, b] [] p') body [] pos) (tS c W (sForR ma mb td ms)) := s_forR2 C.po C.calm (C.gl hgl) (C.mgo (B.at hb1)) ha hb hg hgs hbd hs hs2
/-! ### comprehensions -/
variable {elt tg iter : Expr} {ifs : List Expr} {scope : Scope} {own : List (Str × Nat)} {g : TG} {td : TD} {me : ME}
theorem g_comp (C : Cc c P w base N sc k X W) (hi : PE X iter (tV pu .E c W m)) (ok : blkC N sc scope own = true) (hgs : TgS c g td) (hgw : TgW g (own.map (·.2))) (hg : Blk X scope fun Y => PG Y tg g) (ht : Blk X scope fun Y => PTs Y ifs (tB2 pu c W0 mt)) (he : Blk X scope fun Y => PE Y elt (tV pu .E c W0 me))
    (hs : ∀ y, foldedSetIterable iter X.env y = pure y := by intro _; rfl) : PE X (.ListComp elt [⟨tg, iter, ifs, 0⟩] scope pos) (tV pu .E c W (mComp m td (own.map (·.2)) mt me)) :=
  e_comp C.eK C.calm C.nd hi (by rw [C.eN, C.esc]; exact blkOk_by ok) hgs hgw hg ht he hs
theorem g_compR1 (C : Cc c P w base N sc k X W) (B : NoG c L) (hb : PE X b (tV pu .C c W mb)) (ok : blkC N sc scope own = true) (hgs : TgS c g td) (hgw : TgW g (own.map (·.2))) (hg : Blk X scope fun Y => PG Y tg g) (ht : Blk X scope fun Y => PTs Y ifs (tB2 pu c W0 mt)) (he : Blk X scope fun Y => PE Y elt (tV pu .E c W0 me))
    (hb1 : L.contains ("range" : Str) = true := by rfl) (hgl : sc.names.lookup ("range" : Str) = some .globalImplicit := by rfl) (hs2 : starEach [b] X.env = [(false, eval b X.env)] := by rfl) : PE X (.ListComp elt [⟨tg, .Call (.Name "range" p) [b] [] p', ifs, 0⟩] scope pos) (tV pu .E c W (mCompR (mK (.int 0)) mb td (own.map (·.2)) mt me)) :=
  e_compR1 C.calm C.nd (C.gl hgl) (C.mgo (B.at hb1)) hb (by rw [C.eN, C.esc]; exact blkOk_by ok) hgs hgw hg ht he hs2
theorem g_compR2 (C : Cc c P w base N sc k X W) (B : NoG c L) (ha : PE X a (tV pu .C c W ma)) (hb : PE X b (tV pu .C c W mb)) (ok : blkC N sc scope own = true) (hgs : TgS c g td) (hgw : TgW g (own.map (·.2))) (hg : Blk X scope fun Y => PG Y tg g) (ht : Blk X scope fun Y => PTs Y ifs (tB2 pu c W0 mt)) (he : Blk X scope fun Y => PE Y elt (tV pu .E c W0 me))
    (hb1 : L.contains ("range" : Str) = true := by rfl) (hgl : sc.names.lookup ("range" : Str) = some .globalImplicit := by rfl) (hs : starEach [a, b] X.env = [(false, eval a X.env), (false, eval b X.env)] := by rfl) (hs2 : starEach [b] X.env = [(false, eval b X.env)] := by rfl) : PE X (.ListComp elt [⟨tg, .Call (.Name "range" p) [a, b] [] p', ifs, 0⟩] scope pos) (tV pu .E c W (mCompR ma mb td (own.map (·.2)) mt me)) :=
  e_compR2 C.calm C.nd (C.gl hgl) (C.mgo (B.at hb1)) ha hb (by rw [C.eN, C.esc]; exact blkOk_by ok) hgs hgw hg ht he hs hs2
/-! ### a try's body, an except suite -/
theorem Cc.tr (C : Cc c P w base N sc k X W) {W' : WX} {pn : List (Addr × Obj)} {xe : Value → Shared → Prop} (tk : Takes (X.tr pn xe) W') (po : PassesOwn (model X.prog X.w) X.A X.env xe) : Cc c P w base N sc k (X.tr pn xe) W' :=
  ⟨C.eP, C.ew, C.eK, C.emg, C.ebase, C.eN, C.esc, C.calm, C.room, tk, po, C.fk, C.nd⟩
/-- the bare context: names are read, nothing is called -/
structure Cq (c : Cg) (N : List Str) (sc : Scope) (X : Cx) : Prop where
  eK : c.K = X.K
  emg : c.mg = X.mg
  eN : X.N = N
  esc : X.env.scope = sc
  hu : X.A.units + 64 < cLine
theorem Cc.su (C : Cc c P w base N sc k X W) (a : Addr) (pn : List (Addr × Obj)) : Cq c N sc (X.suite a pn) := ⟨C.eK, C.emg, C.eN, C.esc, C.hu⟩
theorem Cq.var (C : Cq c N sc X) (i : Nat) {x : Str} (hi : N[i]? = some x := by rfl) (hv : visB sc x = true := by rfl) (hd : (x == ("__debug__" : Str)) = false := by decide) (hcd : (x == ("__classdict__" : Str)) = false := by decide) : PE X (.Name x pos) (tVar i) := pe_var (by rw [C.eN]; exact hi) (by rw [C.esc]; exact visB_ok hv) hd hcd
theorem Cq.gl (C : Cq c N sc X) {x : Str} (h : sc.names.lookup x = some .globalImplicit) : Gl X x := by
  show X.env.scope.names.lookup x = _
  rw [C.esc]; exact h
theorem q_isi (C : Cq c N sc X) (B : NoG c L) {T : ExT} (hT : ExOk c.K c.mg T) (ha : PE X a (tV pu .B c W ma)) (hb : PE X b (tV pu .C c W mb)) (hb1 : L.contains ("isinstance" : Str) = true := by rfl) (hg : sc.names.lookup ("isinstance" : Str) = some .globalImplicit := by rfl) (hs : starEach [a, b] X.env = (false, eval a X.env) :: starEach [b] X.env := by rfl) (hs2 : starEach [b] X.env = (false, eval b X.env) :: starEach [] X.env := by rfl) (hpl : (backTo pos (starEach [b] X.env)).any (·.1) = false := by rfl) : PE X (.Call (.Name "isinstance" p) [a, b] [] pos) (tV pu .E c W (mBin (fIsX T) ma mb)) :=
  e_call2 (by have := (@call_isi X).or (@call_isX X); rw [← C.eK] at this; exact this) (fIsX_ok hT) (C.gl hg) (by rw [← C.emg]; exact B.at hb1) (by first | exact PyProof.Rows.Boot.«isinstance» | kernel_rfl) ha hb hs hs2 (hpl := hpl)
theorem q_ty (C : Cq c N sc X) (B : NoG c L) {x : Str} {n : String} (hv : bootBuiltins x = some (.type n)) (hb : L.contains x = true := by rfl) (hg : sc.names.lookup x = some .globalImplicit := by rfl) (hn : x ≠ "__name__" := by decide) (hd : (x == ("__debug__" : Str)) = false := by decide) : PE X (.Name x p) (tV pu .E c W (mK (.ty n))) :=
  e_ty (C.gl hg) (by rw [← C.emg]; exact B.at hb) hv hn hd
theorem q_glo (C : Cq c N sc X) {x : Str} {fa : Addr} (hm : c.mg x = some (.ref fa)) (hg : sc.names.lookup x = some .globalImplicit := by rfl) (hd : (x == ("__debug__" : Str)) = false := by decide) : PE X (.Name x p) (tV pu .E c W (mK (.glo x))) :=
  e_glo (C.gl hg) (by rw [← C.emg]; exact hm) C.emg hd
theorem q_xf (C : Cq c N sc X) {T : ExT} {f : Str} (hT : ExOk c.K c.mg T) (he : PE X e (tV pu .C c W m)) (hb : attributeBase e f X.env (eval e X.env) = eval e X.env := by rfl) : PE X (.Attribute e f pos) (tV pu .E c W (mXf T f m)) :=
  e_xf (by rw [← C.eK, ← C.emg]; exact hT) C.emg he hb
/-! ### defs -/
/-- what the head tells of a def -/
structure DefF (c : Cg) (x : Str) (st : Stmt) (fa : Addr) (fd : FuncData) (ps : List Str) : Prop where
  F : Fun c.K x x st fa fd
  m : c.mg x = some (.ref fa)
  b : Binds c.K fd ps []
theorem gd_of {x : Str} {st : Stmt} {fa : Addr} {fd : FuncData} {ps : List Str} {n nN : Nat} {b : MS} (D : DefF c x st fa fd ps) (S : FnScope N ps (defScope st)) (hn : ps.length = n) (hN : N.length = nN)
    (hb : ∀ (X : Cx) (W : WX), Cc c P w base N (defScope st) k X W → (∀ y, X.fn y = true) → X.stack = X.env :: X.outer → X.env.frame = some X.env.locals → PSs X (defBody st) (tS c W b)) : Gd c P w base (k + 1) x n (fnM nN b) := by
  refine ⟨fa, fd, ps, D.F.okX S (spM_len hn) fun cdv A outer s H vs Q E hr h => ⟨_, hb _ _ ⟨rfl, rfl, rfl, rfl, rfl, rfl, rfl, rfl, hr, takes_of rfl rfl rfl rfl, passes_of rfl, S.kind, S.nd⟩ (fun _ => rfl) rfl rfl, body_ok N hN h⟩, D.m, D.F.kp, D.b⟩
/-- a def that makes lambdas: its code object is known -/
theorem gd_ofL {x q : Str} {st : Stmt} {fa cP Pt : Addr} {fd : FuncData} {ps : List Str} {n nN : Nat} {b : MS} {oc kV doc pm ct : Value} {od an : Option Addr} {osl : Array (Option Value)} (D : DefF c x st fa fd ps)
    (lk : c.K.lookup fa = some ⟨oc, od, .func (PySem.W.fnOf x x (defArgs st) (defBody st) (defScope st) .none kV doc pm an (.ref cP) ct), osl⟩) (hcd : PySem.W.codeIn c.K (.ref cP) x = true) (TB : LamX.TabB base c.mg cP Pt) (hq : (x ++ ".<locals>." : Str) ++ "<lambda>" = q)
    (S : FnScope N ps (defScope st)) (hn : ps.length = n) (hN : N.length = nN)
    (hb : ∀ (X : Cx) (W : WX), Cc c P w base N (defScope st) k X W → (∀ y, X.fn y = true) → X.stack = X.env :: X.outer → X.env.frame = some X.env.locals → Lm X cP Pt q → PSs X (defBody st) (tS c W b)) (hbd : Binds c.K (PySem.W.fnOf x x (defArgs st) (defBody st) (defScope st) .none kV doc pm an (.ref cP) ct) ps []) : Gd c P w base (k + 1) x n (fnM nN b) := by
  refine ⟨fa, _, ps, fn_of lk hcd S (spM_len hn) fun A outer s H vs Q E hr h => ⟨_, hb _ _ ⟨rfl, rfl, rfl, rfl, rfl, rfl, rfl, rfl, hr, takes_of rfl rfl rfl rfl, passes_of rfl, S.kind, S.nd⟩ (fun _ => rfl) rfl rfl ⟨rfl, hq, TB, fun _ => rfl, rfl⟩, body_ok N hN h⟩, D.m, D.F.kp, hbd⟩
/-- with its new cells given up -/
theorem Gd.T {x : Str} {n nN : Nat} {b : MS} (G : Gd c P w base k x n (fnM nN b)) : Gd c P w base k x n (fnT nN b) := by
  obtain ⟨fa, fd, ps, F, m1, m2, m3⟩ := G
  exact ⟨fa, fd, ps, F.imp fun vs H Q E q => spM_T q, m1, m2, m3⟩
/-- recursion by fuel -/
theorem gd_rec {x : Str} {st : Stmt} {fa : Addr} {fd : FuncData} {ps : List Str} {n : Nat} {F : Nat → MF} (D : DefF c x st fa fd ps) (hn : ps.length = n) (h0 : ∀ us h, F 0 us h = .bad) (hs : ∀ j, Gd c P w base (k + j) x n (F j) → Gd c P w base (k + j + 1) x n (F (j + 1))) : ∀ j, Gd c P w base (k + j) x n (F j)
  | 0 => ⟨fa, fd, ps, ⟨spM_len hn, fun A outer s H args us vs Q E _ _ _ _ ⟨_, _, us', hd, _, _, _, p⟩ => by rw [h0] at p; exact p.elim⟩, D.m, D.F.kp, D.b⟩
  | j + 1 => hs j (gd_rec D hn h0 hs j)
end
end MM

/-! MM24: operators for the printed derivations. -/
namespace MM
open PySem PySem.Spec PyProof.Rows L2
section
variable {c : Cg} {P : Program} {w : World} {base : Heap} {N : List Str} {sc : Scope} {k : Nat} {X : Cx} {W : WX} {pu : Bool} {m ma mb : ME} {a b e : Expr} {p pos : Pos} {x : Str}
theorem blkI (C : Cc c P w base N sc k X W) {scope : Scope} (hk : scope.kind = .function) {R : Cx → Prop} (h : ∀ Y, Cc c P w base N (relS scope sc) k Y W0 → R Y) : Blk X scope R := fun s H Ca cl fp => h _ (C.blk hk s H Ca cl fp)
theorem Cc.addR (C : Cc c P w base N sc k X W) : OpR X (binaryOp .Add) (rAddM c.K) := by rw [C.eK]; exact op_addM
theorem Cc.mulR (C : Cc c P w base N sc k X W) : OpR X (binaryOp .Mult) rMulM := op_mulM
theorem Cc.eqR (C : Cc c P w base N sc k X W) : OpR X (compareOp .Eq) (rEqD c.K) := by rw [C.eK]; exact op_eqD C.hu
theorem Cc.neR (C : Cc c P w base N sc k X W) : OpR X (compareOp .NotEq) (rNeD c.K) := by rw [C.eK]; exact op_neD C.hu
theorem Cc.inR (C : Cc c P w base N sc k X W) : OpR X (compareOp .In) (rIn c.K false) := by rw [C.eK]; exact op_in_seq
theorem Cc.niR (C : Cc c P w base N sc k X W) : OpR X (compareOp .NotIn) (rIn c.K true) := by rw [C.eK]; exact op_notIn_seq
theorem Cq.eqR (C : Cq c N sc X) : OpR X (compareOp .Eq) (rEqD c.K) := by rw [C.eK]; exact op_eqD C.hu
theorem Cq.neR (C : Cq c N sc X) : OpR X (compareOp .NotEq) (rNeD c.K) := by rw [C.eK]; exact op_neD C.hu
theorem Cq.addR (C : Cq c N sc X) : OpR X (binaryOp .Add) (rAddM c.K) := by rw [C.eK]; exact op_addM
theorem Cq.inR (C : Cq c N sc X) : OpR X (compareOp .In) (rIn c.K false) := by rw [C.eK]; exact op_in_seq
/-- a dict of the module, by text keys -/
theorem g_tab (C : Cc c P w base N sc k X W) {q : Addr} {t : List (Str × DV)} {px : Pos} (hm : c.mg x = some (.ref q)) (ht : TabOk c w q t) (hb : PE X b (tV pu .C c W mb)) (hs : PlainIx b := by exact fun _ _ => rfl) (hg : sc.names.lookup x = some .globalImplicit := by rfl) (hd : (x == ("__debug__" : Str)) = false := by decide) : PE X (.Subscript (.Name x px) b pos) (tV pu .E c W (mUn (tabGet t) mb)) :=
  e_tab C.eK (C.gl hg) (C.mgo hm) (by rw [C.ew]; exact ht) hb hs hd
/-- a class of exceptions whose __init__ is known: its fields in the order of the parameters -/
def Ra (c : Cg) (P : Program) (w : World) (base : Heap) (k : Nat) (x : Str) (fs : List Str) : Prop :=
  ∃ C fI fd ps, OexC c.K C ∧ PySem.W.findIn c.K (.ref C) "__init__" = some (some (.ref fI)) ∧ PySem.W.typeIn c.K (.ref fI) = some (.type "function") ∧ FnOk P w c.K c.mg base (L2.CX P w) k fI fd ps (spIni C fs) ∧ Binds c.K fd ps [] ∧ c.mg x = some (.ref C)
theorem Ra.mono {j : Nat} {fs : List Str} (r : Ra c P w base j x fs) (h : j ≤ k) : Ra c P w base k x fs := let ⟨C, fI, fd, ps, a1, a2, a3, F, a4, a5⟩ := r; ⟨C, fI, fd, ps, a1, a2, a3, F.mono h, a4, a5⟩
theorem g_raise (C : Cc c P w base N sc (k + 1) X W) {fs : List Str} {es : List Expr} {ms : MAs} {pos2 : Pos} (R : Ra c P w base k x fs) (ha : PA X (e :: es) (tAs false c W ms)) (hn : ArgN ms fs.length) (hlen : fs.length ≤ 1000 := by decide) (hg : sc.names.lookup x = some .globalImplicit := by rfl) (hdb : (x == ("__debug__" : Str)) = false := by decide)
    (he : starEach (e :: es) X.env = (false, eval e X.env) :: starEach es X.env := by rfl) (hpl : (backTo pos (starEach es X.env)).any (·.1) = false := by rfl) : PS X (.Raise (some (.Call (.Name x p) (e :: es) [] pos)) none pos2) (tS c W (sRaise x fs ms)) := by
  obtain ⟨Ca, fI, fd, ps, a1, a2, a3, F, a4, a5⟩ := R
  exact s_raise C.calm C.tk C.emg (by rw [← C.eK]; exact a1) (by rw [← C.eK]; exact a2) (by rw [← C.eK]; exact a3) (C.fn F) C.room (by rw [← C.eK]; exact a4) (C.gl hg) (C.mgo a5) ha hn hlen hdb he hpl
/-- a written dict of ints, the keys that are asked -/
theorem tabOk_by {q : Addr} {t : List (Str × DV)} {es : Array DictEntry} {n : Nat} (l : c.K.lookup q = some ⟨.type "dict", none, .dict es n, #[]⟩) (kl : PySem.W.KeysLit w.params es.toList) (h : ∀ y ∈ t, ∃ i tok, y.2 = .int i ∧ PySem.W.nsIn c.K q y.1 = some (some (.int i tok))) : TabOk c w q t := fun x d e => by
  obtain ⟨i, tok, e1, e2⟩ := h (x, d) (PySem.mem_of_lookup e)
  have e1 : d = .int i := e1
  subst e1
  exact ⟨.int i, ⟨es, n, _, l, kl, e2, tok, rfl⟩, fun _ _ => rfl⟩
theorem hciOf {t : Nat → Option CloI} {i : Nat} {J : CloI} (h : c.ci = t) (e : t i = some J) : c.ci i = some J := by rw [h]; exact e
end
/-! ### ways into the text -/
def kidsE : Expr → List Expr
  | .Call (func := f) (args := a) .. => f :: a
  | .UnaryOp (operand := a) .. => [a]
  | .BinOp (left := a) (right := b) .. => [a, b]
  | .BoolOp (values := a) .. => a
  | .Compare (left := a) (comparators := b) .. => a :: b
  | .IfExp (test := t) (body := a) (orelse := b) .. => [t, a, b]
  | .Subscript (value := a) (slice := b) .. => [a, b]
  | .Attribute (value := a) .. => [a]
  | .Tuple (elts := a) .. => a
  | .List (elts := a) .. => a
  | _ => []
def kidsS : Stmt → List Expr × List Stmt
  | .Expr (value := e) .. => ([e], [])
  | .Assign (targets := t) (value := e) .. => (e :: t, [])
  | .AugAssign (target := t) (value := e) .. => ([e, t], [])
  | .Return (value := some e) .. => ([e], [])
  | .If (test := t) (body := b) (orelse := o) .. => ([t], b ++ o)
  | .For (iter := i) (body := b) (orelse := o) .. => ([i], b ++ o)
  | .While (test := t) (body := b) (orelse := o) .. => ([t], b ++ o)
  | .Try (body := b) .. => ([], b)
  | .FunctionDef (body := b) .. => ([], b)
  | _ => ([], [])
def atE : List Nat → Expr → Option Expr
  | [], e => some e
  | i :: r, e => match (kidsE e)[i]? with
    | some d => atE r d
    | none => none
def atS : List Nat → Stmt → Option Stmt
  | [], s => some s
  | i :: r, s => match (kidsS s).2[i]? with
    | some d => atS r d
    | none => none
/-- the expression e of the statement at p, the way q in it -/
def wayE (p : List Nat) (e : Nat) (q : List Nat) (s : Stmt) : Option Expr := (atS p s).bind fun d => ((kidsS d).1[e]?).bind (atE q)
/-- a lambda's parts -/
def lamOf (qual : Str) (caps : List Str) : Option Expr → CloI
  | some (.Lambda (args := a) (body := b) (scope := s) ..) => ⟨a, b, s, qual, caps⟩
  | _ => ⟨⟨[], [], none, [], [], none, []⟩, .Constant .none 0 ⟨0, 0, 0, 0⟩, ⟨.function, [], false, false, []⟩, qual, caps⟩
/-- the top's statements -/
def topOf (q : Program) (i : Nat) : Stmt := q.main.body.getD i (.Pass ⟨0, 0, 0, 0⟩)
/-- a class's statements -/
def clsBody : Stmt → List Stmt
  | .ClassDef (body := b) .. => b
  | _ => []
def inCls (s : Stmt) (i : Nat) : Stmt := (clsBody s).getD i (.Pass ⟨0, 0, 0, 0⟩)
end MM

/-! MM25: from what the head tells to what the derivations ask; the law's end. -/
namespace MM
open PySem PySem.Spec PyProof.Rows L2
abbrev Bnd1 (x : Str) (st : Stmt) (ps : List Str) : Prop := ∀ (kV doc pm : Value) (an : Option Addr) (cdv ct : Value) (us : List Value), us.length = ps.length → bindArgs (PySem.W.fnOf x x (defArgs st) (defBody st) (defScope st) .none kV doc pm an cdv ct) ⟨us, []⟩ = pure (ps.zip us)
section
variable {c : Cg} {P : Program} {w : World} {base h : Heap} {k : Nat}
theorem defF_mk {x : Str} {st : Stmt} {fa : Addr} {ps : List Str} {oc kV doc pm cdv ct : Value} {od an : Option Addr} {osl : Array (Option Value)} (X : c.K.In h) (G : h.Ns mainGlobals c.mg) (a : PySem.W.nsIn c.K mainGlobals x = some (some (.ref fa)))
    (l : c.K.lookup fa = some ⟨oc, od, .func (PySem.W.fnOf x x (defArgs st) (defBody st) (defScope st) .none kV doc pm an cdv ct), osl⟩) (cc : PySem.W.codeIn c.K cdv x = true) (kk : PySem.W.keepIn c.K (.ref fa) = true) (hb : Bnd1 x st ps) : DefF c x st fa (PySem.W.fnOf x x (defArgs st) (defBody st) (defScope st) .none kV doc pm an cdv ct) ps :=
  have F := fun_mk l cc kk
  ⟨F, PySem.W.mg_of X G a, F.binds hb⟩
/-- an own class of exceptions: what the head tells -/
structure ExcF (K : PySem.W.Frag) (C : Addr) : Prop where
  o : OexC K C
  x : ExcC K C
theorem excF_mk {K : PySem.W.Frag} {C : Addr} {nm q N bs bm sn sub ab col dd k0 k1 k2 k3 k5} (l : K.lookup C = some (excClassObj nm q C N bs bm true sn sub ab col dd k0 k1 k2 k3 k5 "ValueError.__new__")) (hb : PySem.HandSPX.refsVE bm = true) (sa : PySem.W.findIn K (.ref C) "__setattr__" = some (some (.builtin "object.__setattr__")))
    (ex : PySem.W.subIn K (.ref C) (.type "BaseException") = some true) (ty : PySem.W.typeIn K (.ref C) = some (.type "type")) (kc : PySem.W.keepIn K (.ref C) = true) (hg : PySem.W.findIn K (.ref C) "__getattribute__" = some (some (.builtin "BaseException.__getattribute__"))) (hk : PySem.W.findIn K (.ref C) "__getattr__" = some none)
    (hd : PySem.W.hasDictIn K C = true) (ha : PySem.W.findIn K (.ref C) "__class__" = some (some (.builtin "object.__class__"))) (hn : PySem.W.specialIn K (.builtin "object.__class__") "__get__" = some (some (.builtin "getset_descriptor.__get__"))) (ht : PySem.W.takesIn K (.builtin "object.__class__") = some true) (hm : PySem.W.mroIn K C (.type "object") = some true) : ExcF K C :=
  ⟨⟨⟨nm, q, N, bs, bm, sn, sub, ab, col, dd, k0, k1, k2, k3, k5, l, hb⟩, sa, ex, ty, kc⟩, ⟨hg, hk, ex, hd, ha, hn, ht, hm⟩⟩
theorem ExcF.xf {K : PySem.W.Frag} {C : Addr} (e : ExcF K C) : XfC K C := ⟨e.x.hg, e.x.hk, e.x.hs, e.x.hd⟩
/-- one class asked of another -/
theorem pair_g {K : PySem.W.Frag} {C D : Addr} {b : Bool} (c' : ExcF K C) (d : ExcF K D) (s : PySem.W.subIn K (.ref C) (.ref D) = some b) (e : C = D → b = true) : PySem.W.exmOne K (.ref C) (.ref D) = some b ∧ PySem.W.kitOne K (.ref C) (.ref D) = some b ∧ ExcC K C := by
  have h1 := PySem.W.exm_ref d.x.hs d.x.hd d.o.tyC s
  have h2 : PySem.W.kitCls K (.ref C) (.ref D) = some b := by
    unfold PySem.W.exmOne at h1
    rw [if_pos (by rw [d.x.hs]; rfl)] at h1
    exact h1
  refine ⟨h1, ?_, c'.x⟩
  unfold PySem.W.kitOne
  by_cases q : C = D
  · rw [if_pos (by rw [q]; exact beq_self_eq_true _), e q]
  · rw [if_neg (fun z => q (Value.ref.inj (eq_of_beq z)))]; exact h2
theorem pair_t {K : PySem.W.Frag} {C : Addr} {n : String} {b : Bool} (c' : ExcF K C) (ex : PySem.W.subIn K (.type n) (.type "BaseException") = some true) (mt : PySem.W.kitMeta n = true) (s : PySem.W.subIn K (.ref C) (.type n) = some b) : PySem.W.exmOne K (.ref C) (.type n) = some b ∧ PySem.W.kitOne K (.ref C) (.type n) = some b ∧ ExcC K C := by
  have h2 : PySem.W.kitCls K (.ref C) (.type n) = some b := by
    show (if PySem.W.kitMeta n = true then PySem.W.subIn K (.ref C) (.type n) else none) = some b
    rw [if_pos mt]; exact s
  refine ⟨?_, ?_, c'.x⟩
  · unfold PySem.W.exmOne
    rw [if_pos (by rw [ex]; rfl)]; exact h2
  · unfold PySem.W.kitOne
    rw [if_neg (show ¬ (Value.ref C == Value.type n) = true from fun z => by have := eq_of_beq z; cases this)]; exact h2
theorem lookup_mem {α β : Type} [BEq α] [LawfulBEq α] {a : α} {b : β} : ∀ {l : List (α × β)}, l.lookup a = some b → (a, b) ∈ l
  | [], h => by cases h
  | (x, y) :: r, h => by
    rw [List.lookup_cons] at h
    cases q : a == x with
    | true => rw [q] at h; cases h; rw [eq_of_beq q]; exact List.mem_cons_self
    | false => rw [q] at h; exact List.mem_cons_of_mem _ (lookup_mem h)
/-- the tables, entry by entry -/
theorem exOk_by {K : PySem.W.Frag} {mg : Str → Option Value} {sg : List ((Str × Str) × Bool)} {st : List ((Str × String) × Bool)} {fl : List (Str × Str)}
    (h1 : ∀ p ∈ sg, ∃ C D, mg p.1.1 = some (.ref C) ∧ mg p.1.2 = some (.ref D) ∧ PySem.W.exmOne K (.ref C) (.ref D) = some p.2 ∧ PySem.W.kitOne K (.ref C) (.ref D) = some p.2 ∧ ExcC K C)
    (h2 : ∀ p ∈ st, ∃ C, mg p.1.1 = some (.ref C) ∧ PySem.W.exmOne K (.ref C) (.type p.1.2) = some p.2 ∧ PySem.W.kitOne K (.ref C) (.type p.1.2) = some p.2 ∧ ExcC K C)
    (h3 : ∀ p ∈ fl, ∃ C, mg p.1 = some (.ref C) ∧ XfC K C ∧ PySem.W.findIn K (.ref C) p.2 = some none) : ExOk K mg ⟨fun a b => sg.lookup (a, b), fun a b => st.lookup (a, b), fun a b => fl.contains (a, b)⟩ := by
  refine ⟨fun C Ca x Da b m1 m2 e => ?_, fun C Ca n b m1 e => ?_, fun C Ca f m1 e => ?_⟩
  · obtain ⟨C2, D2, k1, k2, k3⟩ := h1 _ (lookup_mem e)
    rw [m1] at k1; rw [m2] at k2
    cases k1; cases k2
    exact k3
  · obtain ⟨C2, k1, k3⟩ := h2 _ (lookup_mem e)
    rw [m1] at k1
    cases k1
    exact k3
  · obtain ⟨C2, k1, k3⟩ := h3 (C, f) (by simpa using e)
    rw [m1] at k1
    cases k1
    exact k3
/-- a def of an __init__ -/
theorem inF_mk {K : PySem.W.Frag} {qual : Str} {st : Stmt} {fI : Addr} {oc kV doc pm cdv ct : Value} {od an : Option Addr} {osl : Array (Option Value)} (l : K.lookup fI = some ⟨oc, od, .func (PySem.W.fnOf "__init__" qual (defArgs st) (defBody st) (defScope st) .none kV doc pm an cdv ct), osl⟩) (cc : PySem.W.codeIn K cdv qual = true) (kk : PySem.W.keepIn K (.ref fI) = true) :
    Fun K "__init__" qual st fI (PySem.W.fnOf "__init__" qual (defArgs st) (defBody st) (defScope st) .none kV doc pm an cdv ct) := fun_mk l cc kk
theorem ra_mk {x : Str} {C fI : Addr} {fd : FuncData} {ps fs : List Str} (e : ExcF c.K C) (m : c.mg x = some (.ref C)) (i : PySem.W.findIn c.K (.ref C) "__init__" = some (some (.ref fI))) (t : PySem.W.typeIn c.K (.ref fI) = some (.type "function")) (F : FnOk P w c.K c.mg base (L2.CX P w) k fI fd ps (spIni C fs)) (b : Binds c.K fd ps []) : Ra c P w base k x fs :=
  ⟨C, fI, fd, ps, e.o, i, t, F, b, m⟩
/-! ### the end -/
/-- the law's promise from its function's answer -/
theorem law_sp {tabs : List (Addr × Str)} {f : MF} {H : Hp} {a : Addr} {ns : List Int} (hT : ∀ p ∈ tabs, H p.1 = some (.tbl #[])) (nd : (tabs.map (·.1)).Nodup) (hS : SqL c.K H a (ns.map V.int)) {h' : HS} (he : f [.d (.rol (ns.map .int))] (tabs.map fun p => .tab p.1 p.2) = .ok (.d (.bl true)) h') :
    spM c 1 f [.ref a] H (fun v _ => v = .bl true) fun _ _ _ => False := by
  have intR : ∀ (Z : Addr → Prop) (l : List Int), RDl c Z H (l.map .int) (l.map V.int) := fun Z l => by
    induction l with
    | nil => rfl
    | cons i l ih => exact ⟨.int i, l.map V.int, rfl, rfl, ih⟩
  have aT : a ∉ tabs.map (·.1) → True := fun _ => trivial
  let Z : Addr → Prop := fun b => b = a ∧ (∃ o, Rd H a (.lst o))
  let wd : Wd := ⟨tabs.map (·.1), Z, tabs.map (·.1)⟩
  have ok : WOk wd H := by
    refine ⟨nd, fun b hb z => ?_, fun b hb => ?_, fun b z => ?_⟩
    · obtain ⟨e, o, z⟩ := z
      obtain ⟨p, hp, e2⟩ := List.mem_map.mp hb
      have q := hT p hp
      rw [e2, e] at q
      rcases z with z | ⟨_, z⟩
      · rw [q] at z; cases z
      · rw [q] at z; cases z
    · obtain ⟨p, hp, e2⟩ := List.mem_map.mp hb
      rw [← e2, hT p hp]; exact fun q => nomatch q
    · obtain ⟨e, o, z⟩ := z
      rw [e]
      rcases z with z | ⟨_, z⟩
      · rw [z]; exact fun q => nomatch q
      · rw [z]; exact fun q => nomatch q
  have rh : ∀ (ρ : List Addr) (ts : List (Addr × Str)), (∀ p ∈ ts, p ∈ tabs) → RHl c Z H ρ (ts.map fun p => .tab p.1 p.2) (ts.map (·.1)) (ts.map (·.1)) := fun ρ ts => by
    induction ts with
    | nil => exact fun _ => ⟨rfl, rfl⟩
    | cons p ts ih =>
      intro hs
      refine ⟨p.1, ts.map (·.1), [p.1], ts.map (·.1), rfl, rfl, ⟨rfl, rfl, #[], hT p (hs p List.mem_cons_self), trivial, fun pos cv z => ?_⟩, ih fun q hq => hs q (List.mem_cons_of_mem _ hq)⟩
      have z : codeAmong pos [] = some cv := z
      simp [codeAmong] at z
  refine ⟨rfl, wd, [.d (.rol (ns.map .int))], _, ok, rh _ tabs fun _ h => h, ⟨.ref a, [], [], [], rfl, rfl, ⟨rfl, a, ns.map V.int, rfl, ?_, intR Z ns⟩, ⟨rfl, rfl⟩⟩, ?_⟩
  · rcases hS with hS | ⟨o, its, n, k1, k2, k3, k4, k5, k6⟩
    · exact .inl ⟨⟨rfl, _, hS⟩, hS⟩
    · exact .inr fun H' => .inr ⟨o, its, n, k1, k2, k3, k4, k5, k6⟩
  · rw [he]
    exact fun w' H' v Fv mo rh' ru => ru.2
theorem Cc.down {N : List Str} {sc : Scope} {j : Nat} {X : Cx} {W : WX} (C : Cc c P w base N sc k X W) (h : j ≤ k) : Cc c P w base N sc j X W := ⟨C.eP, C.ew, C.eK, C.emg, C.ebase, C.eN, C.esc, C.calm, C.room.mono h, C.tk, C.po, C.fk, C.nd⟩
theorem CloOk.mono {CB : Nat → ME} {j : Nat} (O : CloOk c P w base CB j) (h : j ≤ k) : CloOk c P w base CB k := ⟨fun i J e => ⟨(O.run i J e).1, fun X W C => (O.run i J e).2 X W (C.down h)⟩⟩
theorem fnD_of {N : List Str} {x : Str} {st : Stmt} {fa : Addr} {fd : FuncData} {ps : List Str} {n nN : Nat} {b : MS} (D : DefF c x st fa fd ps) (S : FnScope N ps (defScope st)) (hn : ps.length = n) (hN : N.length = nN)
    (hb : ∀ (X : Cx) (W : WX), Cc c P w base N (defScope st) k X W → (∀ y, X.fn y = true) → X.stack = X.env :: X.outer → X.env.frame = some X.env.locals → PSs X (defBody st) (tS c W b)) : FnOk P w c.K c.mg base (L2.CX P w) (k + 1) fa fd ps (spM c n (fnM nN b)) :=
  D.F.okX S (spM_len hn) fun cdv A outer s H vs Q E hr h => ⟨_, hb _ _ ⟨rfl, rfl, rfl, rfl, rfl, rfl, rfl, rfl, hr, takes_of rfl rfl rfl rfl, passes_of rfl, S.kind, S.nd⟩ (fun _ => rfl) rfl rfl, body_ok N hN h⟩
theorem gd_rec2 {x : Str} {st : Stmt} {fa : Addr} {fd : FuncData} {ps : List Str} {n : Nat} {F : Nat → MF} (D : DefF c x st fa fd ps) (hn : ps.length = n) (h0 : ∀ us h, F 0 us h = .bad) (hs : ∀ j, Gd c P w base (j + k + 1) x n (F j) → Gd c P w base (j + k + 2) x n (F (j + 1))) : ∀ j, Gd c P w base (j + k + 1) x n (F j)
  | 0 => ⟨fa, fd, ps, ⟨spM_len hn, fun A outer s H args us vs Q E _ _ _ _ ⟨_, _, us', hd, _, _, _, p⟩ => by rw [h0] at p; exact p.elim⟩, D.m, D.F.kp, D.b⟩
  | j + 1 => (hs j (gd_rec2 D hn h0 hs j)).mono (by omega)
end
end MM

/-! MM26: the functions' own laws, for simp. -/
namespace MM
open PySem PySem.Spec PyProof.Rows L2
section
variable (a b ms ns : MS) (m n me : ME) (t : MT) (ma mas : MAs) (σ : SL) (h : HS) (f : MF)
@[simp] theorem sSeq_at : sSeq a b σ h = thenS (a σ h) b := rfl
@[simp] theorem sIf_at : sIf t a b σ h = bindT (t σ h) σ fun k h1 => if k then a σ h1 else b σ h1 := rfl
@[simp] theorem sSet_at (i : Nat) : sSet i m σ h = bindS (m σ h) σ fun u h1 => .nx (σ.set i (some u)) h1 := rfl
@[simp] theorem sDrop_at : sDrop m σ h = bindS (m σ h) σ fun _ h1 => .nx σ h1 := rfl
@[simp] theorem sRet_at : sRet m σ h = bindS (m σ h) σ fun u h1 => .rt u h1 := rfl
@[simp] theorem sRetN_at : sRetN σ h = .rt (.d .non) h := rfl
@[simp] theorem sPass_at : sPass σ h = .nx σ h := rfl
@[simp] theorem sBrk_at : sBrk σ h = .bk σ h := rfl
@[simp] theorem sCnt_at : sCnt σ h = .ct σ h := rfl
@[simp] theorem sMove_at (i : Nat) : sMove i σ h = match σ[i]? with
  | some (some u) => .rt u h
  | _ => .bad := rfl
@[simp] theorem mK_at (x : DV) : mK x σ h = .ok (.d x) h := rfl
@[simp] theorem mVar_at (i : Nat) : mVar i σ h = match σ[i]? with
  | some (some u) => .ok u h
  | _ => .bad := rfl
@[simp] theorem mVarE_at (i : Nat) : mVarE i σ h = match σ[i]? with
  | some (some u) => if noOwn u = true then .ok u h else .bad
  | _ => .bad := rfl
@[simp] theorem mUn_at (g : HS → UV → Option UV) : mUn g m σ h = bindM (m σ h) fun u h1 => ofO (g h1 u) h1 := rfl
@[simp] theorem mBin_at (g : HS → UV → UV → Option UV) : mBin g m n σ h = bindM (m σ h) fun u h1 => bindM (n σ h1) fun v h2 => ofO (g h2 u v) h2 := rfl
@[simp] theorem mTst_at : mTst m σ h = bindM (m σ h) fun u h1 => ofO (uBl u) h1 := rfl
@[simp] theorem mTru_at : mTru m σ h = bindM (m σ h) fun u h1 => ofO (truU h1 u) h1 := rfl
@[simp] theorem mNot_at (t : MT) : mNot t σ h = bindM (t σ h) fun b h1 => .ok (!b) h1 := rfl
@[simp] theorem mAnd_at (t u : MT) : mAnd t u σ h = bindM (t σ h) fun b h1 => if b then u σ h1 else .ok false h1 := rfl
@[simp] theorem mOr_at (t u : MT) : mOr t u σ h = bindM (t σ h) fun b h1 => if b then .ok true h1 else u σ h1 := rfl
@[simp] theorem mNotV_at : mNotV m σ h = bindM (m σ h) fun u h1 => ofO ((truU h1 u).map fun k => .d (.bl (!k))) h1 := rfl
@[simp] theorem mAndV_at : mAndV m n σ h = bindM (m σ h) fun u h1 => bindM (ofO (truU h1 u) h1) fun k h2 => if k then n σ h2 else .ok u h2 := rfl
@[simp] theorem mOrV_at : mOrV m n σ h = bindM (m σ h) fun u h1 => bindM (ofO (truU h1 u) h1) fun k h2 => if k then .ok u h2 else n σ h2 := rfl
@[simp] theorem mIf_at : mIf t m n σ h = bindM (t σ h) fun k h1 => if k then m σ h1 else n σ h1 := rfl
@[simp] theorem mFz_at : mFz m σ h = bindM (m σ h) fun u h1 => ofO (fz u) h1 := rfl
@[simp] theorem aNil_at : aNil σ h = .ok [] h := rfl
@[simp] theorem aCons_at : aCons m mas σ h = bindM (m σ h) fun u h1 => bindM (mas σ h1) fun us h2 => .ok (u :: us) h2 := rfl
@[simp] theorem mLst_at : mLst mas σ h = bindM (mas σ h) fun us h1 => if us.length ≤ sizeLine then .ok (.own us) h1 else .bad := rfl
@[simp] theorem mTup_at : mTup mas σ h = bindM (mas σ h) fun us h1 => if us.length ≤ sizeLine then ofO ((toDl us).map fun xs => .d (.tup xs)) h1 else .bad := rfl
@[simp] theorem mCall_at : mCall f mas σ h = bindM (mas σ h) fun us h1 => if us.all noOwn then f us h1 else .bad := rfl
@[simp] theorem oNo_at : oNo σ h = .ok none h := rfl
@[simp] theorem oYes_at : oYes m σ h = bindM (m σ h) fun u h1 => ofO ((uInt u).map some) h1 := rfl
@[simp] theorem mSlice_at (lo hi : MO) : mSlice m lo hi σ h = bindM (m σ h) fun u h1 => bindM (lo σ h1) fun l h2 => bindM (hi σ h2) fun r h3 => ofO (sliceU h3 u l r) h3 := rfl
@[simp] theorem noOwn_d (x : DV) : noOwn (.d x) = true := rfl
@[simp] theorem noOwn_ref (i : Nat) : noOwn (.ref i) = true := rfl
@[simp] theorem noOwn_own (xs : List UV) : noOwn (.own xs) = false := rfl
@[simp] theorem noOwn_clo (i : Nat) (cs : List UV) : noOwn (.clo i cs) = true := rfl
@[simp] theorem uInt_int (i : Int) : uInt (.d (.int i)) = some i := rfl
@[simp] theorem uBl_bl (k : Bool) : uBl (.d (.bl k)) = some k := rfl
@[simp] theorem truU_bl (k : Bool) : truU h (.d (.bl k)) = some k := rfl
@[simp] theorem toDl_nil : toDl [] = some [] := rfl
@[simp] theorem toDl_d (x : DV) (us : List UV) : toDl (.d x :: us) = (toDl us).map (x :: ·) := by
  show (match toD (.d x), toDl us with
    | some y, some ys => some (y :: ys)
    | _, _ => none) = _
  cases toDl us <;> rfl
@[simp] theorem fz_d (x : DV) : fz (.d x) = some (.d x) := rfl
theorem toDl_map (xs : List DV) : toDl (xs.map .d) = some xs := by
  induction xs with
  | nil => rfl
  | cons x xs ih => rw [List.map_cons, toDl_d, ih]; rfl
@[simp] theorem fz_own (xs : List DV) : fz (.own (xs.map .d)) = some (.d (.lst xs)) := by
  unfold fz
  show (match (toDl (xs.map .d)).map DV.lst with
    | some x => some (UV.d x)
    | none => _) = _
  rw [toDl_map]; rfl
@[simp] theorem uDs_nil : uDs [] = some [] := rfl
@[simp] theorem uDs_d (x : DV) (us : List UV) : uDs (.d x :: us) = (uDs us).map (x :: ·) := by
  unfold uDs
  rw [mapO]
  cases mapO uD us <;> rfl
@[simp] theorem sizeLine_ge (n : Nat) (hn : n ≤ 1000) : (n ≤ sizeLine) = True := by
  have : 1000 ≤ sizeLine := by decide
  simp; omega
@[simp] theorem cLt_int (i j : Int) : cLt h (.d (.int i)) (.d (.int j)) = some (.d (.bl (decide (i < j)))) := rfl
@[simp] theorem cLe_int (i j : Int) : cLe h (.d (.int i)) (.d (.int j)) = some (.d (.bl (decide (i ≤ j)))) := rfl
@[simp] theorem cGt_int (i j : Int) : cGt h (.d (.int i)) (.d (.int j)) = some (.d (.bl (decide (j < i)))) := rfl
@[simp] theorem cGe_int (i j : Int) : cGe h (.d (.int i)) (.d (.int j)) = some (.d (.bl (decide (j ≤ i)))) := rfl
@[simp] theorem oAdd_int (i j : Int) : oAdd h (.d (.int i)) (.d (.int j)) = some (.d (.int (i + j))) := rfl
@[simp] theorem oSub_int (i j : Int) : oSub h (.d (.int i)) (.d (.int j)) = some (.d (.int (i - j))) := rfl
@[simp] theorem oNeg_int (i : Int) : oNeg h (.d (.int i)) = some (.d (.int (-i))) := rfl
theorem oMul_int (i j : Int) (hc : CMul i j) : oMul h (.d (.int i)) (.d (.int j)) = some (.d (.int (i * j))) := by
  unfold oMul; simp [hc]
theorem oFdiv_int (i j : Int) (h1 : 0 < j) (h2 : j < 1073741824) : oFdiv h (.d (.int i)) (.d (.int j)) = some (.d (.int (i / j))) := by
  unfold oFdiv iOp CDiv; simp [h1, h2]
theorem oMod_int (i j : Int) (h1 : 0 < j) : oMod h (.d (.int i)) (.d (.int j)) = some (.d (.int (i % j))) := by
  unfold oMod iOp; simp [h1]
@[simp] theorem fInt_int (i : Int) : fInt h (.d (.int i)) = some (.d (.int i)) := rfl
@[simp] theorem fAbs_int (i : Int) : fAbs h (.d (.int i)) = some (.d (.int (if i < 0 then -i else i))) := rfl
end
theorem fnM_at (N : Nat) (b : MS) (us : List UV) (h : HS) : fnM N b us h = match b (us.map some ++ List.replicate (N - us.length) none) h with
  | .nx _ h' => .ok (.d .non) h'
  | .rt u h' => .ok u h'
  | .ex e _ h' => .err e h'
  | _ => .bad := rfl
/-- a comprehension whose turns give values -/
theorem compL_map {f : UV → HS → MR (Option UV)} {h : HS} (g : UV → UV) : ∀ {xs : List UV}, (∀ x ∈ xs, f x h = .ok (some (g x)) h) → compL f xs h = .ok (xs.map g) h
  | [], _ => rfl
  | x :: xs, hx => by
    unfold compL
    rw [hx x List.mem_cons_self]
    simp only
    rw [compL_map g fun y hy => hx y (List.mem_cons_of_mem _ hy)]
    rfl
/-- a loop whose turns go on, an invariant of the slots kept -/
theorem loopL_inv {f : UV → SL → HS → RS'} {h : HS} {Pv : SL → Prop} : ∀ {xs : List UV} {σ : SL}, Pv σ → (∀ x ∈ xs, ∀ σ, Pv σ → ∃ σ', (f x σ h = .nx σ' h ∨ f x σ h = .ct σ' h) ∧ Pv σ') → ∃ σ', loopL f xs σ h = .nx σ' h ∧ Pv σ'
  | [], σ, h0, _ => ⟨σ, rfl, h0⟩
  | x :: xs, σ, h0, hx => by
    obtain ⟨σ1, e1, h1⟩ := hx x List.mem_cons_self σ h0
    obtain ⟨σ2, e2, h2⟩ := loopL_inv (xs := xs) h1 fun y hy => hx y (List.mem_cons_of_mem _ hy)
    refine ⟨σ2, ?_, h2⟩
    unfold loopL
    rcases e1 with e1 | e1 <;> · rw [e1]; exact e2
theorem mem_rangeU {lo : Int} {n : Nat} {x : UV} (hx : x ∈ rangeU lo n) : ∃ i : Nat, i < n ∧ x = .d (.int (lo + (i : Int))) := by
  obtain ⟨i, hi, e⟩ := List.mem_map.mp hx
  exact ⟨i, List.mem_range.mp hi, e.symm⟩

/-! ### the laws' own comparison -/
def matB (T : ExT) (F : MF) : MS := (sSeq (sIf (mOr (mTst (mBin oIs (mVar 1) (mK .non))) (mTst (mBin oIs (mVar 0) (mK .non)))) (sRet (mAndV (mBin oIs (mVar 1) (mK .non)) (mBin oIs (mVar 0) (mK .non)))) sPass) (sSeq (sIf (mOr (mTru (mBin (fIsX T) (mVar 1) (mK (.ty "bool")))) (mTru (mBin (fIsX T) (mVar 0) (mK (.ty "bool"))))) (sRet (mAndV (mBin (fIsX T) (mVar 1) (mK (.ty "bool"))) (mAndV (mBin (fIsX T) (mVar 0) (mK (.ty "bool"))) (mBin (oEq false) (mVar 0) (mVar 1))))) sPass) (sSeq (sIf (mTru (mBin (fIsX T) (mVar 1) (mK (.ty "int")))) (sRet (mAndV (mBin (fIsX T) (mVar 0) (mK (.ty "int"))) (mBin (oEq false) (mVar 0) (mVar 1)))) sPass) (sSeq (sIf (mTru (mBin (fIsX T) (mVar 1) (mK (.ty "str")))) (sRet (mAndV (mBin (fIsX T) (mVar 0) (mK (.ty "str"))) (mBin (oEq false) (mVar 0) (mVar 1)))) sPass) (sSeq (sIf (mTru (mBin (fIsX T) (mVar 1) (mK (.ty "dict")))) (sSeq (sIf (mOr (mNot (mTru (mBin (fIsX T) (mVar 0) (mK (.ty "dict"))))) (mTst (mBin (oEq true) (mUn fLen (mVar 0)) (mUn fLen (mVar 1))))) (sRet (mK (.bl false))) sPass) (sSeq (sFor (mFz (mUn fList (mVar 1))) (tdN 2) (sIf (mOr (mTst (mBin (oIn true) (mVar 2) (mVar 0))) (mNot (mTru (mCall F (aCons (mBin oItem (mVar 0) (mVar 2)) (aCons (mBin oItem (mVar 1) (mVar 2)) aNil)))))) (sRet (mK (.bl false))) sPass)) (sRet (mK (.bl true))))) sPass) (sSeq (sIf (mAnd (mTru (mBin (fIsX T) (mVar 1) (mK (.ty "tuple")))) (mNot (mTru (mBin (fIsX T) (mVar 0) (mK (.ty "tuple")))))) (sRet (mK (.bl false))) sPass) (sSeq (sIf (mAnd (mTru (mBin (fIsX T) (mVar 1) (mK (.ty "list")))) (mNot (mTru (mBin (fIsX T) (mVar 0) (mK (.ty "list")))))) (sRet (mK (.bl false))) sPass) (sSeq (sIf (mTst (mBin (oEq true) (mUn fLen (mVar 0)) (mUn fLen (mVar 1)))) (sRet (mK (.bl false))) sPass) (sSeq (sForR (mK (.int 0)) (mUn fLen (mVar 1)) (tdN 3) (sIf (mNot (mTru (mCall F (aCons (mBin oItem (mVar 0) (mVar 3)) (aCons (mBin oItem (mVar 1) (mVar 3)) aNil))))) (sRet (mK (.bl false))) sPass)) (sRet (mK (.bl true))))))))))))
def matF (T : ExT) : Nat → MF
  | 0 => fun _ _ => .bad
  | j + 1 => fnM 4 (matB T (matF T j))
/-- what is compared, to a depth -/
def Mt : Nat → DV → Prop
  | 0, _ => False
  | n + 1, x => match x with
    | .non => True
    | .bl _ => True
    | .int _ => True
    | .str s => s.length ≤ 1000
    | .lst xs => xs.length ≤ 1000 ∧ ∀ y ∈ xs, Mt n y
    | .tup xs => xs.length ≤ 1000 ∧ ∀ y ∈ xs, Mt n y
    | _ => False
section
variable (T : ExT) (h : HS)
theorem isT_non (n : String) : fIsX T h (.d .non) (.d (.ty n)) = (isTy "NoneType" n).map fun b => .d (.bl b) := rfl
theorem isT_bl (k : Bool) (n : String) : fIsX T h (.d (.bl k)) (.d (.ty n)) = (isTy "bool" n).map fun b => .d (.bl b) := rfl
theorem isT_int (i : Int) (n : String) : fIsX T h (.d (.int i)) (.d (.ty n)) = (isTy "int" n).map fun b => .d (.bl b) := rfl
theorem isT_str (s : Str) (n : String) : fIsX T h (.d (.str s)) (.d (.ty n)) = (isTy "str" n).map fun b => .d (.bl b) := rfl
theorem isT_lst (s : List DV) (n : String) : fIsX T h (.d (.lst s)) (.d (.ty n)) = (isTy "list" n).map fun b => .d (.bl b) := rfl
theorem isT_tup (s : List DV) (n : String) : fIsX T h (.d (.tup s)) (.d (.ty n)) = (isTy "tuple" n).map fun b => .d (.bl b) := rfl
@[simp] theorem oIs_at (u : UV) : oIs h u (.d .non) = some (.d (.bl (isNon u))) := rfl
@[simp] theorem isNon_non : isNon (.d .non) = true := rfl
@[simp] theorem isNon_int (i : Int) : isNon (.d (.int i)) = false := rfl
@[simp] theorem isNon_str (i : Str) : isNon (.d (.str i)) = false := rfl
@[simp] theorem isNon_bl (i : Bool) : isNon (.d (.bl i)) = false := rfl
@[simp] theorem isNon_lst (i : List DV) : isNon (.d (.lst i)) = false := rfl
@[simp] theorem isNon_tup (i : List DV) : isNon (.d (.tup i)) = false := rfl
theorem oEq_int (ng : Bool) (i j : Int) : oEq ng h (.d (.int i)) (.d (.int j)) = some (.d (.bl (if ng then !(i == j) else (i == j)))) := rfl
theorem oEq_bl (ng : Bool) (i j : Bool) : oEq ng h (.d (.bl i)) (.d (.bl j)) = some (.d (.bl (if ng then !(i == j) else (i == j)))) := rfl
theorem mat_int (F : MF) (i j : Int) : fnM 4 (matB T F) [.d (.int i), .d (.int j)] h = .ok (.d (.bl (i == j))) h := by
  simp [fnM_at, matB, isT_int, isTy, oEq_int]
end
end MM

/-! MM27: a comprehension set to a plain local; a tuple's parts to names; arguments lent to a call; x.append(k) for each x of a list of own lists. -/
namespace MM
open PySem PySem.Spec PyProof.Rows L2
section
variable {c : Cg} {P : Program} {w : World} {base : Heap} {N : List Str} {sc : Scope} {k : Nat} {X : Cx} {W : WX} {pu : Bool} {L : List Str} {m mb me : ME} {mt : MT} {iter elt tg a b e : Expr} {g : TG} {td : TD} {ifs : List Expr} {scope : Scope} {own : List (Str × Nat)} {p p' pos py spos : Pos}
theorem Cc.sw (C : Cc c P w base N sc k X W) {gs : List Comprehension} {y : Str} (hy : sc.names.lookup y = some .local) (hl : (py.line == pos.line) = true) (ha : (scope.names.any fun (n, k) => n == y && (k == .local || k == .cell)) = false) :
    swapsWith (.ListComp elt gs scope pos) (some (.Name y py)) pos.line X.env = pure true :=
  sw_true (by rw [C.esc]; exact C.fk) (by rw [C.esc]; exact hy) hl ha
theorem g_setComp (C : Cc c P w base N sc k X W) (i : Nat) {y : Str} (hi : PE X iter (tV pu .E c W m)) (ok : blkC N sc scope own = true) (hgs : TgS c g td) (hgw : TgW g (own.map (·.2))) (hg : Blk X scope fun Y => PG Y tg g) (ht : Blk X scope fun Y => PTs Y ifs (tB2 pu c W0 mt)) (he : Blk X scope fun Y => PE Y elt (tV pu .E c W0 me))
    (hj : N[i]? = some y := by rfl) (hy : sc.names.lookup y = some .local := by rfl) (hsw : swapsWith (.ListComp elt [⟨tg, iter, ifs, 0⟩] scope pos) (some (.Name y py)) spos.line X.env = pure true := by first | exact Cc.sw (by assumption) rfl rfl rfl | exact Cc.sw (by assumption) rfl rfl (by decide +kernel))
    (hs : ∀ y, foldedSetIterable iter X.env y = pure y := by intro _; rfl) : PS X (.Assign [.Name y py] (.ListComp elt [⟨tg, iter, ifs, 0⟩] scope pos) spos) (tS c W (sSet i (mComp m td (own.map (·.2)) mt me))) :=
  s_setComp C.eK C.calm C.nd (C.ni hj) (by rw [C.esc]; exact hy) hsw hi (by rw [C.eN, C.esc]; exact blkOk_by ok) hgs hgw hg ht he hs
theorem g_setCompR1 (C : Cc c P w base N sc k X W) (B : NoG c L) (i : Nat) {y : Str} (hb : PE X b (tV pu .C c W mb)) (ok : blkC N sc scope own = true) (hgs : TgS c g td) (hgw : TgW g (own.map (·.2))) (hg : Blk X scope fun Y => PG Y tg g) (ht : Blk X scope fun Y => PTs Y ifs (tB2 pu c W0 mt)) (he : Blk X scope fun Y => PE Y elt (tV pu .E c W0 me))
    (hj : N[i]? = some y := by rfl) (hy : sc.names.lookup y = some .local := by rfl) (hsw : swapsWith (.ListComp elt [⟨tg, .Call (.Name "range" p) [b] [] p', ifs, 0⟩] scope pos) (some (.Name y py)) spos.line X.env = pure true := by first | exact Cc.sw (by assumption) rfl rfl rfl | exact Cc.sw (by assumption) rfl rfl (by decide +kernel))
    (hb1 : L.contains ("range" : Str) = true := by rfl) (hgl : sc.names.lookup ("range" : Str) = some .globalImplicit := by rfl) (hs2 : starEach [b] X.env = [(false, eval b X.env)] := by rfl) :
    PS X (.Assign [.Name y py] (.ListComp elt [⟨tg, .Call (.Name "range" p) [b] [] p', ifs, 0⟩] scope pos) spos) (tS c W (sSet i (mCompR (mK (.int 0)) mb td (own.map (·.2)) mt me))) :=
  s_setCompR1 C.calm C.nd (C.ni hj) (by rw [C.esc]; exact hy) hsw (C.gl hgl) (C.mgo (B.at hb1)) hb (by rw [C.eN, C.esc]; exact blkOk_by ok) hgs hgw hg ht he hs2

/-! ### a tuple's parts -/
def sAsg (td : TD) (m : ME) : MS := fun σ h => bindS (m σ h) σ fun u h1 => if noOwn u = true then match td u σ with
  | some σ' => .nx σ' h1
  | none => .bad else .bad
theorem s_asg (hgs : TgS c g td) (he : PE X e (tV pu .E c W m)) (hs : PE X e (tV pu .E c W m) → PS X (.Assign [tg] e pos) (tAsg (tV pu .E c W m) g)) : PS X (.Assign [tg] e pos) (tS c W (sAsg td m)) :=
  PS.imp (hs he) fun D σ H ⟨w, Fs, σd, hd, S, p⟩ => stepE S p fun u h1 w1 H1 x Fx S1 ok pp ru p1 => by
    split at p1
    · rename_i hno
      have eF := noOwn_F hno ru
      subst eF
      rw [fullv_nil] at p1
      cases q : td u σd with
      | none => rw [q] at p1; exact p1.elim
      | some σ2 =>
        rw [q] at p1
        exact hgs w1 Fs σd h1 σ H1 u x σ2 _ S1 ru q fun Fs' σ' ex S' => p1 w1 Fs' σ' H1 ex S'
    · exact p1.elim
theorem sw_cell {x y : Str} {px py pt pt2 : Pos} {kt k2} {a b : Expr} {env : Env} (h : ((env.scope.names.lookup x == some .local) && (env.scope.names.lookup y == some .local)) = false) : swappedStores [.Tuple [.Name x px, .Name y py] kt pt] (.Tuple [a, b] k2 pt2) env = pure none := by
  have hx : env.kindOf x = env.scope.names.lookup x := rfl
  have hy : env.kindOf y = env.scope.names.lookup y := rfl
  unfold swappedStores
  split
  · rename_i ts vs q
    cases q
    split
    · rfl
    · split
      · rfl
      · show (if _ then _ else _) = _
        refine if_pos ?_
        rw [← hx, ← hy] at h
        simp only [List.filterMap_cons, List.filterMap_nil]
        cases q1 : (env.kindOf x == some NameKind.local) <;> cases q2 : (env.kindOf y == some NameKind.local)
        · simp
        · simp only [Bool.false_and, Bool.true_and]
          by_cases r : (py.line == (Option.map (fun x => x.pos.line) [Expr.Name x px, Expr.Name y py].head?).getD 0) = true
          · simp only [r, if_true]; simp
          · simp only [Bool.not_eq_true] at r; simp only [r]; simp
        · simp only [Bool.false_and, Bool.true_and]
          by_cases r : (px.line == (Option.map (fun x => x.pos.line) [Expr.Name x px, Expr.Name y py].head?).getD 0) = true
          · simp only [r, if_true]; simp
          · simp only [Bool.not_eq_true] at r; simp only [r]; simp
        · rw [q1, q2] at h; simp at h
  · rename_i q; exact absurd rfl (q _ _)
theorem g_asgT2 (C : Cc c P w base N sc k X W) {x y : Str} {px py pt pt2 : Pos} {kt k2} (hg : PG X (.Tuple [.Name x px, .Name y py] kt pt) g) (hgs : TgS c g td) (he : PE X (.Tuple [a, b] k2 pt2) (tV pu .E c W m)) (h : ((sc.names.lookup x == some .local) && (sc.names.lookup y == some .local)) = false := by rfl)
    (hs : swapsWithSole [.Tuple [.Name x px, .Name y py] kt pt] (.Tuple [a, b] k2 pt2) pos.line X.env = pure false := by rfl) : PS X (.Assign [.Tuple [.Name x px, .Name y py] kt pt] (.Tuple [a, b] k2 pt2) pos) (tS c W (sAsg td m)) :=
  s_asg hgs he fun q => ps_asg q hg hs (sw_cell (by rw [C.esc]; exact h))
/-! ### arguments lent to a call -/
def dvOf (σ : SL) (j : Nat) : Option DV := match σ[j]? with
  | some (some u) => toD u
  | _ => none
def scalD : DV → Bool
  | .non => true
  | .bl _ => true
  | .int _ => true
  | .str _ => true
  | _ => false
/-- the slots' things are lent as frozen, with no store at all; the answer is a scalar -/
def mLend (f : MF) (js : List Nat) : ME := fun σ h => match mapO (dvOf σ) js with
  | some xs => match f (xs.map .d) [] with
    | .ok (.d x) _ => if scalD x = true then .ok (.d x) h else .bad
    | _ => .bad
  | none => .bad
def tVars : List Nat → TA
  | [] => tNil
  | j :: js => tCons (tVar j) (tVars js)
theorem tVars_at {w : Wd} {H : Hp} {Fs : List Addr} {σd : SL} {σ : L2.St} (S : RS c w.Z H w.ρ σd σ Fs) : ∀ (js : List Nat) (xs : List DV), mapO (dvOf σd) js = some xs → ∀ R : List V → Hp → Prop, (∀ vs, RDl c (fun a => w.Z a ∨ a ∈ Fs) H xs vs → vs.length = js.length → R vs H) → tVars js σ H R
  | [], xs, e, R, k => by
    cases e
    exact k [] rfl rfl
  | j :: js, xs, e, R, k => by
    unfold mapO at e
    split at e
    · rename_i x xs' e1 e2
      cases e
      unfold dvOf at e1
      split at e1
      · rename_i u q
        obtain ⟨v, G, q2, r, sub⟩ := RS.split S q
        refine ⟨v, q2, tVars_at S js xs' e2 _ fun vs r2 hl => k (v :: vs) ⟨v, vs, rfl, ?_, r2⟩ (by rw [List.length_cons, List.length_cons, hl])⟩
        exact toD_ok (fun _ z => .inl z) (fun a ha => .inr (sub.subset ha)) r e1
      · cases e1
    · cases e
theorem RDl.toRU {Z : Addr → Prop} {H : Hp} {ρ : List Addr} : ∀ {xs : List DV} {vs : List V}, RDl c Z H xs vs → RUl c Z H ρ (xs.map .d) vs []
  | [], _, h => ⟨h, rfl⟩
  | x :: xs, _, ⟨v, r, e, h, t⟩ => ⟨v, r, [], [], e, rfl, ⟨rfl, h⟩, RDl.toRU t⟩
theorem scal_any {Z Z' : Addr → Prop} {H H' : Hp} {x : DV} {v : V} (hs : scalD x = true) (h : RD c Z H x v) : RD c Z' H' x v := by
  cases x <;> first | exact h | cases hs
theorem lend_args {σ : L2.St} {H : Hp} {Q : VK} {n : Nat} {f : MF} {js : List Nat} (hn : js.length = n) (h : tV false .E c W (mLend f js) σ H Q) : tVars js σ H fun vs H1 => spM c n f (vs ++ []) H1 Q (WE W σ) := by
  obtain ⟨w, Fs, σd, hd, S, p⟩ := h
  unfold mLend at p
  split at p
  · rename_i xs e
    refine tVars_at S.s js xs e _ fun vs r hl => ?_
    rw [List.append_nil]
    have okZ : ∀ a, (w.Z a ∨ a ∈ Fs) → H a ≠ none := fun a z => z.elim (S.ok.trZ a) fun z => S.ok.trF a (List.mem_append_left _ z)
    refine ⟨by rw [hl, hn], ⟨[], fun a => w.Z a ∨ a ∈ Fs, []⟩, xs.map .d, [], ⟨List.nodup_nil, fun a z => (nomatch z), fun a z => (nomatch z), okZ⟩, ⟨rfl, rfl⟩, RDl.toRU r, ?_⟩
    split at p
    · rename_i x h' ef
      rw [ef]
      split at p
      · rename_i hsc
        intro w' H' v Fv mo rh ru
        have kp : ∀ a o, H a = some o → H' a = some o := fun a o q => mo.1.keep a o q (fun z => nomatch z)
        have th : ∀ a, H a ≠ none → H' a ≠ none := mo.1.there
        refine p w H' v [] ⟨⟨fun _ _ q => q, fun _ z => z, fun a o q _ => kp a o q, fun a z => z.elim .inl fun z => .inr (.inl (by simpa using z)), th⟩, ?_⟩ .no (RHl.mono (fun _ _ e => e) (fun _ z => z) (fun a o _ q => kp a o q) (fun a _ o q => kp a o q) S.h) ⟨rfl, scal_any hsc ru.2⟩
        rw [List.append_nil]
        exact ⟨S.wok.nd, S.wok.sep, fun a ha => th a (S.wok.trF a ha), fun a z => th a (S.wok.trZ a z)⟩
      · exact p.elim
    · exact p.elim
  · exact p.elim
theorem g_lend (C : Cc c P w base N sc k X W) {x : Str} {n : Nat} {f : MF} {es : List Expr} (G : Gd c P w base k x n f) (js : List Nat) (ha : PA X (e :: es) (tVars js)) (hn : js.length = n := by rfl) (hg : sc.names.lookup x = some .globalImplicit := by rfl) (hdb : (x == ("__debug__" : Str)) = false := by decide)
    (he : starEach (e :: es) X.env = (false, eval e X.env) :: starEach es X.env := by rfl) (hpl : (backTo pos (starEach es X.env)).any (·.1) = false := by rfl) : PE X (.Call (.Name x p) (e :: es) [] pos) (tV false .E c W (mLend f js)) := by
  obtain ⟨fa, fd, ps, F, m1, m2, m3⟩ := G
  exact PE.imp (pe_callSD (E := WE W) (C.fn F) C.room (C.gl hg) (C.mgo m1) (by rw [← C.eK]; exact m2) (by rw [← C.eK]; exact m3) .nil (fun σ => passAt C.tk σ) ha hdb he hpl) fun σ H Q h => lend_args hn h

/-! ### for x in xs: x.append(k) -/
def apE (x : DV) : UV → Option UV
  | .own ys => if ys.length < sizeLine then some (.own (ys ++ [.d x])) else none
  | _ => none
def sAppEach (i j : Nat) (x : DV) : MS := fun σ h => match σ[i]?, σ[j]? with
  | some (some (.own xs)), some none => match mapO (apE x) xs with
    | some ys => .nx (σ.set i (some (.own ys))) h
    | none => .bad
  | _, _ => .bad
def tApC (j : Nat) (y : V) : TS := fun D σ H => ∃ b ws, σ[j]? = some (some (.ref b)) ∧ H b = some (.lst ws) ∧ ws.length < sizeLine ∧ D.nx σ (upd H b (.lst (ws ++ [y])))
theorem s_apC {j : Nat} {o : Expr} {apos cpos : Pos} {y : V} (ho : PE X o (tVar j)) (he : PE X e (tC y))
    (hbase : attributeBase o "append" X.env (eval o X.env) = eval o X.env := by rfl) (hline : (apos.endLine == cpos.line) = true := by rfl) (hs1 : starEach [e] X.env = (false, eval e X.env) :: starEach [] X.env := by rfl)
    (hs : swapsWith (.Call (.Attribute o "append" apos) [e] [] cpos) none pos.line X.env = pure false := by rfl)
    (hfew : ((backTo cpos (starEach [e] X.env)).all (fun x => !x.1) && (backToKw cpos (keywordEach [] X.env)).all (fun x => x.1.isSome)
      && decide ([e].length + ([] : List Keyword).length + (if ([] : List Keyword).isEmpty then 0 else 1) < 30)) = true := by rfl) :
    PS X (.Expr (.Call (.Attribute o "append" apos) [e] [] cpos) pos) (tApC j y) :=
  PS.imp (ps_expr (pe_bm PySem.F.plainAttrs_list PySem.F.slot_list_append PySem.F.type_list_append mt_append ho (pa_cons he pa_nil hs1) hbase hfew hline hs1) hs) fun D σ H ⟨b, ws, e1, e2, e3, q⟩ =>
    ⟨.ref b, e1, .inl ⟨rfl, ws, .of e2⟩, b, ws, y, rfl, rfl, e2, e3, q⟩
theorem RS.free {Z : Addr → Prop} {H : Hp} {ρ : List Addr} {o : Option V} : ∀ {s : SL} {l : L2.St} {F : List Addr} {j : Nat}, RS c Z H ρ s l F → s[j]? = some none → RS c Z H ρ s (l.set j o) F
  | [], _, _, _, h, q => by simp at q
  | none :: s, _, F, 0, ⟨o', r, e, t⟩, q => by subst e; exact ⟨o, r, rfl, t⟩
  | some x :: s, _, F, 0, h, q => by simp at q
  | none :: s, _, F, j + 1, ⟨o', r, e, t⟩, q => by subst e; exact ⟨o', _, rfl, RS.free (j := j) t (by simpa using q)⟩
  | some x :: s, _, F, j + 1, ⟨v, r, F1, F2, e, eF, h, t⟩, q => by subst e; exact ⟨v, _, F1, F2, rfl, eF, h, RS.free (j := j) t (by simpa using q)⟩
theorem mapO_lenE {α β : Type} {f : α → Option β} : ∀ {xs : List α} {ys : List β}, mapO f xs = some ys → ys.length = xs.length
  | [], _, e => by cases e; rfl
  | x :: xs, ys, e => by
    unfold mapO at e
    split at e
    · rename_i y ys' e1 e2
      cases e
      rw [List.length_cons, List.length_cons, mapO_lenE e2]
    · cases e
theorem mapO_getE {α β : Type} {f : α → Option β} : ∀ {xs : List α} {ys : List β} {n : Nat} {x : α} {y : β}, mapO f xs = some ys → xs[n]? = some x → ys[n]? = some y → f x = some y
  | [], _, _, _, _, e, h, _ => by simp at h
  | x :: xs, ys, n, x', y', e, h1, h2 => by
    unfold mapO at e
    split at e
    · rename_i y ys' e1 e2
      cases e
      cases n with
      | zero =>
        simp at h1 h2
        subst h1 h2
        exact e1
      | succ n => exact mapO_getE e2 (by simpa using h1) (by simpa using h2)
    · cases e
theorem RS.len {Z : Addr → Prop} {H : Hp} {ρ : List Addr} : ∀ {s : SL} {l : L2.St} {F : List Addr}, RS c Z H ρ s l F → l.length = s.length
  | [], _, _, h => by rw [h.1]; rfl
  | none :: s, _, F, ⟨o', r, e, t⟩ => by subst e; rw [List.length_cons, List.length_cons, RS.len t]
  | some x :: s, _, F, ⟨v, r, F1, F2, e, eF, h, t⟩ => by subst e; rw [List.length_cons, List.length_cons, RS.len t]
theorem own_ne {w : Wd} {H : Hp} {Fs : List Addr} {σd : SL} {hd : HS} {σ : L2.St} (S : Sta c w Fs σd hd σ H) {i n : Nat} {xs zs : List UV} {a b : Addr} {vs : List V} (e1 : σd[i]? = some (some (.own xs))) (e2 : σ[i]? = some (some (.ref a))) (e3 : H a = some (.lst vs)) (e4 : xs[n]? = some (.own zs)) (e5 : vs[n]? = some (.ref b)) : a ≠ b := by
  obtain ⟨v, G, q3, r, sub⟩ := RS.split S.s e1
  rw [e2] at q3
  cases q3
  obtain ⟨a', vs', G0, ea, hH, eF, t⟩ := r
  cases ea
  rw [e3] at hH
  cases hH
  obtain ⟨v', F', q5, r', s'⟩ := t.get e4
  rw [e5] at q5
  cases q5
  obtain ⟨b', ws, G1, eb, _, eF1, _⟩ := r'
  cases eb
  rintro rfl
  have nd : (a :: G0).Nodup := by
    rw [← eF]
    exact (List.nodup_append.mp S.ok.nd).1.sublist sub
  exact (List.nodup_cons.mp nd).1 (s' _ (by rw [eF1]; exact List.mem_cons_self))
theorem appEach_ok {i j : Nat} {n : Int} {D : Ends} {w : Wd} {H : Hp} {Fs : List Addr} {σd : SL} {hd : HS} {σ : L2.St} (S : Sta c w Fs σd hd σ H) (p : SPo c W (full w Fs) H D (sAppEach i j (.int n) σd hd)) :
    ∃ a vs, σ[i]? = some (some (.ref a)) ∧ H a = some (.lst vs) ∧ ∃ Pv : Nat → L2.St → Hp → Prop, Pv 0 σ H ∧ (∀ m σ' H', Pv m σ' H' → H' a = some (.lst vs)) ∧ (∀ m v σ' H', vs[m]? = some v → Pv m σ' H' → tApC j (.int n) { D with nx := Pv (m + 1), ct := Pv (m + 1), bk := D.nx } (σ'.set j (some v)) H') ∧ ∀ σ' H', Pv vs.length σ' H' → D.nx σ' H' := by
  unfold sAppEach at p
  split at p
  · rename_i xs q1 q2
    split at p
    · rename_i ys q
      obtain ⟨v, G, q3, r, sub⟩ := RS.split S.s q1
      obtain ⟨a, vs, G0, rfl, hH, eF, t⟩ := r
      have hl := mapO_lenE q
      have hij : i ≠ j := by rintro rfl; rw [q1] at q2; cases q2
      have hi : i < σd.length := (List.getElem?_eq_some_iff.mp q1).1
      refine ⟨a, vs, q3, hH, fun m σ' H' => ∃ w' Fs', Ext (full w Fs) H (full w' Fs') H' ∧ Sta c w' Fs' (σd.set i (some (.own (ys.take m ++ xs.drop m)))) hd σ' H' ∧ σ'[i]? = some (some (.ref a)) ∧ H' a = some (.lst vs), ⟨w, Fs, Ext.refl, ?_, q3, hH⟩, fun m σ' H' ⟨_, _, _, _, _, h⟩ => h, fun m v σ' H' hv ⟨w', Fs', ex, S', e2, e3⟩ => ?_, fun σ' H' ⟨w', Fs', ex, S', e2, e3⟩ => ?_⟩
      · rw [List.take_zero, List.drop_zero, List.nil_append]
        have : σd.set i (some (.own xs)) = σd := by
          refine List.ext_getElem? fun k => ?_
          by_cases e : i = k
          · subst e; rw [List.getElem?_set_self hi, q1]
          · rw [List.getElem?_set_ne e]
        rw [this]
        exact S
      · have hm : m < xs.length := by rw [← t.length]; exact (List.getElem?_eq_some_iff.mp hv).1
        have hmy : m < ys.length := by omega
        have hx : (ys.take m ++ xs.drop m)[m]? = some xs[m] := by
          rw [List.getElem?_append_right (by rw [List.length_take]; omega), List.length_take, Nat.min_eq_left (Nat.le_of_lt hmy), Nat.sub_self, List.getElem?_drop, Nat.add_zero, List.getElem?_eq_getElem hm]
        have ap := mapO_getE q (List.getElem?_eq_getElem hm) (List.getElem?_eq_getElem hmy)
        unfold apE at ap
        split at ap
        · rename_i zs ez
          split at ap
          · rename_i hz
            rw [ez] at hx
            have s1 : (σd.set i (some (UV.own (ys.take m ++ xs.drop m))))[i]? = some (some (.own (ys.take m ++ xs.drop m))) := List.getElem?_set_self hi
            have s2 : (σd.set i (some (UV.own (ys.take m ++ xs.drop m))))[j]? = some none := by rw [List.getElem?_set_ne hij]; exact q2
            have S2 : Sta c w' Fs' (σd.set i (some (.own (ys.take m ++ xs.drop m)))) hd (σ'.set j (some v)) H' := ⟨RS.free S'.s s2, S'.h, S'.ok⟩
            have e4 : (σ'.set j (some v))[i]? = some (some (.ref a)) := by rw [List.getElem?_set_ne (Ne.symm hij)]; exact e2
            have hA : At w'.ρ H' (σd.set i (some (.own (ys.take m ++ xs.drop m)))) hd (σ'.set j (some v)) (.item (.slot i) m) (.own zs) v := ⟨_, vs, a, ⟨s1, e4⟩, e3, hx, hv⟩
            obtain ⟨Fu, ⟨b, ws, Gx, rfl, hb, eFu, tz⟩, _⟩ := At.RU S2 hA
            have ne : a ≠ b := own_ne S2 s1 e4 e3 hx hv
            have okF : WOk (fullv w' Fs' []) H' := by rw [fullv_nil]; exact S2.ok
            obtain ⟨Fs2, F2, G2, x2, ok2, S3⟩ := put_lst (xs' := zs ++ [.d (.int n)]) (vs' := ws ++ [.int n]) S2 okF hA hb fun G tG => ⟨G ++ [], [], by rw [List.append_nil], (show RUl c w'.Z H' w'.ρ (zs ++ [UV.d (.int n)]) (ws ++ [V.int n]) (G ++ []) from RUl.app tG ⟨V.int n, [], [], [], rfl, by rw [List.append_nil], (show RU c w'.Z H' w'.ρ (.d (.int n)) (.int n) [] from ⟨rfl, rfl⟩), ⟨rfl, rfl⟩⟩)⟩
            have sp : setP (.item (.slot i) m) (.own (zs ++ [.d (.int n)])) (σd.set i (some (.own (ys.take m ++ xs.drop m)))) hd = (σd.set i (some (.own (ys.take (m + 1) ++ xs.drop (m + 1)))), hd) := by
              have gp : getP (.slot i) (σd.set i (some (.own (ys.take m ++ xs.drop m)))) hd = some (.own (ys.take m ++ xs.drop m)) := by simp only [getP, s1]
              have el : (ys.take m ++ xs.drop m).set m (.own (zs ++ [.d (.int n)])) = ys.take (m + 1) ++ xs.drop (m + 1) := by
                rw [List.set_append_right _ _ (by rw [List.length_take]; omega), List.length_take, Nat.min_eq_left (Nat.le_of_lt hmy), Nat.sub_self, List.drop_eq_getElem_cons hm, List.set_cons_zero, List.take_succ, List.getElem?_eq_getElem hmy]
                rw [← Option.some.inj ap]
                simp
              simp only [setP, gp, el, List.set_set]
            rw [sp] at S3
            rw [fullv_nil] at x2
            refine ⟨b, ws, ?_, hb, by rw [tz.length]; exact hz, ⟨w'.ρ, w'.Z, F2⟩, Fs2, ex.trans S2.ok (x2.less fun b hb => ?_), S3, e4, by rw [upd_ne ne]; exact e3⟩
            · have : j < σ'.length := by
                rw [RS.len S'.s]
                exact (List.getElem?_eq_some_iff.mp s2).1
              exact List.getElem?_set_self this
            · rcases List.mem_append.mp hb with z | z
              · exact List.mem_append_left _ z
              · exact List.mem_append_right _ (List.mem_append_left _ z)
          · cases ap
        · cases ap
      · rw [t.length, List.drop_length, List.append_nil, ← hl, List.take_length] at S'
        exact p w' Fs' σ' H' ex S'
    · exact p.elim
  · exact p.elim
end
section
variable {c : Cg} {P : Program} {w : World} {base : Heap} {N : List Str} {sc : Scope} {k : Nat} {X : Cx} {W : WX}
theorem g_appEach (C : Cc c P w base N sc k X W) (i j : Nat) {x y : Str} {n : Int} {e : Expr} {px py pa apos cpos epos pos : Pos} (he : PE X e (tC (.int n))) (hx : PE X (.Name x px) (tVar i)) (hy : PE X (.Name y pa) (tVar j)) (hg : PG X (.Name y py) (gName j))
    (hbase : attributeBase (.Name y pa) "append" X.env (eval (.Name y pa) X.env) = eval (.Name y pa) X.env := by rfl) (hline : (apos.endLine == cpos.line) = true := by rfl) (hs1 : starEach [e] X.env = (false, eval e X.env) :: starEach [] X.env := by rfl)
    (hs : swapsWith (.Call (.Attribute (.Name y pa) "append" apos) [e] [] cpos) none epos.line X.env = pure false := by rfl)
    (hfew : ((backTo cpos (starEach [e] X.env)).all (fun x => !x.1) && (backToKw cpos (keywordEach [] X.env)).all (fun x => x.1.isSome)
      && decide ([e].length + ([] : List Keyword).length + (if ([] : List Keyword).isEmpty then 0 else 1) < 30)) = true := by rfl)
    (hf : ∀ y, foldedSetIterable (.Name x px) X.env y = pure y := by intro _; rfl) :
    PS X (.For (.Name y py) (.Name x px) [.Expr (.Call (.Attribute (.Name y pa) "append" apos) [e] [] cpos) epos] [] pos) (tS c W (sAppEach i j (.int n))) :=
  PS.imp (ps_for C.po C.calm (pi_seq hx) hg (pss_one (s_apC hy he hbase hline hs1 hs hfew)) hf) fun D σ H ⟨wd, Fs, σd, hd, S, p⟩ => by
    obtain ⟨a, vs, e1, e2, Pv, p0, pl, ps, pe⟩ := appEach_ok S p
    refine ⟨.ref a, e1, a, rfl, .inl ⟨⟨vs, .of e2⟩, ?_⟩⟩
    exact for_list Pv p0 (fun m σ' H' _ z => .of (pl m σ' H' z)) (fun m v σ' H' hv z => ps m v σ' H' hv z) pe
end
end MM

/-! MM28: blocks whose variable another block reads; a name set in an except suite. -/
namespace MM
open PySem PySem.Spec PyProof.Rows L2
section
variable {c : Cg} {P : Program} {w : World} {base : Heap} {N : List Str} {sc : Scope} {k : Nat} {X : Cx} {W : WX} {pu : Bool} {m : ME} {e : Expr} {p p' pos : Pos} {x : Str}
theorem blkF (C : Cc c P w base N sc k X W) {scope : Scope} (hk : scope.kind = .function) {R : Cx → Prop} (h : ∀ Y, (∀ x, scope.names.lookup x = some .cell → Y.fn x = true) → Cc c P w base N (relS scope sc) k Y W0 → R Y) : Blk X scope R := fun s H Ca cl fp => h _ (fun x e => by
  show (scope.names.lookup x == some .cell) = true
  rw [e]; rfl) (C.blk hk s H Ca cl fp)
theorem Cc.pgK (C : Cc c P w base N sc k X W) {scope : Scope} (hf : ∀ x, scope.names.lookup x = some .cell → X.fn x = true) (i : Nat) (hi : N[i]? = some x := by rfl) (hl : locB sc x = true := by rfl) (hc : scope.names.lookup x = some .cell := by rfl) : PG X (.Name x pos) (gName i) :=
  pg_name C.nd (C.ni hi) (C.lc (locB_ok hl)) (.inl (hf x hc))
theorem q_set (C : Cq c N sc X) (nd : X.N.Nodup) (Fn : ∀ y, X.fn y = true) (i : Nat) (he : PE X e (tV pu .E c W m)) (hi : N[i]? = some x := by rfl) (hl : locB sc x = true := by rfl) (hsw : swapsWith e (some (.Name x p')) pos.line X.env = pure false := by rfl) : PS X (.Assign [.Name x p'] e pos) (tS c W (sSet i m)) :=
  s_set (fun h => ps_set nd (by rw [C.eN]; exact hi) (by rw [C.esc]; exact locB_ok hl) h hsw (.inl (Fn x))) he
end
end MM

/-! MM29: plain laws for Level B: loops, comprehensions, the laws' comparison, draws and stock. -/
namespace MM
open PySem PySem.Spec PyProof.Rows L2
theorem b62 {i j : Int} (h : -1000000 ≤ i ∧ i < 1000000 ∧ -1000000 ≤ j ∧ j < 1000000) : -(2 ^ 62 : Int) ≤ i ∧ i < 2 ^ 62 ∧ -(2 ^ 62 : Int) ≤ j ∧ j < 2 ^ 62 := by
  have e : (2 : Int) ^ 62 = 4611686018427387904 := by simp
  rw [e]; omega
abbrev oI (xs : List Int) : UV := .own (xs.map fun i => .d (.int i))
abbrev dI (xs : List Int) : UV := .d (.lst (xs.map .int))
theorem mapO_ints (xs : List Int) : mapO uInt (xs.map fun i => UV.d (.int i)) = some xs := by
  induction xs with
  | nil => rfl
  | cons x xs ih => rw [List.map_cons, mapO, ih]; rfl
@[simp] theorem fSum_own (h : HS) (xs : List Int) : fSum h (oI xs) = some (.d (.int xs.sum)) := by
  unfold fSum
  show (mapO uInt (xs.map fun i => UV.d (.int i))).map _ = _
  rw [mapO_ints]; rfl
@[simp] theorem fz_oI (xs : List Int) : fz (oI xs) = some (dI xs) := by
  have := fz_own (xs.map DV.int)
  rw [List.map_map] at this
  exact this
@[simp] theorem fLen_lst (h : HS) (xs : List DV) : fLen h (.d (.lst xs)) = some (.d (.int xs.length)) := by
  simp [fLen, lenU, asQ, asT, asL]
theorem atI_get {α} (xs : List α) (i : Nat) (hi : i < xs.length) : atI xs (i : Int) = some xs[i] := by
  have e : ixN xs.length (i : Int) = some i := by
    unfold ixN
    rw [if_pos (by omega), if_pos (by omega)]; simp
  unfold atI
  rw [e]
  simp [hi]
@[simp] theorem all_ints (xs : List Int) : (xs.map fun i => UV.d (.int i)).all noOwn = true := by
  simp
theorem item_lst (h : HS) (xs : List Int) (i : Nat) (hi : i < xs.length) : oItem h (dI xs) (.d (.int (i : Int))) = some (.d (.int xs[i])) := by
  unfold oItem itemU
  simp only [uInt_int, asQ, asT, asL]
  rw [atI_get _ i (by simpa using hi)]
  simp
theorem sForR_at {lo hi : ME} {td : TD} {b : MS} {σ : SL} {h h1 h2 : HS} {i j : Int} (e1 : lo σ h = .ok (.d (.int i)) h1) (e2 : hi σ h1 = .ok (.d (.int j)) h2) (hb : -1000000 ≤ i ∧ i < 1000000 ∧ -1000000 ≤ j ∧ j < 1000000) : sForR lo hi td b σ h = loopL (turnF td b) (rangeU i (j - i).toNat) σ h2 := by
  unfold sForR
  rw [e1]
  show bindS (hi σ h1) σ _ = _
  rw [e2]
  exact if_pos (b62 hb)
theorem sSeq_nx {a b : MS} {σ σ1 : SL} {h h1 : HS} (e : a σ h = .nx σ1 h1) : sSeq a b σ h = b σ1 h1 := by
  rw [sSeq_at, e]; rfl
theorem fnM_rt {N : Nat} {b : MS} {us : List UV} {h h' : HS} {u : UV} (e : b (us.map some ++ List.replicate (N - us.length) none) h = .rt u h') : fnM N b us h = .ok u h' := by
  rw [fnM_at, e]
theorem mCompR_at {lo hi : ME} {td : TD} {vs : List Nat} {mt : MT} {me : ME} {σ : SL} {h h1 h2 : HS} {i j : Int} (e1 : lo σ h = .ok (.d (.int i)) h1) (e2 : hi σ h1 = .ok (.d (.int j)) h2) (hb : -1000000 ≤ i ∧ i < 1000000 ∧ -1000000 ≤ j ∧ j < 1000000) : mCompR lo hi td vs mt me σ h = compE (turnC td vs mt me σ) (rangeU i (j - i).toNat) h2 := by
  unfold mCompR
  rw [e1]
  show bindM (hi σ h1) _ = _
  rw [e2]
  exact if_pos (b62 hb)
theorem mComp_at {mi : ME} {td : TD} {ss : List Nat} {cond : MT} {me : ME} {σ : SL} {h h1 : HS} {x : UV} {us : List UV} (e1 : mi σ h = .ok x h1) (e2 : frzQ x = some us) : mComp mi td ss cond me σ h = compE (turnC td ss cond me σ) us h1 := by
  unfold mComp
  rw [e1]
  show (match frzQ x with
    | some xs => compE (turnC td ss cond me σ) xs h1
    | none => .bad) = _
  rw [e2]
theorem loopL_nx {f : UV → SL → HS → RS'} {x : UV} {xs : List UV} {σ σ1 : SL} {h h1 : HS} (e : f x σ h = .nx σ1 h1) : loopL f (x :: xs) σ h = loopL f xs σ1 h1 := by
  rw [loopL, e]
theorem sFor_at {m : ME} {td : TD} {b : MS} {σ : SL} {h h1 : HS} {u : UV} {xs : List UV} (e1 : m σ h = .ok u h1) (e2 : frzQ u = some xs) : sFor m td b σ h = loopL (turnF td b) xs σ h1 := by
  unfold sFor
  rw [e1]
  show (match frzQ u with
    | some xs => loopL (turnF td b) xs σ h1
    | none => .bad) = _
  rw [e2]
/-- a loop turn by turn, slots and store -/
theorem loop_steps {f : UV → SL → HS → RS'} : ∀ (xs : List UV) (Pv : Nat → SL → HS → Prop) (σ : SL) (h : HS), Pv 0 σ h → (∀ i (hi : i < xs.length) σ h, Pv i σ h → ∃ σ' h', f xs[i] σ h = .nx σ' h' ∧ Pv (i + 1) σ' h') → ∃ σ' h', loopL f xs σ h = .nx σ' h' ∧ Pv xs.length σ' h'
  | [], Pv, σ, h, h0, _ => ⟨σ, h, rfl, h0⟩
  | x :: xs, Pv, σ, h, h0, hs => by
    obtain ⟨σ1, h1, e1, p1⟩ := hs 0 (by simp) σ h h0
    obtain ⟨σ2, h2, e2, p2⟩ := loop_steps xs (fun i => Pv (i + 1)) σ1 h1 p1 fun i hi σ h p => by
      have := hs (i + 1) (by simpa using hi) σ h p
      simpa using this
    exact ⟨σ2, h2, (loopL_nx e1).trans e2, p2⟩
theorem range_steps {f : UV → SL → HS → RS'} (n : Nat) (Pv : Nat → SL → HS → Prop) (σ : SL) (h : HS) (h0 : Pv 0 σ h) (hs : ∀ i, i < n → ∀ σ h, Pv i σ h → ∃ σ' h', f (.d (.int (i : Int))) σ h = .nx σ' h' ∧ Pv (i + 1) σ' h') : ∃ σ' h', loopL f (rangeU 0 n) σ h = .nx σ' h' ∧ Pv n σ' h' := by
  have := loop_steps (f := f) (rangeU 0 n) Pv σ h h0 fun i hi σ h p => by
    rw [rangeU_len] at hi
    have e : (rangeU 0 n)[i]'(by rw [rangeU_len]; exact hi) = .d (.int (i : Int)) := by simp [rangeU]
    rw [e]
    exact hs i hi σ h p
  rw [rangeU_len] at this
  exact this
/-- a comprehension's turns, some left out -/
theorem compL_fm {α : Type} {f : UV → HS → MR (Option UV)} {h : HS} (e : α → UV) (g : α → Option UV) : ∀ {xs : List α}, (∀ x ∈ xs, f (e x) h = .ok (g x) h) → compL f (xs.map e) h = .ok (xs.filterMap g) h
  | [], _ => rfl
  | x :: xs, hx => by
    rw [List.map_cons, compL, hx x List.mem_cons_self, List.filterMap_cons]
    cases q : g x with
    | none =>
      simp only
      exact compL_fm e g fun y hy => hx y (List.mem_cons_of_mem _ hy)
    | some y =>
      simp only
      rw [compL_fm e g fun y hy => hx y (List.mem_cons_of_mem _ hy)]
theorem compE_fm {α : Type} {f : UV → HS → MR (Option UV)} {h : HS} (e : α → UV) (g : α → Option UV) {xs : List α} (hl : xs.length ≤ sizeLine) (hx : ∀ x ∈ xs, f (e x) h = .ok (g x) h) : compE f (xs.map e) h = .ok (.own (xs.filterMap g)) h := by
  unfold compE
  rw [if_pos (by rw [List.length_map]; exact hl), compL_fm e g hx]
  rfl
/-- a comprehension whose turns change the store -/
theorem compL_ex {f : UV → HS → MR (Option UV)} {Pv : HS → Prop} {R : UV → Prop} : ∀ (xs : List UV) (h : HS), Pv h → (∀ x ∈ xs, ∀ h, Pv h → ∃ y h', f x h = .ok (some y) h' ∧ Pv h' ∧ R y) → ∃ ys h', compL f xs h = .ok ys h' ∧ Pv h' ∧ ys.length = xs.length ∧ ∀ y ∈ ys, R y
  | [], h, h0, _ => ⟨[], h, rfl, h0, rfl, fun _ z => nomatch z⟩
  | x :: xs, h, h0, hx => by
    obtain ⟨y, h1, e1, p1, r1⟩ := hx x List.mem_cons_self h h0
    obtain ⟨ys, h2, e2, p2, l2, r2⟩ := compL_ex xs h1 p1 fun z hz => hx z (List.mem_cons_of_mem _ hz)
    refine ⟨y :: ys, h2, ?_, p2, by simp [l2], fun z hz => (List.mem_cons.mp hz).elim (fun e => e ▸ r1) (r2 z)⟩
    rw [compL, e1]
    simp only
    rw [e2]
theorem size1000 : 1000 ≤ sizeLine := by decide
theorem compE_ex {f : UV → HS → MR (Option UV)} {Pv : HS → Prop} {R : UV → Prop} (xs : List UV) (h : HS) (hl : xs.length ≤ sizeLine) (h0 : Pv h) (hx : ∀ x ∈ xs, ∀ h, Pv h → ∃ y h', f x h = .ok (some y) h' ∧ Pv h' ∧ R y) : ∃ ys h', compE f xs h = .ok (.own ys) h' ∧ Pv h' ∧ ys.length = xs.length ∧ ∀ y ∈ ys, R y := by
  obtain ⟨ys, h', e, r⟩ := compL_ex xs h h0 hx
  refine ⟨ys, h', ?_, r⟩
  unfold compE
  rw [if_pos hl, e]
  rfl
theorem ints_of {ys : List UV} {R : Int → Prop} (h : ∀ y ∈ ys, ∃ i : Int, y = .d (.int i) ∧ R i) : ∃ xs : List Int, ys = xs.map (fun i => .d (.int i)) ∧ ∀ i ∈ xs, R i := by
  induction ys with
  | nil => exact ⟨[], rfl, fun _ z => nomatch z⟩
  | cons y ys ih =>
    obtain ⟨i, rfl, r⟩ := h y List.mem_cons_self
    obtain ⟨xs, rfl, r2⟩ := ih fun z hz => h z (List.mem_cons_of_mem _ hz)
    exact ⟨i :: xs, rfl, fun j hj => (List.mem_cons.mp hj).elim (fun e => e ▸ r) (r2 j)⟩
theorem while_end {t : MT} {b : MS} {n : Nat} {σ : SL} {h : HS} (e : t σ h = .ok false h) : whileF t b (n + 1) σ h = .nx σ h := by
  rw [whileF]; show bindT (t σ h) _ _ = _; rw [e]; rfl
theorem while_go {t : MT} {b : MS} {n : Nat} {σ σ1 : SL} {h h1 : HS} (e : t σ h = .ok true h) (e1 : b σ h = .nx σ1 h1) : whileF t b (n + 1) σ h = whileF t b n σ1 h1 := by
  rw [whileF]
  show bindT (t σ h) _ _ = _
  rw [e]
  show (match b σ h with
    | .nx σ' h' => whileF t b n σ' h'
    | .ct σ' h' => whileF t b n σ' h'
    | .bk σ' h' => .nx σ' h'
    | r => r) = _
  rw [e1]
/-! ### sequences -/
theorem item_seq {u : UV} {h : HS} {xs : List DV} (hq : asQ h u = some (xs.map .d)) (i : Nat) (hi : i < xs.length) : itemU h u (.d (.int (i : Int))) = some (.d xs[i]) := by
  unfold itemU
  simp only [uInt_int, hq]
  rw [atI_get _ i (by simpa using hi)]
  simp
theorem item_seqO {u : UV} {h : HS} {xs : List DV} (hq : asQ h u = some (xs.map .d)) (i : Nat) (hi : i < xs.length) : oItem h u (.d (.int (i : Int))) = some (.d xs[i]) := by
  unfold oItem
  rw [item_seq hq i hi]
  rfl
theorem mat_seq (T : ExT) (h : HS) (F : MF) {u : UV} {xs : List DV} {ty : String} (hty : ty = "list" ∨ ty = "tuple") (hn : isNon u = false) (ho : noOwn u = true) (hf : ∀ n, fIsX T h u (.d (.ty n)) = (isTy ty n).map fun b => .d (.bl b)) (fl : fLen h u = some (.d (.int xs.length)))
    (it : ∀ i (hi : i < xs.length), oItem h u (.d (.int (i : Int))) = some (.d xs[i])) (hl : xs.length ≤ 1000) (hF : ∀ x ∈ xs, F [.d x, .d x] h = .ok (.d (.bl true)) h) : fnM 4 (matB T F) [u, u] h = .ok (.d (.bl true)) h := by
  obtain ⟨σ', h', e, o3, rfl, rfl⟩ := range_steps (f := turnF (tdN 3) (sIf (mNot (mTru (mCall F (aCons (mBin oItem (mVar 0) (mVar 3)) (aCons (mBin oItem (mVar 1) (mVar 3)) aNil))))) (sRet (mK (.bl false))) sPass)) xs.length (fun i σ h' => ∃ o3, σ = [some u, some u, none, o3] ∧ h' = h) [some u, some u, none, none] h ⟨_, rfl, rfl⟩ fun i hi σ h' ⟨o3, e1, e2⟩ => by
    subst e1 e2
    refine ⟨[some u, some u, none, some (.d (.int i))], h', ?_, _, rfl, rfl⟩
    simp [turnF, tdN, it _ hi, hF _ (List.getElem_mem hi)]
  have es := sForR_at (lo := mK (.int 0)) (hi := mUn fLen (mVar 1)) (td := tdN 3) (b := sIf (mNot (mTru (mCall F (aCons (mBin oItem (mVar 0) (mVar 3)) (aCons (mBin oItem (mVar 1) (mVar 3)) aNil))))) (sRet (mK (.bl false))) sPass) (σ := [some u, some u, none, none]) (h := h') (h1 := h') (h2 := h') (i := 0) (j := (xs.length : Int)) rfl (by rw [mUn_at, mVar_at]; show bindM (.ok u h') _ = _; rw [bindM_ok, fl]; rfl) (by omega)
  rw [show ((xs.length : Int) - 0).toNat = xs.length from by omega, e] at es
  refine fnM_rt ?_
  unfold matB
  refine (sSeq_nx (σ1 := [some u, some u, none, none]) (h1 := h') (by simp [hn])).trans ?_
  refine (sSeq_nx (σ1 := [some u, some u, none, none]) (h1 := h') (by rcases hty with rfl | rfl <;> simp [hf, isTy])).trans ?_
  refine (sSeq_nx (σ1 := [some u, some u, none, none]) (h1 := h') (by rcases hty with rfl | rfl <;> simp [hf, isTy])).trans ?_
  refine (sSeq_nx (σ1 := [some u, some u, none, none]) (h1 := h') (by rcases hty with rfl | rfl <;> simp [hf, isTy])).trans ?_
  refine (sSeq_nx (σ1 := [some u, some u, none, none]) (h1 := h') (by rcases hty with rfl | rfl <;> simp [hf, isTy])).trans ?_
  refine (sSeq_nx (σ1 := [some u, some u, none, none]) (h1 := h') (by rcases hty with rfl | rfl <;> simp [hf, isTy])).trans ?_
  refine (sSeq_nx (σ1 := [some u, some u, none, none]) (h1 := h') (by rcases hty with rfl | rfl <;> simp [hf, isTy])).trans ?_
  refine (sSeq_nx (σ1 := [some u, some u, none, none]) (h1 := h') (by simp [oEq_int, fl])).trans ?_
  exact (sSeq_nx es).trans rfl
theorem mat_lst (T : ExT) (h : HS) (F : MF) (xs : List DV) (hl : xs.length ≤ 1000) (hF : ∀ x ∈ xs, F [.d x, .d x] h = .ok (.d (.bl true)) h) : fnM 4 (matB T F) [.d (.lst xs), .d (.lst xs)] h = .ok (.d (.bl true)) h :=
  mat_seq T h F (ty := "list") (.inl rfl) rfl rfl (fun n => rfl) (fLen_lst h xs) (fun i hi => item_seqO rfl i hi) hl hF
theorem mat_tup (T : ExT) (h : HS) (F : MF) (xs : List DV) (hl : xs.length ≤ 1000) (hF : ∀ x ∈ xs, F [.d x, .d x] h = .ok (.d (.bl true)) h) : fnM 4 (matB T F) [.d (.tup xs), .d (.tup xs)] h = .ok (.d (.bl true)) h :=
  mat_seq T h F (ty := "tuple") (.inr rfl) rfl rfl (fun n => rfl) (by simp [fLen, lenU, asQ, asT, asL]) (fun i hi => item_seqO rfl i hi) hl hF
/-! ### draws -/
def drawB : MS := (sSeq (sIf (mTst (mBin cGt (mBin oItem (mVar 0) (mK (.int 0))) (mK (.int 0)))) (sSeq (sSet 2 (mBin oMod (mUn fInt (mBin itemU (mVar 0) (mK (.int 0)))) (mVar 1))) (sSeq (sISet (pVar 0) (mK (.int 0)) (mBin oFdiv (mBin oItem (mVar 0) (mK (.int 0))) (mVar 1))) (sMove 2))) sPass) (sSeq (sIAug true (pVar 0) (mK (.int 2)) (fun i j => i + j) (mK (.int 1))) (sSeq (sISet (pVar 0) (mK (.int 1)) (mBin oMod (mUn fInt (mBin oAdd (mBin oMul (mBin oItem (mVar 0) (mK (.int 1))) (mK (.int 48271))) (mBin oMul (mBin oItem (mVar 0) (mK (.int 2))) (mK (.int 69621))))) (mK (.int 2147483647)))) (sRet (mBin oMod (mBin oFdiv (mBin oMod (mUn fInt (mBin oAdd (mBin oMul (mBin oItem (mVar 0) (mK (.int 1))) (mK (.int 16807))) (mBin oMul (mBin oItem (mVar 0) (mK (.int 2))) (mK (.int 7919))))) (mK (.int 2147483629))) (mK (.int 8))) (mVar 1))))))
def drawF : MF := fnM 3 drawB
abbrev c3 (a b c : Int) : Cel := .lst [.d (.int a), .d (.int b), .d (.int c)]
theorem draw1 (k : Nat) (a b c m : Int) (h : HS) (hk : h[k]? = some (c3 a b c)) (ha : 0 < a) (hm : 0 < m ∧ m < 1073741824) : drawF [.ref k, .d (.int m)] h = .ok (.d (.int (a % m))) (h.set k (c3 (a / m) b c)) := by
  have i0 : oItem h (.ref k) (.d (.int 0)) = some (.d (.int a)) := by
    unfold oItem itemU; simp [asQ, asT, asL, hk]; rfl
  have i1 : itemU h (.ref k) (.d (.int 0)) = some (.d (.int a)) := by
    unfold itemU; simp [asQ, asT, asL, hk]; rfl
  have l0 : lstAt (pVar 0) [some (.ref k), some (.d (.int m)), some (.d (.int (a % m)))] h = some (.cell k, [.d (.int a), .d (.int b), .d (.int c)]) := by
    simp [lstAt, pVar, plU, getP, hk, celU]
  have q1 := oMod_int h a m hm.1
  have q2 := oFdiv_int h a m hm.1 (by omega)
  simp [drawF, fnM_at, drawB, i0, i1, ha, q1, q2, sISet, l0]
  simp [ixN, nxP, setP, hk, uCel]
section
variable {k : Nat} {a b c : Int} {h : HS} (hk : h[k]? = some (c3 a b c))
include hk
theorem ci0 : oItem h (.ref k) (.d (.int 0)) = some (.d (.int a)) := by
  unfold oItem itemU; simp [asQ, asT, asL, hk]; rfl
theorem ci1 : oItem h (.ref k) (.d (.int 1)) = some (.d (.int b)) := by
  unfold oItem itemU; simp [asQ, asT, asL, hk]; rfl
theorem ci2 : oItem h (.ref k) (.d (.int 2)) = some (.d (.int c)) := by
  unfold oItem itemU; simp [asQ, asT, asL, hk]; rfl
theorem cset (x : Cel) : (h.set k x)[k]? = some x := by
  have : k < h.length := (List.getElem?_eq_some_iff.mp hk).1
  rw [List.getElem?_set_self this]
end
theorem draw2 (k : Nat) (a b c m : Int) (h : HS) (hk : h[k]? = some (c3 a b c)) (ha : ¬ 0 < a) (hm : 0 < m ∧ m < 1073741824) : ∃ b' r, drawF [.ref k, .d (.int m)] h = .ok (.d (.int (r % m))) (h.set k (c3 a b' (c + 1))) := by
  have cm : ∀ i j : Int, 0 ≤ j → j < 1000000 → CMul i j := fun i j h1 h2 => by
    right
    have e6 : (2 : Int) ^ 64 = 18446744073709551616 := by simp
    rw [e6]; omega
  let h1 := h.set k (c3 a b (c + 1))
  have k1 : h1[k]? = some (c3 a b (c + 1)) := cset hk _
  let b' := (b * 48271 + (c + 1) * 69621) % 2147483647
  let h2 := h1.set k (c3 a b' (c + 1))
  have k2 : h2[k]? = some (c3 a b' (c + 1)) := cset k1 _
  have s2 : h2 = h.set k (c3 a b' (c + 1)) := List.set_set ..
  refine ⟨b', (b' * 16807 + (c + 1) * 7919) % 2147483629 / 8, ?_⟩
  rw [← s2]
  refine fnM_rt ?_
  refine (sSeq_nx (σ1 := [some (.ref k), some (.d (.int m)), none]) (h1 := h) (by simp [ci0 hk, ha])).trans ?_
  refine (sSeq_nx (σ1 := [some (.ref k), some (.d (.int m)), none]) (h1 := h1) (by
    have l0 : lstAt (pVar 0) [some (.ref k), some (.d (.int m)), none] h = some (.cell k, [.d (.int a), .d (.int b), .d (.int c)]) := by
      simp [lstAt, pVar, plU, getP, hk, celU]
    have gp : getP (.cell k) [some (.ref k), some (.d (.int m)), none] h = some (.own [.d (.int a), .d (.int b), .d (.int c)]) := by simp [getP, hk, celU]
    have at2 : atI [UV.d (.int a), UV.d (.int b), UV.d (.int c)] 2 = some (UV.d (.int c)) := rfl
    have ix : ixN 3 2 = some 2 := rfl
    simp [sIAug, l0, at2, gp, ix, nxP, setP, hk, uCel, firm, h1])).trans ?_
  refine (sSeq_nx (σ1 := [some (.ref k), some (.d (.int m)), none]) (h1 := h2) (by
    have l0 : lstAt (pVar 0) [some (.ref k), some (.d (.int m)), none] h1 = some (.cell k, [.d (.int a), .d (.int b), .d (.int (c + 1))]) := by
      simp [lstAt, pVar, plU, getP, k1, celU]
    have ix : ixN 3 1 = some 1 := rfl
    simp [sISet, ci1 k1, ci2 k1, oMul_int _ _ _ (cm _ 48271 (by omega) (by omega)), oMul_int _ _ _ (cm _ 69621 (by omega) (by omega)), oMod_int]
    simp [l0, ix, nxP, setP, k1, uCel, h2, b'])).trans ?_
  simp [ci1 k2, ci2 k2, oMul_int _ _ _ (cm _ 16807 (by omega) (by omega)), oMul_int _ _ _ (cm _ 7919 (by omega) (by omega)), oMod_int, oFdiv_int, hm.1]
theorem draw (k : Nat) (a b c m : Int) (h : HS) (hk : h[k]? = some (c3 a b c)) (hm : 0 < m ∧ m < 1073741824) : ∃ r a' b' c', 0 ≤ r ∧ r < m ∧ drawF [.ref k, .d (.int m)] h = .ok (.d (.int r)) (h.set k (c3 a' b' c')) := by
  by_cases ha : 0 < a
  · exact ⟨a % m, a / m, b, c, Int.emod_nonneg _ (by omega), Int.emod_lt_of_pos _ hm.1, draw1 k a b c m h hk ha hm⟩
  · obtain ⟨b', r, e⟩ := draw2 k a b c m h hk ha hm
    exact ⟨r % m, a, b', c + 1, Int.emod_nonneg _ (by omega), Int.emod_lt_of_pos _ hm.1, e⟩
/-- the store with the cell k in it, the rest fixed -/
def CellIn (h0 : HS) (k : Nat) (h : HS) : Prop := ∃ a b c, h = h0 ++ [c3 a b c] ∧ k = h0.length
theorem drawC {h0 : HS} {k : Nat} {h : HS} (m : Int) (hc : CellIn h0 k h) (hm : 0 < m ∧ m < 1073741824) : ∃ r h', 0 ≤ r ∧ r < m ∧ drawF [.ref k, .d (.int m)] h = .ok (.d (.int r)) h' ∧ CellIn h0 k h' := by
  obtain ⟨a, b, c, rfl, rfl⟩ := hc
  obtain ⟨r, a', b', c', h1, h2, e⟩ := draw h0.length a b c m (h0 ++ [c3 a b c]) (by simp) hm
  refine ⟨r, _, h1, h2, e, a', b', c', ?_, rfl⟩
  rw [List.set_append_right _ _ (Nat.le_refl _)]
  simp
/-! ### stock -/
def stockB : MS := (sSeq (sSet 2 (mIf (mTst (mBin cLt (mVar 1) (mUn fLen (mVar 0)))) (mUn fInt (mBin itemU (mVar 0) (mVar 1))) (mBin oMul (mK (.int 31)) (mUn fSum (mComp (mFz (mSlice (mVar 0) oNo (oYes (mK (.int 4))))) (tdN 3) [3] mYes (mBin oMod (mUn fInt (mVar 3)) (mK (.int 1000003)))))))) (sSeq (sSet 4 (mBin oAdd (mBin oMul (mK (.int 2)) (mUn fAbs (mVar 2))) (mIf (mTst (mBin cLt (mVar 2) (mK (.int 0)))) (mK (.int 1)) (mK (.int 0))))) (sRet (mLst (aCons (mIf (mTst (mBin cGe (mVar 4) (mBin oPow (mK (.int 10)) (mK (.int 18))))) (mVarE 4) (mK (.int 0))) (aCons (mBin oMod (mUn fInt (mBin oAdd (mBin oAdd (mVar 4) (mBin oMul (mVar 1) (mK (.int 104729)))) (mK (.int 12345)))) (mK (.int 2147483629))) (aCons (mVarE 1) aNil)))))))
def stockF : MF := fnM 5 stockB
theorem rol_get (h : HS) (ns : List Int) (i : Nat) (hi : i < ns.length) : itemU h (.d (.rol (ns.map .int))) (.d (.int (i : Int))) = some (.d (.int ns[i])) := by
  unfold itemU
  simp only [uInt_int, asQ, asT, asL]
  rw [atI_get _ i (by simpa using hi)]
  simp
theorem rol_len (h : HS) (ns : List Int) : fLen h (.d (.rol (ns.map .int))) = some (.d (.int ns.length)) := by
  simp [fLen, lenU, asQ, asT, asL]
theorem rol_cut (h : HS) (ns : List Int) : sliceU h (.d (.rol (ns.map .int))) none (some 4) = some (oI (ns.take 4)) := by
  unfold sliceU
  simp only [asL]
  have e : cutL ((ns.map DV.int).map UV.d) none (some 4) = (ns.take 4).map fun i => UV.d (.int i) := by
    unfold cutL
    rw [show (some (4 : Int)) = some ((4 : Nat) : Int) from rfl, HT.sIx_nat, HT.sIx_none, List.drop_zero, Nat.sub_zero, List.map_map, List.map_take, ← List.take_eq_take_min]
    rfl
  rw [e]
  simp
/-- a comprehension of ints out of ints -/
theorem comp_ints {σ : SL} {s : Nat} {me : ME} {h : HS} (g : Int → Int) (xs : List Int) (hl : xs.length ≤ 1000) (hme : ∀ x : Int, me ((wipeU σ [s]).set s (some (.d (.int x)))) h = .ok (.d (.int (g x))) h) : compE (turnC (tdN s) [s] mYes me σ) (xs.map fun i => .d (.int i)) h = .ok (oI (xs.map g)) h := by
  have h1 : 1000 ≤ sizeLine := by decide
  have key : ∀ ys : List Int, compL (turnC (tdN s) [s] mYes me σ) (ys.map fun i => .d (.int i)) h = .ok ((ys.map g).map fun i => .d (.int i)) h := fun ys => by
    induction ys with
    | nil => rfl
    | cons y ys ih =>
      rw [List.map_cons, compL]
      have e : turnC (tdN s) [s] mYes me σ (UV.d (.int y)) h = .ok (some (.d (.int (g y)))) h := by
        simp only [turnC, tdN, mYes]
        rw [hme y]
      rw [e]
      simp only
      rw [ih]
      rfl
  unfold compE
  rw [if_pos (by rw [List.length_map]; omega), key]
  rfl
theorem powN (h : HS) : ∃ N : Int, oPow h (.d (.int 10)) (.d (.int 18)) = some (.d (.int N)) := ⟨10 ^ 18, by kernel_rfl⟩
theorem cmR (i j : Int) (h1 : 0 ≤ i) (h2 : i < 1000000) : CMul i j := by
  left
  have e6 : (2 : Int) ^ 64 = 18446744073709551616 := by simp
  rw [e6]; omega
theorem stock_sum (ns : List Int) (i : Int) (h : HS) : ∃ z : Int, mUn fSum (mComp (mFz (mSlice (mVar 0) oNo (oYes (mK (.int 4))))) (tdN 3) [3] mYes (mBin oMod (mUn fInt (mVar 3)) (mK (.int 1000003)))) [some (.d (.rol (ns.map .int))), some (.d (.int i)), none, none, none] h = .ok (.d (.int z)) h := by
  have ec := comp_ints (σ := [some (.d (.rol (ns.map .int))), some (.d (.int i)), none, none, none]) (s := 3) (me := mBin oMod (mUn fInt (mVar 3)) (mK (.int 1000003))) (h := h) (fun x => x % 1000003) (ns.take 4) (by rw [List.length_take]; omega) fun x => by
    simp [wipeU, oMod_int]
  have fq : frzQ (dI (ns.take 4)) = some ((ns.take 4).map fun i => .d (.int i)) := by
    simp only [frzQ, List.map_map]; rfl
  have e0 : mFz (mSlice (mVar 0) oNo (oYes (mK (.int 4)))) [some (.d (.rol (ns.map .int))), some (.d (.int i)), none, none, none] h = .ok (dI (ns.take 4)) h := by
    simp [rol_cut]
  refine ⟨((ns.take 4).map fun x => x % 1000003).sum, ?_⟩
  rw [mUn_at, mComp_at e0 fq, ec]
  simp
theorem stock_one (ns : List Int) (i : Nat) (h : HS) : ∃ x : Int, sSet 2 (mIf (mTst (mBin cLt (mVar 1) (mUn fLen (mVar 0)))) (mUn fInt (mBin itemU (mVar 0) (mVar 1))) (mBin oMul (mK (.int 31)) (mUn fSum (mComp (mFz (mSlice (mVar 0) oNo (oYes (mK (.int 4))))) (tdN 3) [3] mYes (mBin oMod (mUn fInt (mVar 3)) (mK (.int 1000003))))))) [some (.d (.rol (ns.map .int))), some (.d (.int (i : Int))), none, none, none] h = .nx [some (.d (.rol (ns.map .int))), some (.d (.int (i : Int))), some (.d (.int x)), none, none] h := by
  by_cases q : i < ns.length
  · refine ⟨ns[i], ?_⟩
    have q' : (i : Int) < (ns.length : Int) := by omega
    simp [rol_len, rol_get _ _ _ q, q']
  · have q' : ¬ (i : Int) < (ns.length : Int) := by omega
    obtain ⟨z, ez⟩ := stock_sum ns i h
    refine ⟨31 * z, ?_⟩
    rw [sSet_at, mIf_at]
    have et : mTst (mBin cLt (mVar 1) (mUn fLen (mVar 0))) [some (.d (.rol (ns.map .int))), some (.d (.int (i : Int))), none, none, none] h = .ok false h := by
      simp [rol_len, q']
    rw [et]
    have e2 : mBin oMul (mK (.int 31)) (mUn fSum (mComp (mFz (mSlice (mVar 0) oNo (oYes (mK (.int 4))))) (tdN 3) [3] mYes (mBin oMod (mUn fInt (mVar 3)) (mK (.int 1000003))))) [some (.d (.rol (ns.map .int))), some (.d (.int (i : Int))), none, none, none] h = ofO (oMul h (.d (.int 31)) (.d (.int z))) h := by
      rw [mBin_at, mK_at]; show bindM (mUn fSum _ _ h) _ = _; rw [ez]; rfl
    show bindS (mBin oMul (mK (.int 31)) (mUn fSum (mComp (mFz (mSlice (mVar 0) oNo (oYes (mK (.int 4))))) (tdN 3) [3] mYes (mBin oMod (mUn fInt (mVar 3)) (mK (.int 1000003))))) [some (.d (.rol (ns.map .int))), some (.d (.int (i : Int))), none, none, none] h) _ _ = _
    rw [e2, oMul_int _ _ _ (cmR 31 z (by omega) (by omega))]
    rfl
theorem stock_sz (ns : List Int) (i : Nat) (x : Int) (h : HS) : ∃ sz : Int, sSet 4 (mBin oAdd (mBin oMul (mK (.int 2)) (mUn fAbs (mVar 2))) (mIf (mTst (mBin cLt (mVar 2) (mK (.int 0)))) (mK (.int 1)) (mK (.int 0)))) [some (.d (.rol (ns.map .int))), some (.d (.int (i : Int))), some (.d (.int x)), none, none] h = .nx [some (.d (.rol (ns.map .int))), some (.d (.int (i : Int))), some (.d (.int x)), none, some (.d (.int sz))] h := by
  by_cases q : x < 0
  · exact ⟨2 * (-x) + 1, by simp [oMul_int _ _ _ (cmR 2 _ (by omega) (by omega)), q]⟩
  · exact ⟨2 * x + 0, by simp [oMul_int _ _ _ (cmR 2 _ (by omega) (by omega)), q]⟩
theorem stock_ret' (σ0 : Option UV) (i x sz N P Q R A B : Int) (hR : 0 < R) (hP : CMul i P) (h : HS) (hN : oPow h (.d (.int A)) (.d (.int B)) = some (.d (.int N))) : ∃ a b : Int, sRet (mLst (aCons (mIf (mTst (mBin cGe (mVar 4) (mBin oPow (mK (.int A)) (mK (.int B))))) (mVarE 4) (mK (.int 0))) (aCons (mBin oMod (mUn fInt (mBin oAdd (mBin oAdd (mVar 4) (mBin oMul (mVar 1) (mK (.int P)))) (mK (.int Q)))) (mK (.int R))) (aCons (mVarE 1) aNil)))) [σ0, some (.d (.int i)), some (.d (.int x)), none, some (.d (.int sz))] h = .rt (.own [.d (.int a), .d (.int b), .d (.int i)]) h := by
  refine ⟨if N ≤ sz then sz else 0, (sz + i * P + Q) % R, ?_⟩
  by_cases q : N ≤ sz <;> simp [hN, q, oMul_int _ _ _ hP, oMod_int _ _ _ hR]
theorem stock_ret (σ0 : Option UV) (i : Nat) (hi : i < 1000) (x sz N : Int) (h : HS) (hN : oPow h (.d (.int 10)) (.d (.int 18)) = some (.d (.int N))) : ∃ a b : Int, sRet (mLst (aCons (mIf (mTst (mBin cGe (mVar 4) (mBin oPow (mK (.int 10)) (mK (.int 18))))) (mVarE 4) (mK (.int 0))) (aCons (mBin oMod (mUn fInt (mBin oAdd (mBin oAdd (mVar 4) (mBin oMul (mVar 1) (mK (.int 104729)))) (mK (.int 12345)))) (mK (.int 2147483629))) (aCons (mVarE 1) aNil)))) [σ0, some (.d (.int (i : Int))), some (.d (.int x)), none, some (.d (.int sz))] h = .rt (.own [.d (.int a), .d (.int b), .d (.int i)]) h :=
  stock_ret' σ0 i x sz N 104729 12345 2147483629 10 18 (by omega) (cmR _ _ (by omega) (by omega)) h hN
theorem stock (ns : List Int) (i : Nat) (hi : i < 1000) (h : HS) : ∃ a b : Int, stockF [.d (.rol (ns.map .int)), .d (.int (i : Int))] h = .ok (.own [.d (.int a), .d (.int b), .d (.int i)]) h := by
  obtain ⟨x, ex⟩ := stock_one ns i h
  obtain ⟨sz, hsz⟩ := stock_sz ns i x h
  obtain ⟨N, hN⟩ := powN h
  obtain ⟨a, b, er⟩ := stock_ret (some (.d (.rol (ns.map .int)))) i hi x sz N h hN
  exact ⟨a, b, fnM_rt ((sSeq_nx ex).trans ((sSeq_nx hsz).trans er))⟩
end MM

/-! MM30: own classes: a field read, a method called, an instance made. -/
namespace MM
open PySem PySem.Spec PyProof.Rows L2
/-! ### a field read -/
def AtOk (c : Cg) (AT : List (Str × Str)) : Prop := ∀ p ∈ AT, ∃ Ca, c.mg p.1 = some (.ref Ca) ∧ L2.Cls c.K Ca ∧ NoAttr c.K Ca p.2
def fFld (AT : List (Str × Str)) (f : Str) : HS → UV → Option UV := fun _ u => match u with
  | .d (.ins C fs) => if AT.contains (C, f) then (fs.lookup f).map .d else none
  | _ => none
theorem RDf.lookN {c : Cg} {Z : Addr → Prop} {H : Hp} {f : Str} : ∀ {fs : List (Str × DV)} {gs : List (Str × V)}, RDf c Z H fs gs → fs.lookup f = none → gs.lookup f = none
  | [], _, h, _ => by rw [show _ = [] from h]; rfl
  | (k, x) :: fs, _, ⟨v, r, e, h, t⟩, q => by
    subst e
    unfold List.lookup at q ⊢
    cases e2 : (f == k) with
    | true => rw [e2] at q; cases q
    | false =>
      rw [e2] at q
      simp only at q ⊢
      exact RDf.lookN t q
section
variable {c : Cg} {P : Program} {w : World} {base : Heap} {N : List Str} {sc : Scope} {k : Nat} {X : Cx} {W : WX} {pu : Bool} {m mo : ME} {ms : MAs} {a b e o : Expr} {es : List Expr} {p pos apos : Pos} {AT : List (Str × Str)} {f : Str}
theorem fFld_ok (A : AtOk c AT) : UnS c (fun x H Q => ∃ a C dx fs v, x = .ref a ∧ H a = some (.ins C dx fs) ∧ L2.Cls c.K C ∧ NoAttr c.K C f ∧ fs.lookup f = some v ∧ Q v H) (fFld AT f) := UnS.data fun w H h u x Fx z Q ok hh ru e q => by
  unfold fFld at e
  split at e
  · rename_i C fs
    split at e
    · rename_i hc
      rw [Option.map_eq_some_iff] at e
      obtain ⟨d, e1, rfl⟩ := e
      obtain ⟨_, a, dx, Ca, gs, rfl, hm, hz, hH, r⟩ := ru
      obtain ⟨v, e2, rd⟩ := RDf.look r e1
      obtain ⟨Ca', m1, cl, na⟩ := A (C, f) (by simpa using hc)
      rw [hm] at m1
      cases m1
      exact ⟨⟨d, rfl⟩, a, Ca, dx, gs, v, rfl, hH, cl, na, e2, q d v rfl rd⟩
    · cases e
  · cases e
theorem g_fld (C : Cc c P w base N sc k X W) (A : AtOk c AT) (he : PE X e (tV pu .C c W m)) (hb : attributeBase e f X.env (eval e X.env) = eval e X.env := by rfl) : PE X (.Attribute e f pos) (tV pu .E c W (mUn (fFld AT f) m)) :=
  PE.imp (pe_fld he hb) fun σ H Q h => by
    have := un_ok (fFld_ok A) h
    rw [C.eK] at this
    exact this
/-! ### a method called -/
def insOf (nm m : Str) : UV → Bool
  | .d (.ins C fs) => C == nm && (fs.lookup m).isNone
  | _ => false
def mMeth (nm x : Str) (F : MF) (mo : ME) (ms : MAs) : ME := fun σ h => bindM (mo σ h) fun u h1 => if insOf nm x u = true then bindM (ms σ h1) fun us h2 => if us.all noOwn = true then F (u :: us) h2 else .bad else .bad
/-- a method that is known by its function -/
def Gm (c : Cg) (P : Program) (w : World) (base : Heap) (k : Nat) (nm x : Str) (n : Nat) (F : MF) : Prop :=
  ∃ Ca fa fd ps, c.mg nm = some (.ref Ca) ∧ L2.Cls c.K Ca ∧ L2.Meth c.K Ca x fa ∧ FnOk P w c.K c.mg base (L2.CX P w) k fa fd ps (spM c (n + 1) F) ∧ Binds c.K fd ps []
theorem Gm.mono {j k : Nat} {nm x : Str} {n : Nat} {F : MF} (g : Gm c P w base j nm x n F) (h : j ≤ k) : Gm c P w base k nm x n F :=
  let ⟨Ca, fa, fd, ps, a, b, d, F, e⟩ := g; ⟨Ca, fa, fd, ps, a, b, d, F.mono h, e⟩
def tMethSD (C : Addr) (x : Str) (sp : Sp) (E : L2.St → XK) (ta : TE) (t : TA) : TE := fun σ H Q => ta σ H fun v H1 => ∃ a dx fs, v = .ref a ∧ H1 a = some (.ins C dx fs) ∧ fs.lookup x = none ∧ t σ H1 fun vs H2 => sp (v :: vs) H2 Q (E σ)
theorem pe_methSD {CX : CXT} {C fa : Addr} {fd : FuncData} {ps : List Str} {sp : Sp} {E : L2.St → XK} {x : Str} {ta : TE} {t : TA} {pl : Sem Bool} (he : PE X o ta) (c : L2.Cls X.K C) (hm : L2.Meth X.K C x fa) (F : FnOk X.prog X.w X.K X.mg X.base CX k fa fd ps sp) (hr : Room k X.A) (hb : Binds X.K fd ps []) (hx : ∀ σ, PassesAt CX X σ (E σ)) (ha : PA X (e :: es) t)
    (hst : starEach (e :: es) X.env = (false, eval e X.env) :: starEach es X.env := by rfl) (hpl : (backTo pos (starEach es X.env)).any (·.1) = false := by rfl)
    (ht : eval (.Call (.Attribute o x apos) (e :: es) [] pos) X.env = (do
      let ov ← eval o X.env
      standAt apos.atName
      let (f, first) ← holding [ov] (getMethod ov x pl)
      callWith pos f first (backTo pos (starEach (e :: es) X.env)) (backToKw pos (keywordEach [] X.env))) := by rfl) :
    PE X (.Call (.Attribute o x apos) (e :: es) [] pos) (tMethSD C x sp E ta t) := by
  refine ⟨fun pins s σ H Q I h => ?_⟩
  refine PySem.W.methodCall_KW (pl := pl) (thn (he.run pins s σ H _ I h) fun u s1 ⟨x, H1, I1, rx, a, dx, fs, ex, ea, l, q⟩ => ?_) ht
  subst ex
  obtain rfl : u = Value.ref a := rx
  refine getmeth_ok I1 ea c hm l ?_
  refine PySem.W.callWith_K (first := [.ref a]) (h₀ := X.base) I.ok.mod.kin hm.kp (thn (ha.run pos pins s1 σ H1 _ I1 q) fun us s2 ⟨vs, H2, I2, r, q2⟩ => ⟨I2.kIn, ?_⟩) hst hpl
  exact run_fnSD (us := .ref a :: us) (vs := .ref a :: vs) (dvs := []) F hr hb .nil (hx σ) I2 (.cons rfl r) (by rw [List.append_nil]; exact q2)
theorem pe_methSD0 {CX : CXT} {C fa : Addr} {fd : FuncData} {ps : List Str} {sp : Sp} {E : L2.St → XK} {x : Str} {ta : TE} {pl : Sem Bool} (he : PE X o ta) (c : L2.Cls X.K C) (hm : L2.Meth X.K C x fa) (F : FnOk X.prog X.w X.K X.mg X.base CX k fa fd ps sp) (hr : Room k X.A) (hb : Binds X.K fd ps []) (hx : ∀ σ, PassesAt CX X σ (E σ))
    (ht : eval (.Call (.Attribute o x apos) [] [] pos) X.env = (do
      let ov ← eval o X.env
      standAt apos.atName
      let (f, first) ← holding [ov] (getMethod ov x pl)
      callWith pos f first (backTo pos (starEach [] X.env)) (backToKw pos (keywordEach [] X.env))) := by rfl) :
    PE X (.Call (.Attribute o x apos) [] [] pos) (tMethSD C x sp E ta tNil) := by
  refine ⟨fun pins s σ H Q I h => ?_⟩
  refine PySem.W.methodCall_KW (pl := pl) (thn (he.run pins s σ H _ I h) fun u s1 ⟨x, H1, I1, rx, a, dx, fs, ex, ea, l, q⟩ => ?_) ht
  subst ex
  obtain rfl : u = Value.ref a := rx
  refine getmeth_ok I1 ea c hm l ?_
  exact PySem.W.callWith_K0 (first := [.ref a]) I1.kIn hm.kp (run_fnSD (us := [.ref a]) (vs := [.ref a]) (dvs := []) F hr hb .nil (hx σ) I1 (.cons rfl .nil) q)
theorem meth_args {t : TA} (tt : ∀ σ H R, tAs false c W ms σ H R → t σ H R) {σ : L2.St} {H : Hp} {Q : VK} {nm x : Str} {Ca : Addr} {n : Nat} {F : MF} (hm : c.mg nm = some (.ref Ca)) (hn : ArgN ms n) (h : tV false .E c W (mMeth nm x F mo ms) σ H Q) : tMethSD Ca x (spM c (n + 1) F) (WE W) (tV false .E c W mo) t σ H Q := by
  obtain ⟨w, Fs, σd, hd, S, p⟩ := h
  unfold mMeth at p
  refine step1 (md := .E) S p fun u h1 w1 H1 v Fx S1 mo1 ru p1 => ?_
  by_cases hi : insOf nm x u = true
  · rw [if_pos hi] at p1
    unfold insOf at hi
    split at hi
    · rename_i C fs
      simp only [Bool.and_eq_true, beq_iff_eq, Option.isNone_iff_eq_none] at hi
      obtain ⟨rfl, hl⟩ := hi
      have ru0 := ru
      obtain ⟨_, a, dx, Ca', gs, rfl, hm', hz, hH, r⟩ := ru
      rw [hm] at hm'
      cases hm'
      refine ⟨a, dx, gs, rfl, hH, RDf.lookN r hl, tt _ _ _ ⟨w1, Fs, σd, h1, S1, ?_⟩⟩
      have hn' := hn σd h1
      revert p1 hn'
      cases ms σd h1 with
      | err x h' => exact fun p _ => p
      | bad => exact fun p _ => p
      | ok us h2 =>
        intro p1 hn' w2 H2 vs Fv mo2 pp rh2 ru2
        simp only [bindM_ok] at p1
        by_cases hno : us.all noOwn = true
        · rw [if_pos hno] at p1
          have eF := noOwn_all hno ru2
          subst eF
          have e2 := mo2.ext.1
          refine ⟨by rw [List.length_cons, ru2.length, hn' us h2 rfl], w2, .d (.ins C fs) :: us, h2, mo2.ext.2, rh2, ⟨_, vs, [], [], rfl, rfl, ⟨rfl, RD.mono e2.z (frozen_kept S1.wok e2) ru0.2⟩, ru2⟩, CPo.of (EPo.shift e2 mo2.ext.2 .no p1)⟩
        · rw [if_neg hno] at p1; exact p1.elim
    · cases hi
  · rw [if_neg hi] at p1; exact p1.elim
theorem g_meth (C : Cc c P w base N sc k X W) {nm x : Str} {n : Nat} {F : MF} {pl : Sem Bool} (G : Gm c P w base k nm x n F) (ho : PE X o (tV false .E c W mo)) (ha : PA X (e :: es) (tAs false c W ms)) (hn : ArgN ms n)
    (hst : starEach (e :: es) X.env = (false, eval e X.env) :: starEach es X.env := by rfl) (hpl : (backTo pos (starEach es X.env)).any (·.1) = false := by rfl)
    (ht : eval (.Call (.Attribute o x apos) (e :: es) [] pos) X.env = (do
      let ov ← eval o X.env
      standAt apos.atName
      let (f, first) ← holding [ov] (getMethod ov x pl)
      callWith pos f first (backTo pos (starEach (e :: es) X.env)) (backToKw pos (keywordEach [] X.env))) := by rfl) : PE X (.Call (.Attribute o x apos) (e :: es) [] pos) (tV false .E c W (mMeth nm x F mo ms)) := by
  obtain ⟨Ca, fa, fd, ps, m1, cl, mt, F1, b1⟩ := G
  exact PE.imp (pe_methSD (E := WE W) ho (by rw [← C.eK]; exact cl) (by rw [← C.eK]; exact mt) (C.fn F1) C.room (by rw [← C.eK]; exact b1) (fun σ => passAt C.tk σ) ha hst hpl ht) fun σ H Q h => meth_args (fun _ _ _ z => z) m1 hn h
theorem g_meth0 (C : Cc c P w base N sc k X W) {nm x : Str} {F : MF} {pl : Sem Bool} (G : Gm c P w base k nm x 0 F) (ho : PE X o (tV false .E c W mo))
    (ht : eval (.Call (.Attribute o x apos) [] [] pos) X.env = (do
      let ov ← eval o X.env
      standAt apos.atName
      let (f, first) ← holding [ov] (getMethod ov x pl)
      callWith pos f first (backTo pos (starEach [] X.env)) (backToKw pos (keywordEach [] X.env))) := by rfl) : PE X (.Call (.Attribute o x apos) [] [] pos) (tV false .E c W (mMeth nm x F mo aNil)) := by
  obtain ⟨Ca, fa, fd, ps, m1, cl, mt, F1, b1⟩ := G
  refine PE.imp (pe_methSD0 (E := WE W) ho (by rw [← C.eK]; exact cl) (by rw [← C.eK]; exact mt) (C.fn F1) C.room (by rw [← C.eK]; exact b1) (fun σ => passAt C.tk σ) ht) fun σ H Q h => meth_args (fun σ H R ⟨w, Fs, σd, hd, S, p⟩ => p w H [] [] (.same S.wok) .refl S.h ⟨rfl, rfl⟩) m1 argN_nil h
/-- a method's promise by its body's derivation -/
theorem gm_of {nm x : Str} {qual : Str} {st : Stmt} {Ca fa : Addr} {fd : FuncData} {ps N' : List Str} {n nN : Nat} {b : MS} (m : c.mg nm = some (.ref Ca)) (cl : L2.Cls c.K Ca) (mt : L2.Meth c.K Ca x fa) (F : Fun c.K x qual st fa fd) (S : FnScope N' ps (defScope st)) (hbd : Binds c.K fd ps []) (hn : ps.length = n + 1) (hN : N'.length = nN)
    (hb : ∀ (X : Cx) (W : WX), Cc c P w base N' (defScope st) k X W → (∀ y, X.fn y = true) → X.stack = X.env :: X.outer → X.env.frame = some X.env.locals → PSs X (defBody st) (tS c W b)) : Gm c P w base (k + 1) nm x n (fnM nN b) :=
  ⟨Ca, fa, fd, ps, m, cl, mt, F.okX S (spM_len hn) fun cdv A outer s H vs Q E hr h => ⟨_, hb _ _ ⟨rfl, rfl, rfl, rfl, rfl, rfl, rfl, rfl, hr, takes_of rfl rfl rfl rfl, passes_of rfl, S.kind, S.nd⟩ (fun _ => rfl) rfl rfl, body_ok N' hN h⟩, hbd⟩
/-! ### an instance made -/
def toDf : List (Str × UV) → Option (List (Str × DV))
  | [] => some []
  | (f, x) :: fs => match toD x, toDf fs with
    | some y, some ys => some ((f, y) :: ys)
    | _, _ => none
theorem toDf_ok {Z Z' : Addr → Prop} {H : Hp} {ρ : List Addr} (hz : ∀ a, Z a → Z' a) : ∀ {fs : List (Str × UV)} {gs : List (Str × V)} {F : List Addr} {ds : List (Str × DV)}, (∀ a ∈ F, Z' a) → RUf c Z H ρ fs gs F → toDf fs = some ds → RDf c Z' H ds gs
  | [], _, _, _, _, h, e => by cases e; exact h.1
  | (f, x) :: fs, _, _, _, hF, ⟨v, r, F1, F2, e, eF, h, t⟩, q => by
    unfold toDf at q
    split at q
    · rename_i y ys e1 e2
      cases q
      subst e eF
      exact ⟨v, r, rfl, toD_ok hz (fun a ha => hF a (List.mem_append_left _ ha)) h e1, toDf_ok hz (fun a ha => hF a (List.mem_append_right _ ha)) t e2⟩
    · cases q
def newR (nm : Str) (n : Nat) : MR UV → MR UV
  | .ok (.d .non) h => match h[n]? with
    | some (.obj C fs) => if C = nm ∧ (h.take n).all (celLt n) = true then match toDf fs with
      | some ds => .ok (.d (.ins nm ds)) (h.take n)
      | none => .bad else .bad
    | _ => .bad
  | .err e h => if (h.take n).all (celLt n) = true then .err e (h.take n) else .bad
  | _ => .bad
def mNew (nm : Str) (F : MF) (ms : MAs) : ME := fun σ h => bindM (ms σ h) fun us h1 => if us.all noOwn = true then newR nm h1.length (F (.ref h1.length :: us) (h1 ++ [.obj nm []])) else .bad
/-- the cell n and those below it -/
theorem RHl.splitAt {Z : Addr → Prop} {H : Hp} {ρ : List Addr} : ∀ {h : HS} {l : List Addr} {F : List Addr} {n : Nat} {x : Cel}, RHl c Z H ρ h l F → h[n]? = some x → ∃ F1 a Fx F2, F = F1 ++ (Fx ++ F2) ∧ RHl c Z H ρ (h.take n) (l.take n) F1 ∧ l[n]? = some a ∧ RC c Z H ρ x a Fx
  | [], _, _, n, x, _, q => by simp at q
  | y :: h, _, _, 0, x, ⟨a, r, F1, F2, e, eF, hx, t⟩, q => by
    have q' : y = x := by simpa using q
    subst q' e eF
    exact ⟨[], a, F1, F2, rfl, ⟨rfl, rfl⟩, rfl, hx⟩
  | y :: h, _, _, n + 1, x, ⟨a, r, F1, F2, e, eF, hx, t⟩, q => by
    subst e eF
    obtain ⟨G1, b, Gx, G2, e1, r1, e2, rc⟩ := RHl.splitAt t (by simpa using q)
    subst e1
    exact ⟨F1 ++ G1, b, Gx, G2, by rw [List.append_assoc], ⟨a, r.take n, F1, G1, rfl, rfl, hx, r1⟩, by simpa using e2, rc⟩
def tMakeSD (C : Addr) (sp : Sp) (E : L2.St → XK) (t : TA) : TE := fun σ H Q => t σ H fun vs H1 => ∀ x dx, H1 x = none → H1 dx = none → dx ≠ x → sp (.ref x :: vs) (upd (upd H1 dx (.own x)) x (.ins C dx [])) (fun v H2 => v = .non ∧ Q (.ref x) H2) (E σ)
theorem run_makeSD {CX : CXT} {C fa : Addr} {fd : FuncData} {ps : List Str} {sp : Sp} {E : XK} {pins : List (Addr × Obj)} {σ : L2.St} {H : Hp} {s : Shared} {Q : VK} {us : List Value} {vs : List V} (M : Mk X.K C fa) (F : FnOk X.prog X.w X.K X.mg X.base CX k fa fd ps sp) (hr : Room (k + 1) X.A) (hb : Binds X.K fd ps [])
    (hx : PassesAt CX X σ E) (I : Inv X pins σ H s) (r : Vals vs us)
    (h : ∀ x dx, H x = none → H dx = none → dx ≠ x → sp (.ref x :: vs) (upd (upd H dx (.own x)) x (.ins C dx [])) (fun v H2 => v = .non ∧ Q (.ref x) H2) E) :
    wpAny (model X.prog X.w) X.A (call (.ref C) us) (EP X pins σ Q) X.xe s := by
  have hq := h (s.heap.objs.size + 1) s.heap.objs.size (I.hok.fresh (Nat.le_succ _)) (I.hok.fresh (Nat.le_refl _)) (Nat.ne_of_lt (Nat.lt_succ_self _))
  have I2 := Inv.made (C := C) I
  have r2 : Vals (V.ref (s.heap.objs.size + 1) :: vs) (Value.ref (s.heap.objs.size + 1) :: us) := .cons rfl r
  have hl : (Value.ref (s.heap.objs.size + 1) :: us ++ []).length = ps.length := by
    have e := r2.length
    rw [F.len _ _ _ _ hq] at e
    rw [List.append_nil]
    exact e.symm
  have hb2 := hb (s := _) (Value.ref (s.heap.objs.size + 1) :: us) I2.kIn hl
  rw [List.append_nil] at hb2
  refine wpAny_call (make_map (f := fa) I.kIn M.makes M.init (beq_iff_eq.mp M.fn) (codeAny_mono (F.run _ X.stack _ _ ⟨Value.ref (s.heap.objs.size + 1) :: us, []⟩ (Value.ref (s.heap.objs.size + 1) :: us) _ _ E (hr.make C us [])
    (I2.env0.make C us []) hb2 r2 hq) fun r s' hq' => ?_))
  cases r with
  | error e => exact hx pins _ _ e s' I2 hq'
  | ok fl =>
    cases fl with
    | ret u =>
      obtain ⟨v, H', I3, rv, ev, q3⟩ := I2.after hq'
      subst ev
      exact ⟨rv, ⟨V.ref (s.heap.objs.size + 1), H', I3, rfl, q3⟩⟩
    | next => exact False.elim hq'
    | brk => exact False.elim hq'
    | cont => exact False.elim hq'
theorem pe_makeSD {CX : CXT} {C fa : Addr} {fd : FuncData} {ps : List Str} {sp : Sp} {E : L2.St → XK} {x : Str} {t : TA} (M : Mk X.K C fa) (F : FnOk X.prog X.w X.K X.mg X.base CX k fa fd ps sp) (hr : Room (k + 1) X.A) (hg : Gl X x) (hm : X.mg x = some (.ref C)) (hb : Binds X.K fd ps []) (hx : ∀ σ, PassesAt CX X σ (E σ))
    (ha : PA X (e :: es) t) (hdb : (x == ("__debug__" : Str)) = false := by decide) (he : starEach (e :: es) X.env = (false, eval e X.env) :: starEach es X.env := by rfl) (hpl : (backTo pos (starEach es X.env)).any (·.1) = false := by rfl) :
    PE X (.Call (.Name x p) (e :: es) [] pos) (tMakeSD C sp E t) := by
  refine ⟨fun pins s σ H Q I h => ?_⟩
  refine wpAny_Call_Name_kw (ld_glob I hg hm ?_ hdb)
  refine PySem.W.callWith_K (h₀ := X.base) I.ok.mod.kin M.kp (thn (ha.run pos pins s σ H _ I h) fun us s1 ⟨vs, H1, I1, r, q⟩ => ⟨I1.kIn, ?_⟩) he hpl
  exact run_makeSD M F hr hb (hx σ) I1 r q
end
end MM

/-! MM31: an instance made; self.f = e. -/
namespace MM
open PySem PySem.Spec PyProof.Rows L2
section
variable {c : Cg} {P : Program} {w : World} {base : Heap} {N : List Str} {sc : Scope} {k : Nat} {X : Cx} {W : WX} {pu : Bool} {m mo : ME} {ms : MAs} {a b e o : Expr} {es : List Expr} {p pos apos : Pos} {AT : List (Str × Str)} {f : Str}
/-- the world with the new instance in it -/
theorem made_world {w : Wd} {H : Hp} {h : HS} {nm : Str} {Ca x dx : Addr} (hm : c.mg nm = some (.ref Ca)) (ok : WOk w H) (rh : RH c w.Z H w.ρ h w.F) (hx : H x = none) (hd : H dx = none) (ne : dx ≠ x) :
    WOk ⟨w.ρ ++ [x], w.Z, w.F ++ [x]⟩ (upd (upd H dx (.own x)) x (.ins Ca dx [])) ∧ RH c w.Z (upd (upd H dx (.own x)) x (.ins Ca dx [])) (w.ρ ++ [x]) (h ++ [.obj nm []]) (w.F ++ [x]) ∧ (∀ a o, H a = some o → upd (upd H dx (.own x)) x (.ins Ca dx []) a = some o) := by
  have kp : ∀ a o, H a = some o → upd (upd H dx (.own x)) x (.ins Ca dx []) a = some o := fun a o q => by
    rw [upd_ne (ne_of_none q hx), upd_ne (ne_of_none q hd)]; exact q
  have th : ∀ a, H a ≠ none → upd (upd H dx (.own x)) x (.ins Ca dx []) a ≠ none := fun a n => by
    cases q : H a with
    | none => exact absurd q n
    | some o => rw [kp a o q]; exact fun z => nomatch z
  have xF : x ∉ w.F := fun z => ok.trF x z hx
  refine ⟨⟨?_, fun a ha z => ?_, fun a ha => ?_, fun a z => th a (ok.trZ a z)⟩, ?_, kp⟩
  · refine List.nodup_append.mpr ⟨ok.nd, by simp, fun a ha b hb => ?_⟩
    rw [List.mem_singleton.mp hb]
    rintro rfl
    exact xF ha
  · rcases List.mem_append.mp ha with ha | ha
    · exact ok.sep a ha z
    · rw [List.mem_singleton.mp ha] at z
      exact ok.trZ x z hx
  · rcases List.mem_append.mp ha with ha | ha
    · exact th a (ok.trF a ha)
    · rw [List.mem_singleton.mp ha, upd_same]
      exact fun z => nomatch z
  · have r1 : RHl c w.Z (upd (upd H dx (.own x)) x (.ins Ca dx [])) (w.ρ ++ [x]) h w.ρ w.F := RHl.mono (pre_get _ _) (fun _ z => z) (fun a o _ q => kp a o q) (fun a _ o q => kp a o q) rh
    exact RHl.snoc (x := .obj nm []) (a := x) (Fx := [x]) ⟨Ca, dx, [], [], hm, upd_same, rfl, ⟨rfl, rfl⟩⟩ r1
theorem new_post {w : Wd} {H : Hp} {h : HS} {nm : Str} {Ca x dx : Addr} {σ : L2.St} {Q : VK} (hm : c.mg nm = some (.ref Ca)) (ok : WOk w H) (rh : RH c w.Z H w.ρ h w.F) (hx : H x = none) (hd : H dx = none) (ne : dx ≠ x) {r : MR UV} (p : EPo false .E c W σ w H Q (newR nm h.length r)) :
    CPo c ⟨w.ρ ++ [x], w.Z, w.F ++ [x]⟩ (upd (upd H dx (.own x)) x (.ins Ca dx [])) (fun v H2 => v = .non ∧ Q (.ref x) H2) (WE W σ) r := by
  obtain ⟨ok2, rh2, kp⟩ := made_world hm ok rh hx hd ne
  have lρ : w.ρ.length = h.length := RHl.length rh
  cases r with
  | bad => exact p.elim
  | err e h2 =>
    intro w' H' cls dxe e' ok' rh' rx
    unfold newR at p
    simp only at p
    by_cases hq : (h2.take h.length).all (celLt h.length) = true
    · rw [if_pos hq] at p
      obtain ⟨F', s, rc⟩ := RHl.cut h.length hq rh'
      have o1 := ok'.less s
      refine p ⟨w'.ρ.take h.length, w'.Z, F'⟩ H' cls dxe ⟨fun i b q => ?_, e'.z, fun b o q n => e'.keep b o (kp b o q) fun z => ?_, fun b q => ?_, fun b n => e'.there b ?_⟩ ⟨o1.nd, o1.sep, o1.trF, o1.trZ⟩ rc rx
      · have hi := (List.getElem?_eq_some_iff.mp q).1
        show (w'.ρ.take h.length)[i]? = some b
        rw [List.getElem?_take_of_lt (by omega)]
        exact e'.rho i b (by show (w.ρ ++ [x])[i]? = _; rw [List.getElem?_append_left hi]; exact q)
      · rcases List.mem_append.mp z with z | z
        · exact n z
        · rw [List.mem_singleton.mp z, hx] at q; cases q
      · rcases e'.new b (q.elim .inl fun z => .inr (s.subset z)) with z | z | z
        · exact .inl z
        · rcases List.mem_append.mp z with z | z
          · exact .inr (.inl z)
          · rw [List.mem_singleton.mp z]; exact .inr (.inr hx)
        · refine .inr (.inr ?_)
          cases q2 : H b with
          | none => rfl
          | some o => rw [kp b o q2] at z; cases z
      · cases q2 : H b with
        | none => exact absurd q2 n
        | some o => rw [kp b o q2]; exact fun z => nomatch z
    · rw [if_neg hq] at p; exact p.elim
  | ok u h2 =>
    intro w' H' v Fv mo rh' ru
    unfold newR at p
    split at p
    · rename_i h2' eq
      cases eq
      split at p
      · rename_i C fs hn
        split at p
        · rename_i hq
          obtain ⟨rfl, hq⟩ := hq
          split at p
          · rename_i ds ed
            obtain ⟨F1, ax, Fx, F2, eF, r1, e2, rc⟩ := RHl.splitAt rh' hn
            have eax : ax = x := by
              have := mo.1.rho h.length x (by show (w.ρ ++ [x])[h.length]? = _; rw [List.getElem?_append_right (by omega), lρ, Nat.sub_self]; rfl)
              show ax = x
              have e3 : w'.ρ[h.length]? = some x := this
              rw [e2] at e3
              exact Option.some.inj e3
            subst eax
            obtain ⟨Ca', dx', gs, G, m', hH, eG, rf⟩ := rc
            obtain ⟨F', s, rc2⟩ := RHl.cut h.length (by rw [List.take_take, Nat.min_self]; exact hq) r1
            rw [List.take_take, Nat.min_self, List.take_take, Nat.min_self] at rc2
            have ev : Fv = [] := ru.1
            subst ev
            have okE : WOk ⟨w'.ρ, w'.Z, w'.F⟩ H' := by have := mo.2; rw [List.append_nil] at this; exact this
            have nd0 : (F1 ++ (Fx ++ F2)).Nodup := by rw [← eF]; exact okE.nd
            have inF : ∀ b, b ∈ F1 ++ (Fx ++ F2) → b ∈ w'.F := fun b hb => by rw [eF]; exact hb
            refine ⟨ru.2, p ⟨w'.ρ.take h.length, fun b => w'.Z b ∨ b ∈ Fx, F'⟩ H' (.ref ax) [] ⟨⟨fun i b q => ?_, fun b z => .inl (mo.1.z b z), fun b o q n => mo.1.keep b o (kp b o q) fun z => ?_, fun b q => ?_, fun b n => mo.1.there b ?_⟩, ?_⟩ .no ?_ ⟨rfl, ax, dx', Ca', gs, rfl, m', .inr (by rw [eG]; exact List.mem_cons_self), hH, ?_⟩⟩
            · have hi := (List.getElem?_eq_some_iff.mp q).1
              show (w'.ρ.take h.length)[i]? = some b
              rw [List.getElem?_take_of_lt (by omega)]
              exact mo.1.rho i b (by show (w.ρ ++ [ax])[i]? = _; rw [List.getElem?_append_left hi]; exact q)
            · rcases List.mem_append.mp z with z | z
              · exact n z
              · rw [List.mem_singleton.mp z, hx] at q; cases q
            · have q' : w'.Z b ∨ b ∈ w'.F ++ [] := by
                rw [List.append_nil] at q ⊢
                rcases q with (q | q) | q
                · exact .inl q
                · exact .inr (inF b (List.mem_append_right _ (List.mem_append_left _ q)))
                · exact .inr (inF b (List.mem_append_left _ (s.subset q)))
              rcases mo.1.new b q' with z | z | z
              · exact .inl z
              · rcases List.mem_append.mp z with z | z
                · exact .inr (.inl z)
                · rw [List.mem_singleton.mp z]; exact .inr (.inr hx)
              · refine .inr (.inr ?_)
                cases q2 : H b with
                | none => rfl
                | some o => rw [kp b o q2] at z; cases z
            · cases q2 : H b with
              | none => exact absurd q2 n
              | some o => rw [kp b o q2]; exact fun z => nomatch z
            · rw [List.append_nil]
              refine ⟨(List.nodup_append.mp nd0).1.sublist s, fun b hb z => ?_, fun b hb => okE.trF b (inF b (List.mem_append_left _ (s.subset hb))), fun b z => z.elim (okE.trZ b) fun z => okE.trF b (inF b (List.mem_append_right _ (List.mem_append_left _ z)))⟩
              rcases z with z | z
              · exact okE.sep b (inF b (List.mem_append_left _ (s.subset hb))) z
              · exact (List.nodup_append.mp nd0).2.2 b (s.subset hb) b (List.mem_append_left _ z) rfl
            · exact RHl.mono (fun _ _ e => e) (fun _ z => .inl z) (fun _ _ _ e => e) (fun _ _ _ e => e) rc2
            · exact toDf_ok (fun _ z => .inl z) (fun b hb => .inr (by rw [eG]; exact List.mem_cons_of_mem _ hb)) rf ed
          · exact p.elim
        · exact p.elim
      · exact p.elim
    · rename_i q; cases q
    · exact p.elim
theorem new_args {σ : L2.St} {H : Hp} {Q : VK} {nm : Str} {Ca : Addr} {n : Nat} {F : MF} (hm : c.mg nm = some (.ref Ca)) (hn : ArgN ms n) (h : tV false .E c W (mNew nm F ms) σ H Q) : tMakeSD Ca (spM c (n + 1) F) (WE W) (tAs false c W ms) σ H Q := by
  obtain ⟨w, Fs, σd, hd, S, p⟩ := h
  refine ⟨w, Fs, σd, hd, S, ?_⟩
  unfold mNew at p
  have hn' := hn σd hd
  revert p hn'
  cases ms σd hd with
  | err x h' => exact fun p _ => p
  | bad => exact fun p _ => p
  | ok us h1 =>
    intro p hn' w1 H1 vs Fv mo pp rh ru x dx hx hdx ne
    simp only [bindM_ok] at p
    by_cases hno : us.all noOwn = true
    · rw [if_pos hno] at p
      have eF := noOwn_all hno ru
      subst eF
      have e1 := mo.ext
      obtain ⟨ok2, rh2, kp⟩ := made_world (nm := nm) hm e1.2 rh hx hdx ne
      have lρ : w1.ρ.length = h1.length := RHl.length rh
      refine ⟨by rw [List.length_cons, ru.length, hn' us h1 rfl], ⟨w1.ρ ++ [x], w1.Z, w1.F ++ [x]⟩, .ref h1.length :: us, h1 ++ [.obj nm []], ok2, rh2, ⟨.ref x, vs, [], [], rfl, rfl, ⟨rfl, x, ?_, rfl⟩, ?_⟩, new_post hm e1.2 rh hx hdx ne (EPo.shift e1.1 e1.2 .no p)⟩
      · show (w1.ρ ++ [x])[h1.length]? = _
        rw [List.getElem?_append_right (by omega), lρ, Nat.sub_self]; rfl
      · exact RUl.mono (pre_get _ _) (fun _ z => z) (fun a o _ q => kp a o q) (fun a _ o q => kp a o q) ru
    · rw [if_neg hno] at p; exact p.elim
/-- a class whose making is known by the function of its __init__ -/
def Gn (c : Cg) (P : Program) (w : World) (base : Heap) (k : Nat) (nm : Str) (n : Nat) (F : MF) : Prop :=
  ∃ Ca fa fd ps, c.mg nm = some (.ref Ca) ∧ Mk c.K Ca fa ∧ FnOk P w c.K c.mg base (L2.CX P w) k fa fd ps (spM c (n + 1) F) ∧ Binds c.K fd ps []
theorem Gn.mono {j k : Nat} {nm : Str} {n : Nat} {F : MF} (g : Gn c P w base j nm n F) (h : j ≤ k) : Gn c P w base k nm n F :=
  let ⟨Ca, fa, fd, ps, a, b, F, e⟩ := g; ⟨Ca, fa, fd, ps, a, b, F.mono h, e⟩
theorem g_new (C : Cc c P w base N sc (k + 1) X W) {nm : Str} {n : Nat} {F : MF} (G : Gn c P w base k nm n F) (ha : PA X (e :: es) (tAs false c W ms)) (hn : ArgN ms n) (hg : sc.names.lookup nm = some .globalImplicit := by rfl) (hdb : (nm == ("__debug__" : Str)) = false := by decide)
    (he : starEach (e :: es) X.env = (false, eval e X.env) :: starEach es X.env := by rfl) (hpl : (backTo pos (starEach es X.env)).any (·.1) = false := by rfl) : PE X (.Call (.Name nm p) (e :: es) [] pos) (tV false .E c W (mNew nm F ms)) := by
  obtain ⟨Ca, fa, fd, ps, m1, mk, F1, b1⟩ := G
  exact PE.imp (pe_makeSD (E := WE W) (by rw [← C.eK]; exact mk) (C.fn F1) C.room (C.gl hg) (C.mgo m1) (by rw [← C.eK]; exact b1) (fun σ => passAt C.tk σ) ha hdb he hpl) fun σ H Q h => new_args m1 hn h
theorem gn_of {nm : Str} {qual : Str} {st : Stmt} {Ca fa : Addr} {fd : FuncData} {ps N' : List Str} {n nN : Nat} {b : MS} (m : c.mg nm = some (.ref Ca)) (mk : Mk c.K Ca fa) (F : Fun c.K "__init__" qual st fa fd) (S : FnScope N' ps (defScope st)) (hbd : Binds c.K fd ps []) (hn : ps.length = n + 1) (hN : N'.length = nN)
    (hb : ∀ (X : Cx) (W : WX), Cc c P w base N' (defScope st) k X W → (∀ y, X.fn y = true) → X.stack = X.env :: X.outer → X.env.frame = some X.env.locals → PSs X (defBody st) (tS c W b)) : Gn c P w base (k + 1) nm n (fnM nN b) :=
  ⟨Ca, fa, fd, ps, m, mk, F.okX S (spM_len hn) fun cdv A outer s H vs Q E hr h => ⟨_, hb _ _ ⟨rfl, rfl, rfl, rfl, rfl, rfl, rfl, rfl, hr, takes_of rfl rfl rfl rfl, passes_of rfl, S.kind, S.nd⟩ (fun _ => rfl) rfl rfl, body_ok N' hN h⟩, hbd⟩
/-! ### self.f = e, a new field -/
def sFSet (AT : List (Str × Str)) (i : Nat) (f : Str) (m : ME) : MS := fun σ h => bindS (m σ h) σ fun u h1 => match σ[i]? with
  | some (some (.ref k)) => match h1[k]? with
    | some (.obj C fs) => if AT.contains (C, f) = true ∧ fs.length < 1000 ∧ getF f fs = none then .nx σ (h1.set k (.obj C (fs ++ [(f, u)]))) else .bad
    | _ => .bad
  | _ => .bad
theorem RUf.none {Z : Addr → Prop} {H : Hp} {ρ : List Addr} {f : Str} : ∀ {fs : List (Str × UV)} {gs : List (Str × V)} {F : List Addr}, RUf c Z H ρ fs gs F → getF f fs = none → ∀ v, putF f v gs = gs ++ [(f, v)]
  | [], _, _, h, _, v => by rw [h.1]; rfl
  | (g, x) :: fs, _, _, ⟨v', r, F1, F2, e, eF, h, t⟩, q, v => by
    subst e
    unfold getF at q
    split at q
    · cases q
    · rename_i ne
      show (if g = f then _ else _) = _
      rw [if_neg (fun z => ne z.symm), RUf.none t q v]
      rfl
theorem RUf.snoc {Z : Addr → Prop} {H : Hp} {ρ : List Addr} {f : Str} {u : UV} {v : V} {Fu : List Addr} (ru : RU c Z H ρ u v Fu) : ∀ {fs : List (Str × UV)} {gs : List (Str × V)} {F : List Addr}, RUf c Z H ρ fs gs F → RUf c Z H ρ (fs ++ [(f, u)]) (gs ++ [(f, v)]) (F ++ Fu)
  | [], _, _, h => by rw [h.1, h.2]; exact ⟨v, [], Fu, [], rfl, by simp, ru, ⟨rfl, rfl⟩⟩
  | (g, x) :: fs, _, _, ⟨v', r, F1, F2, e, eF, h, t⟩ => by
    subst e eF
    exact ⟨v', _, F1, F2 ++ Fu, rfl, by rw [List.append_assoc], h, RUf.snoc ru t⟩
theorem RUf.length {Z : Addr → Prop} {H : Hp} {ρ : List Addr} : ∀ {fs : List (Str × UV)} {gs : List (Str × V)} {F : List Addr}, RUf c Z H ρ fs gs F → gs.length = fs.length
  | [], _, _, h => by rw [h.1]; rfl
  | (g, x) :: fs, _, _, ⟨v', r, F1, F2, e, eF, h, t⟩ => by subst e; rw [List.length_cons, List.length_cons, RUf.length t]
theorem s_fset (A : AtOk c AT) (hK : c.K = X.K) {i : Nat} {pos' : Pos} (ho : PE X o (tVar i)) (he : PE X e (tV pu .E c W m)) (hs : swapsWith e (some (.Attribute o f pos')) pos.line X.env = pure false) : PS X (.Assign [.Attribute o f pos'] e pos) (tS c W (sFSet AT i f m)) :=
  PS.imp (ps_fld ho he hs) fun D σ H ⟨w, Fs, σd, hd, S, p⟩ => stepE S p fun u h1 w1 H1 y Fy S1 ok pp ru p1 => by
    split at p1
    · rename_i k q1
      split at p1
      · rename_i C fs q2
        split at p1
        · rename_i hq
          obtain ⟨hA, hl, hf⟩ := hq
          obtain ⟨v, G, q3, r3, _⟩ := RS.split S1.s q1
          obtain ⟨_, a, q4, rfl⟩ := r3
          obtain ⟨Ca, m1, cl, na⟩ := A (C, f) (by simpa using hA)
          obtain ⟨Fx, F1, F2, eF, rc, kk⟩ := RHl.focus S1.h q2 q4
          obtain ⟨Ca', dx, gs, G2, m2, hH, eG, rf⟩ := rc
          rw [m1] at m2
          cases m2
          refine ⟨.ref a, q3, a, Ca, dx, gs, rfl, hH, by rw [← hK]; exact cl, by rw [← hK]; exact na, by rw [RUf.length rf]; exact hl, ?_⟩
          rw [RUf.none rf hf y]
          have nd := ok.nd
          have aF : a ∈ w1.F := by rw [eF, eG]; simp
          have nFs : a ∉ Fs := fun z => (List.nodup_append.mp nd).2.2 a z a (List.mem_append_left _ aF) rfl
          have nFy : a ∉ Fy := fun z => (List.nodup_append.mp (List.nodup_append.mp nd).2.1).2.2 a aF a z rfl
          have nZ : ¬ w1.Z a := fun z => ok.sep a (List.mem_append_right _ (List.mem_append_left _ aF)) z
          have nd1 : (F1 ++ Fx ++ F2).Nodup := by rw [← eF]; exact (List.nodup_append.mp (List.nodup_append.mp nd).2.1).1
          rw [eG] at nd1
          have nd2 := List.nodup_append.mp nd1
          have nd3 := List.nodup_append.mp nd2.1
          have nF1 : a ∉ F1 := fun z => nd3.2.2 a z a List.mem_cons_self rfl
          have nF2 : a ∉ F2 := fun z => nd2.2.2 a (List.mem_append_right _ List.mem_cons_self) a z rfl
          have nG2 : a ∉ G2 := (List.nodup_cons.mp nd3.2.1).1
          have kp : ∀ b o, b ≠ a → H1 b = some o → upd H1 a (.ins Ca dx (gs ++ [(f, y)])) b = some o := fun b o n q => by rw [upd_ne n]; exact q
          have kz : ∀ b o, w1.Z b → H1 b = some o → upd H1 a (.ins Ca dx (gs ++ [(f, y)])) b = some o := fun b o z => kp b o fun e => nZ (e ▸ z)
          have rf2 : RUf c w1.Z (upd H1 a (.ins Ca dx (gs ++ [(f, y)]))) w1.ρ (fs ++ [(f, u)]) (gs ++ [(f, y)]) (G2 ++ Fy) :=
            RUf.snoc (RU.mono (fun _ _ e => e) (fun _ z => z) kz (fun b hb o => kp b o fun e => nFy (e ▸ hb)) ru) (RUf.mono (fun _ _ e => e) (fun _ z => z) kz (fun b hb o => kp b o fun e => nG2 (e ▸ hb)) rf)
          have rh2 := kk (upd H1 a (.ins Ca dx (gs ++ [(f, y)]))) (.obj C (fs ++ [(f, u)])) (a :: (G2 ++ Fy)) (fun b o z => kp b o fun e => by
            subst e
            rcases z with z | z
            · exact nZ z
            · rcases List.mem_append.mp z with z | z
              · exact nF1 z
              · exact nF2 z) ⟨Ca, dx, _, _, m1, upd_same, rfl, rf2⟩
          have pm : (Fs ++ (F1 ++ (a :: (G2 ++ Fy)) ++ F2)).Perm (Fs ++ (w1.F ++ Fy)) := by
            rw [eF, eG]
            refine List.Perm.append_left Fs ?_
            rw [List.append_assoc, List.append_assoc, List.append_assoc]
            refine List.Perm.append_left F1 ?_
            show ((a :: G2 ++ Fy) ++ F2).Perm ((a :: G2) ++ (F2 ++ Fy))
            rw [List.append_assoc]
            exact List.Perm.append_left _ List.perm_append_comm
          have th : ∀ b, H1 b ≠ none → upd H1 a (.ins Ca dx (gs ++ [(f, y)])) b ≠ none := fun b n => upd_there b n
          refine p1 ⟨w1.ρ, w1.Z, F1 ++ (a :: (G2 ++ Fy)) ++ F2⟩ Fs σ _ ⟨fun _ _ q => q, fun _ z => z, fun b o q n => kp b o (fun e => n (by rw [e]; exact List.mem_append_right _ (List.mem_append_left _ aF))) q, fun b z => z.elim .inl fun z => .inr (.inl (pm.mem_iff.mp z)), th⟩
            ⟨RS.mono (fun _ _ e => e) (fun _ z => z) kz (fun b hb o => kp b o fun e => nFs (e ▸ hb)) S1.s, rh2, ⟨pm.nodup_iff.mpr nd, fun b hb z => ok.sep b (pm.mem_iff.mp hb) z, fun b hb => th b (ok.trF b (pm.mem_iff.mp hb)), fun b z => th b (ok.trZ b z)⟩⟩
        · exact p1.elim
      · exact p1.elim
    · exact p1.elim
theorem g_fset (C : Cc c P w base N sc k X W) (A : AtOk c AT) (i : Nat) {pos' : Pos} (ho : PE X o (tVar i)) (he : PE X e (tV pu .E c W m)) (hs : swapsWith e (some (.Attribute o f pos')) pos.line X.env = pure false := by rfl) : PS X (.Assign [.Attribute o f pos'] e pos) (tS c W (sFSet AT i f m)) := s_fset A C.eK ho he hs
end
end MM

/-! MM32: x.count(k), sorted(xs) of ints, list(range(..)), xs[e] = v where e changes the store, names set from a tuple that a call gives. -/
namespace MM
open PySem PySem.Spec PyProof.Rows L2
/-! ### sorted -/
def isort (ns : List Int) : List Int := ns.mergeSort fun a b => decide (a ≤ b)
theorem isort_perm (ns : List Int) : (isort ns).Perm ns := List.mergeSort_perm _ _
theorem isort_sorted (ns : List Int) : (isort ns).Pairwise (· ≤ ·) := by
  have := List.pairwise_mergeSort (le := fun a b : Int => decide (a ≤ b)) (fun a b c h1 h2 => by simp at h1 h2 ⊢; omega) (fun a b => by simp; omega) ns
  exact this.imp fun h => by simpa using h
theorem isort_eq {ns ns' : List Int} (h1 : ns'.Perm ns) (h2 : ns'.Pairwise (· ≤ ·)) : ns' = isort ns :=
  List.Perm.eq_of_pairwise (fun a b _ _ x y => by omega) h2 (isort_sorted ns) (h1.trans (isort_perm ns).symm)
def fSorted : HS → UV → Option UV := fun h u => ((asL h u).bind (mapO uInt)).map fun ns => .own ((isort ns).map fun i => .d (.int i))
theorem RUl.ints {c : Cg} {Z : Addr → Prop} {H : Hp} {ρ : List Addr} : ∀ ns : List Int, RUl c Z H ρ (ns.map fun i => UV.d (.int i)) (ns.map V.int) []
  | [] => ⟨rfl, rfl⟩
  | n :: ns => ⟨.int n, ns.map V.int, [], [], rfl, rfl, ⟨rfl, rfl⟩, RUl.ints ns⟩
theorem fSorted_ok {c : Cg} : UnS c (fun x H Q => rSortedI c.K [x] H Q) fSorted := fun pu W σ w H h u x Fx z Q ok hh ru e p => by
  unfold fSorted at e
  rw [Option.map_eq_some_iff] at e
  obtain ⟨ns, e, rfl⟩ := e
  rw [Option.bind_eq_some_iff] at e
  obtain ⟨us, e1, e2⟩ := e
  obtain ⟨a, vs, G, rfl, e3, e4, _⟩ := asL_ok hh ru e1
  have ev := uInts_ok e2 e4
  subst ev
  refine ⟨a, ns, rfl, e3, fun ns' q h1 h2 hq => ?_⟩
  rw [isort_eq h1 h2]
  exact fin_own p ok hh (RUl.ints (isort ns)) (by simp) q hq
section
variable {c : Cg} {P : Program} {w : World} {base : Heap} {N : List Str} {sc : Scope} {k : Nat} {X : Cx} {W : WX} {pu : Bool} {m mo ma mb : ME} {ms : MAs} {a b e o : Expr} {es : List Expr} {p p' pos apos : Pos} {L : List Str} {g : TG} {td : TD}
theorem g_sorted (C : Cc c P w base N sc k X W) (B : NoG c L) (ha : PE X a (tV pu .C c W m)) (hb : L.contains ("sorted" : Str) = true := by rfl) (hg : sc.names.lookup ("sorted" : Str) = some .globalImplicit := by rfl) (hs : starEach [a] X.env = (false, eval a X.env) :: starEach [] X.env := by rfl) : PE X (.Call (.Name "sorted" p) [a] [] pos) (tV pu .E c W (mUn fSorted m)) :=
  e_call1 (by have := @cr_sortedI X; rw [← C.eK] at this; exact this) fSorted_ok (C.gl hg) (C.mgo (B.at hb)) (by first | exact PyProof.Rows.Boot.«sorted» | kernel_rfl) ha hs
/-! ### count -/
def fCnt (h : HS) (u v : UV) : Option UV := match (asL h u).bind (mapO uInt), uInt v with
  | some ns, some k => some (.d (.int (ns.count k : Nat)))
  | _, _ => none
def mCnt (mo ma : ME) : ME := fun σ h => bindM (mo σ h) fun u h1 => if (asL h1 u).isSome = true then bindM (ma σ h1) fun v h2 => ofO (fCnt h2 u v) h2 else .bad
theorem cnt_ok {σ : L2.St} {H : Hp} {Q : VK} (h : tV pu .E c W (mCnt mo ma) σ H Q) : tBM c.K "list" (rCntI c.K) (tV pu .B c W mo) (tCons (tV pu .C c W ma) tNil) σ H Q := by
  obtain ⟨w, Fs, σd, hd, S, p⟩ := h
  refine step1 (md := .B) S p fun u h1 w1 H1 x Fx S1 mo1 ru p1 => ?_
  by_cases hi : (asL h1 u).isSome = true
  · rw [if_pos hi] at p1
    obtain ⟨us, e1⟩ := Option.isSome_iff_exists.mp hi
    obtain ⟨a, vs, G, rfl, e3, e4, _⟩ := asL_ok S1.h ru e1
    refine ⟨.inl ⟨rfl, vs, e3⟩, ?_⟩
    refine step1 (md := .C) S1 p1 fun v h2 w2 H2 y Fy S2 mo2 rv p2 => ?_
    cases q : fCnt h2 u v with
    | none => rw [q] at p2; exact p2.elim
    | some z =>
      rw [q] at p2
      have ru2 := ru.after S1.wok (fun a ha => (mo1.2.2 a ha).1) mo2.ext.1
      unfold fCnt at q
      split at q
      · rename_i ns kk q1 q2
        cases q
        rw [Option.bind_eq_some_iff] at q1
        obtain ⟨us2, e5, e6⟩ := q1
        obtain ⟨a2, vs2, G2, e7, e8, e9, _⟩ := asL_ok S2.h ru2 e5
        cases e7
        have ev := uInts_ok e6 e9
        subst ev
        exact ⟨a, ns, kk, rfl, by rw [uInt_ok q2 rv], e8, fin_d p2 S2.wok S2.h rfl⟩
      · cases q
  · rw [if_neg hi] at p1; exact p1.elim
theorem g_count (C : Cc c P w base N sc k X W) (ho : PE X o (tV pu .B c W mo)) (ha : PE X e (tV pu .C c W ma))
    (hbase : attributeBase o "count" X.env (eval o X.env) = eval o X.env := by rfl) (hline : (apos.endLine == pos.line) = true := by rfl) (hs1 : starEach [e] X.env = (false, eval e X.env) :: starEach [] X.env := by rfl)
    (hfew : ((backTo pos (starEach [e] X.env)).all (fun x => !x.1) && (backToKw pos (keywordEach [] X.env)).all (fun x => x.1.isSome)
      && decide ([e].length + ([] : List Keyword).length + (if ([] : List Keyword).isEmpty then 0 else 1) < 30)) = true := by rfl) : PE X (.Call (.Attribute o "count" apos) [e] [] pos) (tV pu .E c W (mCnt mo ma)) :=
  PE.imp (pe_bm PySem.F.plainAttrs_list PySem.F.slot_list_count PySem.F.type_list_count mt_lcount ho (pa_cons ha pa_nil hs1) hbase hfew hline hs1) fun σ H Q h => by
    have := cnt_ok h
    rw [C.eK] at this
    exact this
/-! ### list(range(..)) -/
def mListR (ma mb : ME) : ME := fun σ h => bindM (ma σ h) fun u h1 => bindM (mb σ h1) fun v h2 => match uInt u, uInt v with
  | some i, some j => if -1000000 ≤ i ∧ i ≤ 1000000 ∧ -1000000 ≤ j ∧ j ≤ 1000000 then .ok (.own (rangeU i (j - i).toNat)) h2 else .bad
  | _, _ => .bad
theorem RUl.range {Z : Addr → Prop} {H : Hp} {ρ : List Addr} (lo : Int) (l : List Nat) : RUl c Z H ρ (l.map fun (m : Nat) => UV.d (.int (lo + (m : Int)))) (l.map fun (m : Nat) => V.int (lo + (m : Nat))) [] := by
  induction l with
  | nil => exact ⟨rfl, rfl⟩
  | cons n l ih => exact ⟨.int (lo + (n : Int)), _, [], [], rfl, rfl, ⟨rfl, rfl⟩, ih⟩
theorem listR_fin {σ : L2.St} {H2 : Hp} {Q : VK} {w2 : Wd} {h2 : HS} {i j : Int} (ok : WOk w2 H2) (hh : RH c w2.Z H2 w2.ρ h2 w2.F) (hb : -1000000 ≤ i ∧ i ≤ 1000000 ∧ -1000000 ≤ j ∧ j ≤ 1000000) (p : EPo pu .E c W σ w2 H2 Q (.ok (.own (rangeU i (j - i).toNat)) h2)) : RgOk i j ∧ ∀ q, H2 q = none → Q (.ref q) (upd H2 q (.lst (rgV i j))) := by
  have e62 : (2 : Int) ^ 62 = 4611686018427387904 := by simp
  have e24 : (2 : Nat) ^ 24 = 16777216 := by simp
  refine ⟨⟨by rw [e62]; omega, by rw [e62]; omega, by rw [e62]; omega, by rw [e62]; omega, by rw [e24]; omega⟩, fun q hq => ?_⟩
  exact fin_own p ok hh (RUl.range i (List.range (j - i).toNat)) (by unfold rangeU; simp) q hq
theorem g_listR2 (C : Cc c P w base N sc k X W) (B : NoG c L) (ha : PE X a (tV pu .C c W ma)) (hb : PE X b (tV pu .C c W mb)) (hb1 : L.contains ("list" : Str) = true := by rfl) (hb2 : L.contains ("range" : Str) = true := by rfl) (hg1 : sc.names.lookup ("list" : Str) = some .globalImplicit := by rfl) (hg2 : sc.names.lookup ("range" : Str) = some .globalImplicit := by rfl)
    (na : starEach [a, b] X.env = (false, eval a X.env) :: starEach [b] X.env := by rfl) (nb : starEach [b] X.env = (false, eval b X.env) :: starEach [] X.env := by rfl) {pos2 : Pos} (nd : (backTo pos2 (starEach [b] X.env)).any (·.1) = false := by rfl) (nc : starEach [Expr.Call (.Name "range" p') [a, b] [] pos2] X.env = (false, eval (Expr.Call (.Name "range" p') [a, b] [] pos2) X.env) :: starEach [] X.env := by rfl) :
    PE X (.Call (.Name "list" p) [.Call (.Name "range" p') [a, b] [] pos2] [] pos) (tV pu .E c W (mListR ma mb)) :=
  PE.imp (pe_listRg C.calm (C.gl hg1) (C.mgo (B.at hb1)) (prg_2 (C.gl hg2) (C.mgo (B.at hb2)) ha hb na nb (hp := nd)) nc) fun σ H Q ⟨w, Fs, σd, hd, S, p⟩ => by
    refine step1 (md := .C) S p fun u h1 w1 H1 x Fx S1 mo1 ru p1 => step1 (md := .C) S1 p1 fun v h2 w2 H2 y Fy S2 mo2 rv p2 => ?_
    cases q1 : uInt u with
    | none => simp only [q1] at p2; exact p2.elim
    | some i =>
      cases q2 : uInt v with
      | none => simp only [q1, q2] at p2; exact p2.elim
      | some j =>
        simp only [q1, q2] at p2
        by_cases hb : -1000000 ≤ i ∧ i ≤ 1000000 ∧ -1000000 ≤ j ∧ j ≤ 1000000
        · rw [if_pos hb] at p2
          exact ⟨i, j, by rw [uInt_ok q1 ru], by rw [uInt_ok q2 rv], listR_fin S2.wok S2.h hb p2⟩
        · rw [if_neg hb] at p2; exact p2.elim
theorem g_listR1 (C : Cc c P w base N sc k X W) (B : NoG c L) (hb : PE X b (tV pu .C c W mb)) (hb1 : L.contains ("list" : Str) = true := by rfl) (hb2 : L.contains ("range" : Str) = true := by rfl) (hg1 : sc.names.lookup ("list" : Str) = some .globalImplicit := by rfl) (hg2 : sc.names.lookup ("range" : Str) = some .globalImplicit := by rfl)
    (nb : starEach [b] X.env = (false, eval b X.env) :: starEach [] X.env := by rfl) {pos2 : Pos} (nc : starEach [Expr.Call (.Name "range" p') [b] [] pos2] X.env = (false, eval (Expr.Call (.Name "range" p') [b] [] pos2) X.env) :: starEach [] X.env := by rfl) :
    PE X (.Call (.Name "list" p) [.Call (.Name "range" p') [b] [] pos2] [] pos) (tV pu .E c W (mListR (mK (.int 0)) mb)) :=
  PE.imp (pe_listRg C.calm (C.gl hg1) (C.mgo (B.at hb1)) (prg_1 (C.gl hg2) (C.mgo (B.at hb2)) hb nb) nc) fun σ H Q ⟨w, Fs, σd, hd, S, p⟩ => by
    unfold mListR mK at p
    simp only [bindM_ok] at p
    refine step1 (md := .C) S p fun v h2 w2 H2 y Fy S2 mo2 rv p2 => ?_
    cases q2 : uInt v with
    | none => simp only [uInt0, q2] at p2; exact p2.elim
    | some j =>
      simp only [uInt0, q2] at p2
      by_cases hb : -1000000 ≤ (0 : Int) ∧ (0 : Int) ≤ 1000000 ∧ -1000000 ≤ j ∧ j ≤ 1000000
      · rw [if_pos hb] at p2
        exact ⟨j, by rw [uInt_ok q2 rv], listR_fin S2.wok S2.h hb p2⟩
      · rw [if_neg hb] at p2; exact p2.elim
/-! ### names set from a tuple -/
theorem g_asgT (C : Cc c P w base N sc k X W) {tg : Expr} (hg : PG X tg g) (hgs : TgS c g td) (he : PE X e (tV pu .E c W m)) (hs : swapsWithSole [tg] e pos.line X.env = pure false := by rfl) (hw : swappedStores [tg] e X.env = pure none := by rfl)
    (h1 : (assignEach [tg] X.env).map (·.2) = [assign tg X.env] := by rfl) : PS X (.Assign [tg] e pos) (tS c W (sAsg td m)) := s_asg hgs he fun q => ps_asg q hg hs hw h1
/-! ### xs[e] = v, e may change the store, v frozen -/
def sISetE (i : Nat) (mi m : ME) : MS := fun σ h => bindS (m σ h) σ fun u h1 => if noOwn u = true then match σ[i]? with
  | some (some (.own xs)) => bindS (mi σ h1) σ fun v h2 => match (uInt v).bind (ixN xs.length) with
    | some j => .nx (σ.set i (some (.own (xs.set j u)))) h2
    | none => .bad
  | _ => .bad else .bad
theorem g_isetE (C : Cc c P w base N sc k X W) (i : Nat) {tpos : Pos} {mi : ME} {ix : Expr} (ho : PE X o (tVar i)) (hi : PE X ix (tV pu .C c W mi)) (he : PE X e (tV pu .E c W m))
    (ha : ∀ v, assign (.Subscript o ix tpos) X.env v = (do
      let ov ← holding [v] (eval o X.env)
      let iv ← holding [v, ov] (eval ix X.env)
      standAt tpos
      holding [v, ov, iv] (setItem ov iv v)
      release [v, ov, iv] []) := by intro _; rfl)
    (hs : swapsWithSole [.Subscript o ix tpos] e pos.line X.env = pure false := by rfl) (hw : swappedStores [.Subscript o ix tpos] e X.env = pure none := by rfl)
    (h1 : (assignEach [.Subscript o ix tpos] X.env).map (·.2) = [assign (.Subscript o ix tpos) X.env] := by rfl) :
    PS X (.Assign [.Subscript o ix tpos] e pos) (tS c W (sISetE i mi m)) :=
  PS.imp (ps_asg he (pg_sub ho hi set_list ha) hs hw h1) fun D σ H ⟨w, Fs, σd, hd, S, p⟩ => stepE S p fun u h1 w1 H1 x Fx S1 ok1 pp ru p1 => by
    by_cases hno : noOwn u = true
    · rw [if_pos hno] at p1
      have eF := noOwn_F hno ru
      subst eF
      rw [fullv_nil] at p1
      split at p1
      · rename_i xs q
        obtain ⟨vv, G, q3, ⟨a, vs, G0, rfl, hH, eG, t⟩, _⟩ := RS.split S1.s q
        refine ⟨.ref a, q3, ?_⟩
        refine stepS (md := .C) S1 p1 fun v h2 w2 H2 y Fy S2 mo2 pp2 rv p2 => ?_
        split at p2
        · rename_i j ej
          rw [Option.bind_eq_some_iff] at ej
          obtain ⟨kk, ei, ej⟩ := ej
          obtain ⟨vv2, G2, q4, ⟨a2, vs2, G3, e5, hH2, eG2, t2⟩, _⟩ := RS.split S2.s q
          rw [q3] at q4
          cases q4
          cases e5
          have ru2 := RU.mono mo2.ext.1.rho mo2.ext.1.z (frozen_kept S1.wok mo2.ext.1) (fun _ z => absurd z (by simp)) ru
          refine ⟨a, vs2, kk, j, rfl, uInt_ok ei rv, hH2, by rw [t2.length]; exact ej, ?_⟩
          refine put_lst1 (Fx := []) (xs := xs) (xs' := xs.set j u) S2 (by rw [fullv_nil]; exact S2.ok) (p := .slot i) ⟨q, q3⟩ hH2 (fun G0 t0 => ?_) (by rw [fullv_nil]; exact p2)
          obtain ⟨F', F0, q1, q2⟩ := RUl.put ru2 j (ixN_lt ej) t0
          exact ⟨F', F0, q2, q1⟩
        · exact p2.elim
      · exact p1.elim
    · rw [if_neg hno] at p1; exact p1.elim
end
end MM

/-! MM33: small laws of the functions, for Level B. -/
namespace MM
open PySem PySem.Spec PyProof.Rows L2
abbrev rowD (r : List Int) : DV := .lst (r.map .int)
def SeqD (x : DV) (xs : List DV) : Prop := x = .lst xs ∨ x = .tup xs
theorem SeqD.q {x : DV} {xs : List DV} (s : SeqD x xs) (h : HS) : asQ h (.d x) = some (xs.map .d) := by rcases s with rfl | rfl <;> rfl
theorem SeqD.frz {x : DV} {xs : List DV} (s : SeqD x xs) : frzQ (.d x) = some (xs.map .d) := by rcases s with rfl | rfl <;> rfl
theorem SeqD.len {x : DV} {xs : List DV} (s : SeqD x xs) (h : HS) : fLen h (.d x) = some (.d (.int xs.length)) := by rcases s with rfl | rfl <;> simp [fLen, lenU, asQ, asT, asL]
theorem SeqD.it {x : DV} {xs : List DV} (s : SeqD x xs) (h : HS) (i : Nat) (hi : i < xs.length) : itemU h (.d x) (.d (.int (i : Int))) = some (.d xs[i]) := item_seq (s.q h) i hi
theorem SeqD.itO {x : DV} {xs : List DV} (s : SeqD x xs) (h : HS) (i : Nat) (hi : i < xs.length) : oItem h (.d x) (.d (.int (i : Int))) = some (.d xs[i]) := item_seqO (s.q h) i hi
@[simp] theorem fLen_own (h : HS) (xs : List UV) : fLen h (.own xs) = some (.d (.int xs.length)) := by
  simp [fLen, lenU, asQ, asT, asL]
theorem mUn_ok {g : HS → UV → Option UV} {m : ME} {σ : SL} {h h1 : HS} {u v : UV} (e : m σ h = .ok u h1) (e2 : g h1 u = some v) : mUn g m σ h = .ok v h1 := by
  rw [mUn_at, e, bindM_ok, e2]; rfl
theorem mBin_ok {g : HS → UV → UV → Option UV} {m n : ME} {σ : SL} {h h1 h2 : HS} {u v w : UV} (e : m σ h = .ok u h1) (e1 : n σ h1 = .ok v h2) (e2 : g h2 u v = some w) : mBin g m n σ h = .ok w h2 := by
  rw [mBin_at, e, bindM_ok, e1, bindM_ok, e2]; rfl
theorem oAdd_oI (h : HS) (xs ys : List Int) (hl : xs.length + ys.length ≤ sizeLine) : oAdd h (oI xs) (oI ys) = some (oI (xs ++ ys)) := by
  unfold oAdd
  simp [asM, asL, hl]
theorem fMax_oI (h : HS) (x : Int) (xs : List Int) : fMax h (oI (x :: xs)) = some (.d (.int (lmax (x :: xs)))) := by
  unfold fMax
  show (match (some ((x :: xs).map fun i => UV.d (.int i))).bind (mapO uInt) with
    | some (n :: ns) => _
    | _ => _) = _
  rw [Option.bind_some, mapO_ints]
theorem fnM_ex {N : Nat} {b : MS} {us : List UV} {h h' : HS} {e : Exn} {σ' : SL} (q : b (us.map some ++ List.replicate (N - us.length) none) h = .ex e σ' h') : fnM N b us h = .err e h' := by
  rw [fnM_at, q]
theorem sSeq_ex {a b : MS} {σ σ1 : SL} {h h1 : HS} {e : Exn} (q : a σ h = .ex e σ1 h1) : sSeq a b σ h = .ex e σ1 h1 := by
  rw [sSeq_at, q]; rfl
theorem sGh_at {g : GH} {ms : MS} {σ σ' : SL} {h h' : HS} (e : g σ h = some (σ', h')) : sGh g ms σ h = ms σ' h' := by
  unfold sGh; rw [e]
theorem mCall2 {f : MF} {m n : ME} {σ : SL} {h h1 h2 h3 : HS} {u v w : UV} (e1 : m σ h = .ok u h1) (e2 : n σ h1 = .ok v h2) (ho : noOwn u = true ∧ noOwn v = true) (e : f [u, v] h2 = .ok w h3) : mCall f (aCons m (aCons n aNil)) σ h = .ok w h3 := by
  rw [mCall_at, aCons_at, e1, bindM_ok, aCons_at, e2]
  simp [ho.1, ho.2, e]
theorem mIf_ok {t : MT} {m n : ME} {σ : SL} {h h1 : HS} {b : Bool} (e : t σ h = .ok b h1) : mIf t m n σ h = if b then m σ h1 else n σ h1 := by
  rw [mIf_at, e]; rfl
theorem mTst_ok {m : ME} {σ : SL} {h h1 : HS} {b : Bool} (e : m σ h = .ok (.d (.bl b)) h1) : mTst m σ h = .ok b h1 := by
  rw [mTst_at, e]; rfl
theorem turn_ok2 {td vs : Nat} {me : ME} {σ : SL} {h h1 : HS} {u y : UV} (e : me ((wipeU σ [vs]).set td (some u)) h = .ok y h1) : turnC (tdN td) [vs] mYes me σ u h = .ok (some y) h1 := by
  simp only [turnC, tdN, mYes]
  rw [e]
theorem sAug_int {i : Nat} {g : Int → Int → Int} {m : ME} {σ : SL} {h : HS} {a b : Int} (e : σ[i]? = some (some (.d (.int a)))) (e2 : m σ h = .ok (.d (.int b)) h) : sAug i g m σ h = .nx (σ.set i (some (.d (.int (g a b))))) h := by
  unfold sAug
  rw [e]
  show bindS (m σ h) σ _ = _
  rw [e2]
  rfl
theorem whl_at {fu : SL → HS → Nat} {t : MT} {b : MS} {σ : SL} {h : HS} : sWhile fu t b σ h = whileF t b (fu σ h) σ h := rfl
theorem toDl_ints (r : List Int) : toDl (r.map fun i => UV.d (.int i)) = some (r.map .int) := by
  have := toDl_map (r.map DV.int)
  rw [List.map_map] at this
  exact this
theorem toD_oI (r : List Int) : toD (oI r) = some (rowD r) := by
  show (toDl (r.map fun i => UV.d (.int i))).map DV.lst = _
  rw [toDl_ints]; rfl
theorem slice_take (h : HS) (ds : List Int) (n : Nat) : sliceU h (dI ds) none (some (n : Int)) = some (oI (ds.take n)) := by
  unfold sliceU
  simp only [asL]
  have e : cutL ((ds.map DV.int).map UV.d) none (some (n : Int)) = (ds.take n).map fun i => UV.d (.int i) := by
    unfold cutL
    rw [HT.sIx_nat, HT.sIx_none, List.drop_zero, Nat.sub_zero, List.map_map, List.map_take, ← List.take_eq_take_min]
    rfl
  rw [e]
  simp
theorem slice_drop (h : HS) (ds : List Int) (n : Nat) : sliceU h (dI ds) (some (n : Int)) none = some (oI (ds.drop n)) := by
  unfold sliceU
  simp only [asL]
  have e : cutL ((ds.map DV.int).map UV.d) (some (n : Int)) none = (ds.drop n).map fun i => UV.d (.int i) := by
    unfold cutL
    rw [HT.sIx_nat, HT.sIx_none, List.take_of_length_le (by rw [List.length_drop]; omega), List.map_map, List.length_map]
    have : (ds.map (UV.d ∘ DV.int)).drop (min n ds.length) = (ds.map (UV.d ∘ DV.int)).drop n := by
      by_cases q : n ≤ ds.length
      · rw [Nat.min_eq_left q]
      · rw [List.drop_eq_nil_of_le (by rw [List.length_map]; omega), List.drop_eq_nil_of_le (by rw [List.length_map]; omega)]
    rw [this, List.map_drop]
    rfl
  rw [e]
  simp
theorem oAdd_dI (h : HS) (xs ys : List Int) (hl : xs.length + ys.length ≤ sizeLine) : oAdd h (dI xs) (oI ys) = some (oI (xs ++ ys)) := by
  unfold oAdd
  simp [asM, asL, hl]
theorem lst1 {m : ME} {σ : SL} {h h1 : HS} {u : UV} (e : m σ h = .ok u h1) : mLst (aCons m aNil) σ h = .ok (.own [u]) h1 := by
  rw [mLst_at, aCons_at, e]
  simp
theorem mFz_ok {m : ME} {σ : SL} {h h1 : HS} {u v : UV} (e : m σ h = .ok u h1) (e2 : fz u = some v) : mFz m σ h = .ok v h1 := by
  rw [mFz_at, e, bindM_ok, e2]; rfl
theorem mSl1 {m n : ME} {σ : SL} {h : HS} {u v : UV} {i : Int} (e : m σ h = .ok u h) (e1 : n σ h = .ok (.d (.int i)) h) (e2 : sliceU h u none (some i) = some v) : mSlice m oNo (oYes n) σ h = .ok v h := by
  rw [mSlice_at, e]
  simp [e1, e2]
theorem mSl2 {m n : ME} {σ : SL} {h : HS} {u v : UV} {i : Int} (e : m σ h = .ok u h) (e1 : n σ h = .ok (.d (.int i)) h) (e2 : sliceU h u (some i) none = some v) : mSlice m (oYes n) oNo σ h = .ok v h := by
  rw [mSlice_at, e]
  simp [e1, e2]
theorem sIf_ok {t : MT} {a b : MS} {σ : SL} {h h1 : HS} {k : Bool} (e : t σ h = .ok k h1) : sIf t a b σ h = if k then a σ h1 else b σ h1 := by
  rw [sIf_at, e]; rfl
theorem sSet_ok {i : Nat} {m : ME} {σ : SL} {h h1 : HS} {u : UV} (e : m σ h = .ok u h1) : sSet i m σ h = .nx (σ.set i (some u)) h1 := by
  rw [sSet_at, e]; rfl
theorem lst2 {m n : ME} {σ : SL} {h h1 h2 : HS} {u v : UV} (e : m σ h = .ok u h1) (e2 : n σ h1 = .ok v h2) : mLst (aCons m (aCons n aNil)) σ h = .ok (.own [u, v]) h2 := by
  rw [mLst_at, aCons_at, e, bindM_ok, aCons_at, e2]
  simp
theorem oAdd_ds (h : HS) (xs ys : List DV) (hl : xs.length + ys.length ≤ sizeLine) : oAdd h (.own (xs.map .d)) (.own (ys.map .d)) = some (.own ((xs ++ ys).map .d)) := by
  unfold oAdd
  simp [asM, asL, hl]
theorem sApp_slot {i : Nat} {m : ME} {σ : SL} {h h1 : HS} {xs : List UV} {u : UV} (e0 : σ[i]? = some (some (.own xs))) (e1 : m σ h = .ok u h1) (hl : xs.length < sizeLine) : sApp true (pVar i) m σ h = .nx (σ.set i (some (.own (xs ++ [u])))) h1 := by
  have g : ∀ h, getP (.slot i) σ h = some (.own xs) := fun h => by simp only [getP, e0]
  have pv : pVar i σ h = some (.slot i) := by unfold pVar; rw [e0]; rfl
  have l0 : lstAt (pVar i) σ h = some (.slot i, xs) := by
    unfold lstAt
    rw [pv]
    simp only [g]
  unfold sApp
  rw [l0]
  show bindS (m σ h) _ _ = _
  rw [e1, bindS_ok]
  show (if _ then _ else _) = _
  rw [if_neg (fun z => nomatch (show true = false from z.2))]
  simp only [g]
  rw [if_pos hl]
  rfl
theorem fzRow (r : List Int) : fz (oI r) = some (.d (rowD r)) := fz_oI r
theorem gFz_at {i : Nat} {σ : SL} {h : HS} {u v : UV} (e : σ[i]? = some (some u)) (e2 : fz u = some v) : gFz i σ h = some (σ.set i (some v), h) := by
  unfold gFz
  rw [e]
  show (fz u).map _ = _
  rw [e2]; rfl
theorem ghFz {i : Nat} {ms : MS} {σ : SL} {h : HS} {u v : UV} (e : σ[i]? = some (some u)) (e2 : fz u = some v) : sGh (gFz i) ms σ h = ms (σ.set i (some v)) h := sGh_at (gFz_at e e2)
theorem mapO_uD (xs : List DV) : mapO uD (xs.map .d) = some xs := by
  induction xs with
  | nil => rfl
  | cons x xs ih => rw [List.map_cons, mapO, ih]; rfl
theorem fTup_lst (h : HS) (xs : List DV) : fTuple h (.d (.lst xs)) = some (.d (.tup xs)) := by
  show ((asL h (.d (.lst xs))).bind (mapO uD)).map _ = _
  show ((some (xs.map UV.d)).bind (mapO uD)).map _ = _
  rw [Option.bind_some, mapO_uD]; rfl
theorem mCall3 {f : MF} {m n p : ME} {σ : SL} {h h1 h2 h3 h4 : HS} {u v w z : UV} (e1 : m σ h = .ok u h1) (e2 : n σ h1 = .ok v h2) (e3 : p σ h2 = .ok w h3) (ho : noOwn u = true ∧ noOwn v = true ∧ noOwn w = true) (e : f [u, v, w] h3 = .ok z h4) : mCall f (aCons m (aCons n (aCons p aNil))) σ h = .ok z h4 := by
  rw [mCall_at, aCons_at, e1, bindM_ok, aCons_at, e2, bindM_ok, aCons_at, e3]
  simp [ho.1, ho.2.1, ho.2.2, e]
theorem mTru_ok {m : ME} {σ : SL} {h h1 : HS} {b : Bool} (e : m σ h = .ok (.d (.bl b)) h1) : mTru m σ h = .ok b h1 := by
  rw [mTru_at, e]; rfl
theorem mNot_ok {t : MT} {σ : SL} {h h1 : HS} {b : Bool} (e : t σ h = .ok b h1) : mNot t σ h = .ok (!b) h1 := by
  rw [mNot_at, e]; rfl
theorem sIf_nt {m : ME} {a : MS} {σ : SL} {h h1 : HS} (e : m σ h = .ok (.d (.bl true)) h1) : sIf (mNot (mTru m)) a sPass σ h = .nx σ h1 := by
  rw [sIf_ok (mNot_ok (mTru_ok e))]
  rfl
theorem sIf_nt2 {m n : ME} {a : MS} {σ : SL} {h h1 h2 : HS} (e : m σ h = .ok (.d (.bl true)) h1) (e2 : n σ h1 = .ok (.d (.bl true)) h2) : sIf (mOr (mNot (mTru m)) (mNot (mTru n))) a sPass σ h = .nx σ h2 := by
  have : mOr (mNot (mTru m)) (mNot (mTru n)) σ h = .ok false h2 := by
    rw [mOr_at, mNot_ok (mTru_ok e), bindM_ok]
    show mNot (mTru n) σ h1 = _
    rw [mNot_ok (mTru_ok e2)]
    rfl
  rw [sIf_ok this]
  rfl
theorem sAsg2 {m : ME} {i j : Nat} {σ : SL} {h h1 : HS} {A B : DV} (e : m σ h = .ok (.d (.tup [A, B])) h1) : sAsg (tdT 2 (tdCons (tdN i) (tdCons (tdN j) tdNil))) m σ h = .nx ((σ.set i (some (.d A))).set j (some (.d B))) h1 := by
  unfold sAsg; rw [e]; rfl
theorem mTup2 {m n : ME} {σ : SL} {h h1 h2 : HS} {A B : DV} (e : m σ h = .ok (.d A) h1) (e2 : n σ h1 = .ok (.d B) h2) : mTup (aCons m (aCons n aNil)) σ h = .ok (.d (.tup [A, B])) h2 := by
  rw [mTup_at, aCons_at, e, bindM_ok, aCons_at, e2]
  simp [ofO]
theorem sRet_ok {m : ME} {σ : SL} {h h1 : HS} {u : UV} (e : m σ h = .ok u h1) : sRet m σ h = .rt u h1 := by
  rw [sRet_at, e]; rfl
theorem lst0 (σ : SL) (h : HS) : mLst aNil σ h = .ok (.own []) h := by simp
theorem oAdd_ld (h : HS) (xs ys : List DV) (hl : xs.length + ys.length ≤ sizeLine) : oAdd h (.d (.lst xs)) (.own (ys.map .d)) = some (.own ((xs ++ ys).map .d)) := by
  unfold oAdd
  simp [asM, asL, hl]
theorem sz5 : 5000 ≤ sizeLine := by decide
theorem mTup4 {m n p q : ME} {σ : SL} {h : HS} {A B C E : DV} (e1 : m σ h = .ok (.d A) h) (e2 : n σ h = .ok (.d B) h) (e3 : p σ h = .ok (.d C) h) (e4 : q σ h = .ok (.d E) h) : mTup (aCons m (aCons n (aCons p (aCons q aNil)))) σ h = .ok (.d (.tup [A, B, C, E])) h := by
  rw [mTup_at, aCons_at, e1, bindM_ok, aCons_at, e2, bindM_ok, aCons_at, e3, bindM_ok, aCons_at, e4]
  simp [ofO]
theorem slice_m1 (h : HS) (xs : List DV) (hx : 0 < xs.length) : sliceU h (.d (.lst xs)) none (some (-1)) = some (.own ((xs.take (xs.length - 1)).map .d)) := by
  unfold sliceU
  simp only [asL]
  have e : cutL (xs.map UV.d) none (some (-1)) = (xs.take (xs.length - 1)).map UV.d := by
    unfold cutL
    rw [HT.sIx_none, List.drop_zero, Nat.sub_zero, List.length_map, List.map_take]
    have : HT.sIx xs.length xs.length (some (-1)) = xs.length - 1 := by
      show (if (-1 : Int) < 0 then ((-1 : Int) + (xs.length : Int)).toNat else min (-1 : Int).toNat xs.length) = _
      rw [if_pos (by omega)]
      omega
    rw [this]
  rw [e]
  simp
theorem item_m1 (h : HS) (xs : List DV) (hx : 0 < xs.length) : oItem h (.d (.lst xs)) (.d (.int (-1))) = some (.d (xs[xs.length - 1]'(by omega))) := by
  have ix : ixN xs.length (-1) = some (xs.length - 1) := by
    unfold ixN
    simp
    omega
  have : itemU h (.d (.lst xs)) (.d (.int (-1))) = some (.d (xs[xs.length - 1]'(by omega))) := by
    unfold itemU
    simp only [uInt_int]
    show (match (some (xs.map UV.d)) with
      | some ys => atI ys (-1)
      | none => none) = _
    show atI (xs.map UV.d) (-1) = _
    unfold atI
    rw [List.length_map, ix]
    show (xs.map UV.d)[xs.length - 1]? = _
    rw [List.getElem?_map, List.getElem?_eq_getElem (by omega)]
    rfl
  unfold oItem
  rw [this]
  rfl
theorem mCel_ok {m : ME} {σ : SL} {h h1 : HS} {xs : List UV} (e : m σ h = .ok (.own xs) h1) : mCel m σ h = .ok (.ref h1.length) (h1 ++ [.lst xs]) := by
  unfold mCel
  rw [e]
  rfl
theorem mCall1 {f : MF} {m : ME} {σ : SL} {h h1 h2 : HS} {u w : UV} (e1 : m σ h = .ok u h1) (ho : noOwn u = true) (e : f [u] h1 = .ok w h2) : mCall f (aCons m aNil) σ h = .ok w h2 := by
  rw [mCall_at, aCons_at, e1]
  simp [ho, e]
end MM

namespace MM.K04
open PySem PySem.Spec PyProof.Rows L2
abbrev pw : Program := PySem.Challenge.pw_neverlifted_k04_words_judged_row_by_row
abbrev BL : List Str := ["ValueError", "abs", "bool", "dict", "int", "isinstance", "len", "list", "max", "min", "range", "sorted", "str", "sum", "tuple"]
def tab_LIMITS : List (Str × DV) := [("stations", .int 6), ("burners", .int 200), ("stays", .int 60), ("pace", .int 12)]
def sgT : List ((Str × Str) × Bool) := []
def stT : List ((Str × String) × Bool) := []
def flT : List (Str × Str) := [("BadKitchen", "what"), ("BadKitchen", "station"), ("TooMany", "what")]
def exT : ExT := ⟨fun a b => sgT.lookup (a, b), fun a b => stT.lookup (a, b), fun a b => flT.contains (a, b)⟩
def AT : List (Str × Str) := [("Kitchen", "pace_number"), ("Kitchen", "row_list")]
def ciT : Nat → Option CloI := fun _ => none
abbrev st__law_stock : Stmt := topOf pw 24
abbrev N__law_stock : List Str := ["script", "at", "cell", "one", "size"]
abbrev p__law_stock : List Str := ["script", "at"]
theorem S__law_stock : FnScope N__law_stock p__law_stock (defScope st__law_stock) := ⟨rfl, rfl, rfl, by decide +kernel, rfl, by decide +kernel, by decide +kernel⟩
abbrev st__law_draw : Stmt := topOf pw 25
abbrev N__law_draw : List Str := ["stock", "many", "found"]
abbrev p__law_draw : List Str := ["stock", "many"]
theorem S__law_draw : FnScope N__law_draw p__law_draw (defScope st__law_draw) := ⟨rfl, rfl, rfl, by decide +kernel, rfl, by decide +kernel, by decide +kernel⟩
abbrev st__law_built : Stmt := topOf pw 21
abbrev N__law_built : List Str := ["stock", "pace", "parts", "most", "rows", "part", "own"]
abbrev p__law_built : List Str := ["stock", "pace", "parts", "most"]
theorem S__law_built : FnScope N__law_built p__law_built (defScope st__law_built) := ⟨rfl, rfl, rfl, by decide +kernel, rfl, by decide +kernel, by decide +kernel⟩
abbrev st__law_far_words : Stmt := topOf pw 38
abbrev N__law_far_words : List Str := ["stock", "n", "x", "kitchen", "first", "words", "last", "rows", "beat", "at"]
abbrev p__law_far_words : List Str := ["stock"]
theorem S__law_far_words : FnScope N__law_far_words p__law_far_words (defScope st__law_far_words) := ⟨rfl, rfl, rfl, by decide +kernel, rfl, by decide +kernel, by decide +kernel⟩
abbrev st_full_rows : Stmt := topOf pw 16
abbrev N_full_rows : List Str := ["rows", "row"]
abbrev p_full_rows : List Str := ["rows"]
theorem S_full_rows : FnScope N_full_rows p_full_rows (defScope st_full_rows) := ⟨rfl, rfl, rfl, by decide +kernel, rfl, by decide +kernel, by decide +kernel⟩
abbrev st_check : Stmt := topOf pw 13
abbrev N_check : List Str := ["what", "number"]
abbrev p_check : List Str := ["what", "number"]
theorem S_check : FnScope N_check p_check (defScope st_check) := ⟨rfl, rfl, rfl, by decide +kernel, rfl, by decide +kernel, by decide +kernel⟩
abbrev st_check_each : Stmt := topOf pw 14
abbrev N_check_each : List Str := ["what", "numbers", "number"]
abbrev p_check_each : List Str := ["what", "numbers"]
theorem S_check_each : FnScope N_check_each p_check_each (defScope st_check_each) := ⟨rfl, rfl, rfl, by decide +kernel, rfl, by decide +kernel, by decide +kernel⟩
abbrev st_check_rows : Stmt := topOf pw 17
abbrev N_check_rows : List Str := ["rows", "at"]
abbrev p_check_rows : List Str := ["rows"]
theorem S_check_rows : FnScope N_check_rows p_check_rows (defScope st_check_rows) := ⟨rfl, rfl, rfl, by decide +kernel, rfl, by decide +kernel, by decide +kernel⟩
abbrev st_Kitchen____init__ : Stmt := inCls (topOf pw 18) 0
abbrev N_Kitchen____init__ : List Str := ["self", "pace", "rows", "whole", "row"]
abbrev p_Kitchen____init__ : List Str := ["self", "pace", "rows"]
theorem S_Kitchen____init__ : FnScope N_Kitchen____init__ p_Kitchen____init__ (defScope st_Kitchen____init__) := ⟨rfl, rfl, rfl, by decide +kernel, rfl, by decide +kernel, by decide +kernel⟩
abbrev st__law_as_kitchen : Stmt := topOf pw 20
abbrev N__law_as_kitchen : List Str := ["kitchen", "row"]
abbrev p__law_as_kitchen : List Str := ["kitchen"]
theorem S__law_as_kitchen : FnScope N__law_as_kitchen p__law_as_kitchen (defScope st__law_as_kitchen) := ⟨rfl, rfl, rfl, by decide +kernel, rfl, by decide +kernel, by decide +kernel⟩
abbrev st__law_judge_world : Stmt := topOf pw 33
abbrev N__law_judge_world : List Str := ["stock", "many", "parts", "at"]
abbrev p__law_judge_world : List Str := ["stock"]
theorem S__law_judge_world : FnScope N__law_judge_world p__law_judge_world (defScope st__law_judge_world) := ⟨rfl, rfl, rfl, by decide +kernel, rfl, by decide +kernel, by decide +kernel⟩
abbrev st__law_all_rows : Stmt := topOf pw 31
abbrev N__law_all_rows : List Str := ["many", "pace", "found", "turn", "longer", "row", "station"]
abbrev p__law_all_rows : List Str := ["many", "pace"]
theorem S__law_all_rows : FnScope N__law_all_rows p__law_all_rows (defScope st__law_all_rows) := ⟨rfl, rfl, rfl, by decide +kernel, rfl, by decide +kernel, by decide +kernel⟩
abbrev st__law_spares : Stmt := topOf pw 27
abbrev N__law_spares : List Str := ["kitchen", "row"]
abbrev p__law_spares : List Str := ["kitchen"]
theorem S__law_spares : FnScope N__law_spares p__law_spares (defScope st__law_spares) := ⟨rfl, rfl, rfl, by decide +kernel, rfl, by decide +kernel, by decide +kernel⟩
abbrev st__law_windows : Stmt := topOf pw 28
abbrev N__law_windows : List Str := ["kitchen", "row"]
abbrev p__law_windows : List Str := ["kitchen"]
theorem S__law_windows : FnScope N__law_windows p__law_windows (defScope st__law_windows) := ⟨rfl, rfl, rfl, by decide +kernel, rfl, by decide +kernel, by decide +kernel⟩
abbrev st__law_row_after : Stmt := topOf pw 32
abbrev N__law_row_after : List Str := ["kitchen", "state", "row", "asked", "spares", "windows", "at", "rows", "one", "held"]
abbrev p__law_row_after : List Str := ["kitchen", "state", "row", "asked"]
theorem S__law_row_after : FnScope N__law_row_after p__law_row_after (defScope st__law_row_after) := ⟨rfl, rfl, rfl, by decide +kernel, rfl, by decide +kernel, by decide +kernel⟩
abbrev st__law_right_word : Stmt := topOf pw 23
abbrev N__law_right_word : List Str := ["stock", "kitchen", "beats", "choices", "asked", "rows", "turn", "good", "row"]
abbrev p__law_right_word : List Str := ["stock", "kitchen", "beats"]
theorem S__law_right_word : FnScope N__law_right_word p__law_right_word (defScope st__law_right_word) := ⟨rfl, rfl, rfl, by decide +kernel, rfl, by decide +kernel, by decide +kernel⟩
abbrev st__law_too_much : Stmt := topOf pw 35
abbrev N__law_too_much : List Str := ["kitchen", "rows", "asked", "choices", "row", "one"]
abbrev p__law_too_much : List Str := ["kitchen", "rows"]
theorem S__law_too_much : FnScope N__law_too_much p__law_too_much (defScope st__law_too_much) := ⟨rfl, rfl, rfl, by decide +kernel, rfl, by decide +kernel, by decide +kernel⟩
abbrev st__law_wrong_form : Stmt := topOf pw 36
abbrev N__law_wrong_form : List Str := ["stock", "kitchen", "row", "many", "way"]
abbrev p__law_wrong_form : List Str := ["stock", "kitchen", "row"]
theorem S__law_wrong_form : FnScope N__law_wrong_form p__law_wrong_form (defScope st__law_wrong_form) := ⟨rfl, rfl, rfl, by decide +kernel, rfl, by decide +kernel, by decide +kernel⟩
abbrev st__law_bent_words : Stmt := topOf pw 37
abbrev N__law_bent_words : List Str := ["stock", "kitchen", "rows", "found", "at", "changed", "wrong", "form", "choices", "turn"]
abbrev p__law_bent_words : List Str := ["stock", "kitchen", "rows"]
theorem S__law_bent_words : FnScope N__law_bent_words p__law_bent_words (defScope st__law_bent_words) := ⟨rfl, rfl, rfl, by decide +kernel, rfl, by decide +kernel, by decide +kernel⟩
abbrev st__law_entries : Stmt := topOf pw 29
abbrev N__law_entries : List Str := ["rows", "station", "first", "last", "one", "beat"]
abbrev p__law_entries : List Str := ["rows", "station", "first", "last"]
theorem S__law_entries : FnScope N__law_entries p__law_entries (defScope st__law_entries) := ⟨rfl, rfl, rfl, by decide +kernel, rfl, by decide +kernel, by decide +kernel⟩
abbrev st__law_wrong_row : Stmt := topOf pw 30
abbrev N__law_wrong_row : List Str := ["kitchen", "rows", "spares", "windows", "beat", "at"]
abbrev p__law_wrong_row : List Str := ["kitchen", "rows"]
theorem S__law_wrong_row : FnScope N__law_wrong_row p__law_wrong_row (defScope st__law_wrong_row) := ⟨rfl, rfl, rfl, by decide +kernel, rfl, by decide +kernel, by decide +kernel⟩
abbrev st__law_word_fault : Stmt := topOf pw 22
abbrev N__law_word_fault : List Str := ["kitchen", "rows", "good", "row", "before", "right", "station", "fault"]
abbrev p__law_word_fault : List Str := ["kitchen", "rows"]
theorem S__law_word_fault : FnScope N__law_word_fault p__law_word_fault (defScope st__law_word_fault) := ⟨rfl, rfl, rfl, by decide +kernel, rfl, by decide +kernel, by decide +kernel⟩
abbrev st__law_matches : Stmt := topOf pw 26
abbrev N__law_matches : List Str := ["answer", "due", "key", "at"]
abbrev p__law_matches : List Str := ["answer", "due"]
theorem S__law_matches : FnScope N__law_matches p__law_matches (defScope st__law_matches) := ⟨rfl, rfl, rfl, by decide +kernel, rfl, by decide +kernel, by decide +kernel⟩
abbrev st_Kitchen__many : Stmt := inCls (topOf pw 18) 3
abbrev N_Kitchen__many : List Str := ["self"]
abbrev p_Kitchen__many : List Str := ["self"]
theorem S_Kitchen__many : FnScope N_Kitchen__many p_Kitchen__many (defScope st_Kitchen__many) := ⟨rfl, rfl, rfl, by decide +kernel, rfl, by decide +kernel, by decide +kernel⟩
abbrev st_Kitchen__check_station : Stmt := inCls (topOf pw 18) 4
abbrev N_Kitchen__check_station : List Str := ["self", "station"]
abbrev p_Kitchen__check_station : List Str := ["self", "station"]
theorem S_Kitchen__check_station : FnScope N_Kitchen__check_station p_Kitchen__check_station (defScope st_Kitchen__check_station) := ⟨rfl, rfl, rfl, by decide +kernel, rfl, by decide +kernel, by decide +kernel⟩
abbrev st_Kitchen__window : Stmt := inCls (topOf pw 18) 6
abbrev N_Kitchen__window : List Str := ["self", "station", "row"]
abbrev p_Kitchen__window : List Str := ["self", "station"]
theorem S_Kitchen__window : FnScope N_Kitchen__window p_Kitchen__window (defScope st_Kitchen__window) := ⟨rfl, rfl, rfl, by decide +kernel, rfl, by decide +kernel, by decide +kernel⟩
abbrev st_Kitchen__spare : Stmt := inCls (topOf pw 18) 5
abbrev N_Kitchen__spare : List Str := ["self", "station", "row"]
abbrev p_Kitchen__spare : List Str := ["self", "station"]
theorem S_Kitchen__spare : FnScope N_Kitchen__spare p_Kitchen__spare (defScope st_Kitchen__spare) := ⟨rfl, rfl, rfl, by decide +kernel, rfl, by decide +kernel, by decide +kernel⟩
abbrev st_windows_of : Stmt := topOf pw 2
abbrev N_windows_of : List Str := ["kitchen", "found", "station"]
abbrev p_windows_of : List Str := ["kitchen"]
theorem S_windows_of : FnScope N_windows_of p_windows_of (defScope st_windows_of) := ⟨rfl, rfl, rfl, by decide +kernel, rfl, by decide +kernel, by decide +kernel⟩
abbrev st_full_station : Stmt := topOf pw 3
abbrev N_full_station : List Str := ["windows", "rows", "beat", "station", "window", "spare", "near", "row"]
abbrev p_full_station : List Str := ["windows", "rows", "beat"]
theorem S_full_station : FnScope N_full_station p_full_station (defScope st_full_station) := ⟨rfl, rfl, rfl, by decide +kernel, rfl, by decide +kernel, by decide +kernel⟩
abbrev st_is_row : Stmt := topOf pw 4
abbrev N_is_row : List Str := ["row", "pace", "many", "before", "station"]
abbrev p_is_row : List Str := ["row", "pace", "many"]
theorem S_is_row : FnScope N_is_row p_is_row (defScope st_is_row) := ⟨rfl, rfl, rfl, by decide +kernel, rfl, by decide +kernel, by decide +kernel⟩
abbrev st_Kitchen__pace : Stmt := inCls (topOf pw 18) 1
abbrev N_Kitchen__pace : List Str := ["self"]
abbrev p_Kitchen__pace : List Str := ["self"]
theorem S_Kitchen__pace : FnScope N_Kitchen__pace p_Kitchen__pace (defScope st_Kitchen__pace) := ⟨rfl, rfl, rfl, by decide +kernel, rfl, by decide +kernel, by decide +kernel⟩
abbrev st_judge_word : Stmt := topOf pw 6
abbrev N_judge_word : List Str := ["kitchen", "rows", "windows", "beat", "station"]
abbrev p_judge_word : List Str := ["kitchen", "rows"]
theorem S_judge_word : FnScope N_judge_word p_judge_word (defScope st_judge_word) := ⟨rfl, rfl, rfl, by decide +kernel, rfl, by decide +kernel, by decide +kernel⟩
abbrev st__law_judged : Stmt := topOf pw 34
abbrev N__law_judged : List Str := ["stock", "thing", "kitchen", "rows", "due", "given", "row", "other"]
abbrev p__law_judged : List Str := ["stock", "thing", "kitchen", "rows"]
theorem S__law_judged : FnScope N__law_judged p__law_judged (defScope st__law_judged) := ⟨rfl, rfl, rfl, by decide +kernel, rfl, by decide +kernel, by decide +kernel⟩
abbrev st_law : Stmt := topOf pw 39
abbrev N_law : List Str := ["script", "turn", "stock", "kitchen", "thing", "rows", "word", "words"]
abbrev p_law : List Str := ["script"]
theorem S_law : FnScope N_law p_law (defScope st_law) := ⟨rfl, rfl, rfl, by decide +kernel, rfl, by decide +kernel, by decide +kernel⟩
def CB : Nat → ME
  | _ => fun _ _ => .bad
def B__law_stock : MS := (sSeq (sSet 2 (mIf (mTst (mBin cLt (mVar 1) (mUn fLen (mVar 0)))) (mUn fInt (mBin itemU (mVar 0) (mVar 1))) (mBin oMul (mK (.int 31)) (mUn fSum (mComp (mFz (mSlice (mVar 0) oNo (oYes (mK (.int 4))))) (tdN 3) [3] mYes (mBin oMod (mUn fInt (mVar 3)) (mK (.int 1000003)))))))) (sSeq (sSet 4 (mBin oAdd (mBin oMul (mK (.int 2)) (mUn fAbs (mVar 2))) (mIf (mTst (mBin cLt (mVar 2) (mK (.int 0)))) (mK (.int 1)) (mK (.int 0))))) (sRet (mLst (aCons (mIf (mTst (mBin cGe (mVar 4) (mBin oPow (mK (.int 10)) (mK (.int 18))))) (mVarE 4) (mK (.int 0))) (aCons (mBin oMod (mUn fInt (mBin oAdd (mBin oAdd (mVar 4) (mBin oMul (mVar 1) (mK (.int 104729)))) (mK (.int 12345)))) (mK (.int 2147483629))) (aCons (mVarE 1) aNil)))))))
def F__law_stock : MF := fnM 5 B__law_stock
theorem d__law_stock {c : Cg} {P : Program} {w : World} {base : Heap} {k : Nat} {X : Cx} {W : WX} (C : Cc c P w base N__law_stock (defScope st__law_stock) (k + 1) X W) (Fn : ∀ y, X.fn y = true) (St : X.stack = X.env :: X.outer) (Fr : X.env.frame = some X.env.locals) (B : NoG c BL) : PSs X (defBody st__law_stock) (tS c W B__law_stock) :=
  (ss_cons (g_set (pu := false) C Fn 2 (e_if (t_cmp op_lt oLt_ok (b_var 1 (C.var 1)) (bC (g_len C B (bC (b_var 0 (C.var 0))))) (nomark _)) (g_int C B (c_ix C.eK (b_var 0 (C.var 0)) (bC (b_var 1 (C.var 1))) (fun _ _ => rfl))) (e_op C.mulR oMul_ok (eB e_int) (bC (g_sum C B (bC (g_comp C (own := [("one", 3)]) (eFz (e_slice C.eK (b_var 0 (C.var 0)) o_no (o_yes (bC e_int)))) (by decide +kernel) (tgN 3) (tgwN (by decide)) (blkI C rfl fun _ Y25 => (Y25.pgL 3)) (blkI C rfl fun _ Y25 => ts_nil) (blkI C rfl fun _ Y25 => (e_op op_mod oMod_ok (eB (g_int Y25 B (bC (b_var 3 (Y25.var 3))))) (bC e_int)))))))))) (ss_cons (g_set (pu := false) C Fn 4 (e_op C.addR oAdd_ok (eB (e_op C.mulR oMul_ok (eB e_int) (bC (g_abs C B (bC (b_var 2 (C.var 2))))))) (bC (e_if (t_cmp op_lt oLt_ok (b_var 2 (C.var 2)) (bC e_int) (nomark _)) e_int e_int)))) (ss_one (s_ret (pu := false) (e_lst (as_cons (e_if (t_cmp op_ge oLt_ok (b_var 4 (C.var 4)) (bC (e_op op_pow oPow_ok (eB e_int) (bC e_int))) (nomark _)) (e_var 4 (C.var 4)) e_int) (as_cons (e_op op_mod oMod_ok (eB (g_int C B (bC (e_op C.addR oAdd_ok (eB (e_op C.addR oAdd_ok (b_var 4 (C.var 4)) (bC (e_op C.mulR oMul_ok (b_var 1 (C.var 1)) (bC e_int))))) (bC e_int))))) (bC e_int)) (as_cons (e_var 1 (C.var 1)) as_nil))))))))
def B__law_draw : MS := (sSeq (sIf (mTst (mBin cGt (mBin oItem (mVar 0) (mK (.int 0))) (mK (.int 0)))) (sSeq (sSet 2 (mBin oMod (mUn fInt (mBin itemU (mVar 0) (mK (.int 0)))) (mVar 1))) (sSeq (sISet (pVar 0) (mK (.int 0)) (mBin oFdiv (mBin oItem (mVar 0) (mK (.int 0))) (mVar 1))) (sMove 2))) sPass) (sSeq (sIAug true (pVar 0) (mK (.int 2)) (fun i j => i + j) (mK (.int 1))) (sSeq (sISet (pVar 0) (mK (.int 1)) (mBin oMod (mUn fInt (mBin oAdd (mBin oMul (mBin oItem (mVar 0) (mK (.int 1))) (mK (.int 48271))) (mBin oMul (mBin oItem (mVar 0) (mK (.int 2))) (mK (.int 69621))))) (mK (.int 2147483647)))) (sRet (mBin oMod (mBin oFdiv (mBin oMod (mUn fInt (mBin oAdd (mBin oMul (mBin oItem (mVar 0) (mK (.int 1))) (mK (.int 16807))) (mBin oMul (mBin oItem (mVar 0) (mK (.int 2))) (mK (.int 7919))))) (mK (.int 2147483629))) (mK (.int 8))) (mVar 1))))))
def F__law_draw : MF := fnM 3 B__law_draw
theorem d__law_draw {c : Cg} {P : Program} {w : World} {base : Heap} {k : Nat} {X : Cx} {W : WX} (C : Cc c P w base N__law_draw (defScope st__law_draw) (k + 1) X W) (Fn : ∀ y, X.fn y = true) (St : X.stack = X.env :: X.outer) (Fr : X.env.frame = some X.env.locals) (B : NoG c BL) : PSs X (defBody st__law_draw) (tS c W B__law_draw) :=
  (ss_cons (s_if (pu := false) (t_cmp op_gt oLt_ok (eB (e_ix C.eK (b_var 0 (C.var 0)) (bC e_int) (fun _ _ => rfl))) (bC e_int) (nomark _)) (ss_cons (g_set (pu := false) C Fn 2 (e_op op_mod oMod_ok (eB (g_int C B (c_ix C.eK (b_var 0 (C.var 0)) (bC e_int) (fun _ _ => rfl)))) (bC (b_var 1 (C.var 1))))) (ss_cons (s_iset (pu := false) (p_var 0 (C.var 0)) (bC e_int) (stil_K _) (e_op op_fdiv oFdiv_ok (eB (e_ix C.eK (b_var 0 (C.var 0)) (bC e_int) (fun _ _ => rfl))) (bC (b_var 1 (C.var 1))))) (ss_one (s_move 2 (C.var 2))))) ss_nil) (ss_cons (s_iaug (pu := false) C.eK (f := true) (.inl rfl) ip_add (p_var 0 (C.var 0)) (bC e_int) (stil_K _) e_int) (ss_cons (s_iset (pu := false) (p_var 0 (C.var 0)) (bC e_int) (stil_K _) (e_op op_mod oMod_ok (eB (g_int C B (bC (e_op C.addR oAdd_ok (eB (e_op C.mulR oMul_ok (eB (e_ix C.eK (b_var 0 (C.var 0)) (bC e_int) (fun _ _ => rfl))) (bC e_int))) (bC (e_op C.mulR oMul_ok (eB (e_ix C.eK (b_var 0 (C.var 0)) (bC e_int) (fun _ _ => rfl))) (bC e_int))))))) (bC e_int))) (ss_one (s_ret (pu := false) (e_op op_mod oMod_ok (eB (e_op op_fdiv oFdiv_ok (eB (e_op op_mod oMod_ok (eB (g_int C B (bC (e_op C.addR oAdd_ok (eB (e_op C.mulR oMul_ok (eB (e_ix C.eK (b_var 0 (C.var 0)) (bC e_int) (fun _ _ => rfl))) (bC e_int))) (bC (e_op C.mulR oMul_ok (eB (e_ix C.eK (b_var 0 (C.var 0)) (bC e_int) (fun _ _ => rfl))) (bC e_int))))))) (bC e_int))) (bC e_int))) (bC (b_var 1 (C.var 1)))))))))
def B__law_built : MS := (sSeq (sSet 4 (mLst aNil)) (sSeq (sFor (mVarE 2) (tdN 5) (sSeq (sSet 6 (mBin fMax2 (mCall F__law_draw (aCons (mVarE 0) (aCons (mBin oAdd (mVar 3) (mK (.int 1))) aNil))) (mBin oSub (mK (.int 1)) (mBin itemU (mVar 5) (mK (.int 0)))))) (sApp true (pVar 4) (mTup (aCons (mBin fMax2 (mK (.int 0)) (mBin oAdd (mBin oItem (mVar 5) (mK (.int 1))) (mBin oMul (mVar 1) (mVar 6)))) (aCons (mBin oAdd (mBin oItem (mVar 5) (mK (.int 0))) (mVar 6)) (aCons (mVarE 6) aNil))))))) (sGh (gFz 4) (sRet (mTup (aCons (mVarE 1) (aCons (mVarE 4) aNil)))))))
def F__law_built : MF := fnM 7 B__law_built
theorem d__law_built {c : Cg} {P : Program} {w : World} {base : Heap} {k : Nat} {X : Cx} {W : WX} (C : Cc c P w base N__law_built (defScope st__law_built) (k + 1) X W) (Fn : ∀ y, X.fn y = true) (St : X.stack = X.env :: X.outer) (Fr : X.env.frame = some X.env.locals) (B : NoG c BL) (G__law_draw : Gd c P w base (k + 1) "_law_draw" 2 F__law_draw) : PSs X (defBody st__law_built) (tS c W B__law_built) :=
  (ss_cons (g_set (pu := false) C Fn 4 (e_lst as_nil)) (ss_cons (g_for (pu := false) C (e_var 2 (C.var 2)) (C.pgN Fn 5) (tgN 5) (ss_cons (g_set (pu := false) C Fn 6 (g_max2 C B (eB (g_call C G__law_draw (as_cons (e_var 0 (C.var 0)) (as_cons (e_op C.addR oAdd_ok (b_var 3 (C.var 3)) (bC e_int)) as_nil)) (argN_cons (argN_cons argN_nil)))) (bC (e_op op_sub oSub_ok (eB e_int) (c_ix C.eK (b_var 5 (C.var 5)) (bC e_int) (fun _ _ => rfl)))))) (ss_one (s_app (pu := false) (f := true) (.inl rfl) (p_var 4 (C.var 4)) (e_tup (as_cons (g_max2 C B (eB e_int) (bC (e_op C.addR oAdd_ok (eB (e_ix C.eK (b_var 5 (C.var 5)) (bC e_int) (fun _ _ => rfl))) (bC (e_op C.mulR oMul_ok (b_var 1 (C.var 1)) (bC (b_var 6 (C.var 6)))))))) (as_cons (e_op C.addR oAdd_ok (eB (e_ix C.eK (b_var 5 (C.var 5)) (bC e_int) (fun _ _ => rfl))) (bC (b_var 6 (C.var 6)))) (as_cons (e_var 6 (C.var 6)) as_nil)))))))) (ss_gh (gFz_ok 4) (ss_one (s_ret (pu := false) (e_tup (as_cons (e_var 1 (C.var 1)) (as_cons (e_var 4 (C.var 4)) as_nil))))))))
def B__law_far_words : MS := (sSeq (sSet 1 (mBin oAdd (mK (.int 13)) (mCall F__law_draw (aCons (mVarE 0) (aCons (mK (.int 48)) aNil))))) (sSeq (sSet 2 (mBin oAdd (mK (.int 1)) (mCall F__law_draw (aCons (mVarE 0) (aCons (mK (.int 2)) aNil))))) (sSeq (sSet 3 (mFz (mCall F__law_built (aCons (mVarE 0) (aCons (mK (.int 1)) (aCons (mFz (mLst (aCons (mTup (aCons (mVarE 1) (aCons (mVarE 2) aNil))) (aCons (mTup (aCons (mK (.int 0)) (aCons (mK (.int 2)) aNil))) aNil)))) (aCons (mK (.int 0)) aNil))))))) (sSeq (sSet 4 (mCall F__law_draw (aCons (mVarE 0) (aCons (mK (.int 3)) aNil)))) (sSeq (sSet 5 (mLst aNil)) (sSeq (sFor (mFz (mLst (aCons (mBin oSub (mBin oAdd (mVar 4) (mVar 1)) (mK (.int 1))) (aCons (mBin oAdd (mVar 4) (mVar 1)) aNil)))) (tdN 6) (sSeq (sSet 7 (mCompR (mK (.int 0)) (mBin oAdd (mVar 6) (mK (.int 1))) (tdN 8) [8] mYes (mTup (aCons (mK (.int 2)) aNil)))) (sSeq (sFor (mFz (mBin oAdd (mListR (mVar 4) (mBin oAdd (mVar 4) (mVar 2))) (mLst (aCons (mVarE 6) aNil)))) (tdN 9) (sISet (pVar 7) (mVarE 9) (mTup (aCons (mK (.int 1)) aNil)))) (sGh (gFz 7) (sApp true (pVar 5) (mVarE 7)))))) (sGh (gFz 5) (sRet (mTup (aCons (mVarE 3) (aCons (mVarE 5) aNil)))))))))))
def F__law_far_words : MF := fnM 10 B__law_far_words
theorem d__law_far_words {c : Cg} {P : Program} {w : World} {base : Heap} {k : Nat} {X : Cx} {W : WX} (C : Cc c P w base N__law_far_words (defScope st__law_far_words) (k + 1) X W) (Fn : ∀ y, X.fn y = true) (St : X.stack = X.env :: X.outer) (Fr : X.env.frame = some X.env.locals) (B : NoG c BL) (G__law_draw : Gd c P w base (k + 1) "_law_draw" 2 F__law_draw) (G__law_built : Gd c P w base (k + 1) "_law_built" 4 F__law_built) : PSs X (defBody st__law_far_words) (tS c W B__law_far_words) :=
  (ss_cons (g_set (pu := false) C Fn 1 (e_op C.addR oAdd_ok (eB e_int) (bC (g_call C G__law_draw (as_cons (e_var 0 (C.var 0)) (as_cons e_int as_nil)) (argN_cons (argN_cons argN_nil)))))) (ss_cons (g_set (pu := false) C Fn 2 (e_op C.addR oAdd_ok (eB e_int) (bC (g_call C G__law_draw (as_cons (e_var 0 (C.var 0)) (as_cons e_int as_nil)) (argN_cons (argN_cons argN_nil)))))) (ss_cons (g_set (pu := false) C Fn 3 (eFz (g_call C G__law_built (as_cons (e_var 0 (C.var 0)) (as_cons e_int (as_cons (eFz (e_lst (as_cons (e_tup (as_cons (e_var 1 (C.var 1)) (as_cons (e_var 2 (C.var 2)) as_nil))) (as_cons (e_tup (as_cons e_int (as_cons e_int as_nil))) as_nil)))) (as_cons e_int as_nil)))) (argN_cons (argN_cons (argN_cons (argN_cons argN_nil))))))) (ss_cons (g_set (pu := false) C Fn 4 (g_call C G__law_draw (as_cons (e_var 0 (C.var 0)) (as_cons e_int as_nil)) (argN_cons (argN_cons argN_nil)))) (ss_cons (g_set (pu := false) C Fn 5 (e_lst as_nil)) (ss_cons (g_for (pu := false) C (eFz (e_lst (as_cons (e_op op_sub oSub_ok (eB (e_op C.addR oAdd_ok (b_var 4 (C.var 4)) (bC (b_var 1 (C.var 1))))) (bC e_int)) (as_cons (e_op C.addR oAdd_ok (b_var 4 (C.var 4)) (bC (b_var 1 (C.var 1)))) as_nil)))) (C.pgN Fn 6) (tgN 6) (ss_cons (g_setCompR1 (pu := false) C B 7 (own := [("beat", 8)]) (bC (e_op C.addR oAdd_ok (b_var 6 (C.var 6)) (bC e_int))) (by decide +kernel) (tgN 8) (tgwN (by decide)) (blkI C rfl fun _ Y26 => (Y26.pgL 8)) (blkI C rfl fun _ Y26 => ts_nil) (blkI C rfl fun _ Y26 => (e_tup (as_cons e_int as_nil)))) (ss_cons (g_for (pu := false) C (eFz (e_op C.addR oAdd_ok (eB (g_listR2 C B (bC (b_var 4 (C.var 4))) (bC (e_op C.addR oAdd_ok (b_var 4 (C.var 4)) (bC (b_var 2 (C.var 2))))))) (bC (e_lst (as_cons (e_var 6 (C.var 6)) as_nil))))) (C.pgN Fn 9) (tgN 9) (ss_one (s_iset (pu := false) (p_var 7 (C.var 7)) (bC (e_var 9 (C.var 9))) (stil_varE _) (e_tup (as_cons e_int as_nil))))) (ss_gh (gFz_ok 7) (ss_one (s_app (pu := false) (f := true) (.inl rfl) (p_var 5 (C.var 5)) (e_var 7 (C.var 7)))))))) (ss_gh (gFz_ok 5) (ss_one (s_ret (pu := false) (e_tup (as_cons (e_var 3 (C.var 3)) (as_cons (e_var 5 (C.var 5)) as_nil))))))))))))
def B_full_rows : MS := (sRet (mComp (mVarE 0) (tdN 1) [1] (mTst (mBin (oEq false) (mUn fLen (mVar 1)) (mK (.int 3)))) (mVarE 1)))
def F_full_rows : MF := fnM 2 B_full_rows
theorem d_full_rows {c : Cg} {P : Program} {w : World} {base : Heap} {k : Nat} {X : Cx} {W : WX} (C : Cc c P w base N_full_rows (defScope st_full_rows) (k + 1) X W) (Fn : ∀ y, X.fn y = true) (St : X.stack = X.env :: X.outer) (Fr : X.env.frame = some X.env.locals) (B : NoG c BL) : PSs X (defBody st_full_rows) (tS c W B_full_rows) :=
  (ss_one (s_ret (pu := false) (g_comp C (own := [("row", 1)]) (e_var 0 (C.var 0)) (by decide +kernel) (tgN 1) (tgwN (by decide)) (blkI C rfl fun _ Y27 => (Y27.pgL 1)) (blkI C rfl fun _ Y27 => (ts_one (t_cmp Y27.eqR oEq_ok (eB (g_len Y27 B (bC (b_var 1 (Y27.var 1))))) (bC e_int) (nomark _)))) (blkI C rfl fun _ Y27 => (e_var 1 (Y27.var 1))))))
def B_check : MS := (sIf (mTst (mBin cGt (mVar 1) (mUn (tabGet tab_LIMITS) (mVar 0)))) (sRaise "TooMany" ["what"] (aCons (mVarE 0) aNil)) sPass)
def F_check : MF := fnM 2 B_check
theorem d_check {c : Cg} {P : Program} {w : World} {base : Heap} {k : Nat} {X : Cx} {W : WX} (C : Cc c P w base N_check (defScope st_check) (k + 1) X W) (Fn : ∀ y, X.fn y = true) (St : X.stack = X.env :: X.outer) (Fr : X.env.frame = some X.env.locals) (B : NoG c BL) (R_TooMany : Ra c P w base k "TooMany" ["what"]) {a_LIMITS : Addr} (m_LIMITS : c.mg "LIMITS" = some (.ref a_LIMITS)) (t_LIMITS : TabOk c w a_LIMITS tab_LIMITS) : PSs X (defBody st_check) (tS c W B_check) :=
  (ss_one (s_if (pu := false) (t_cmp op_gt oLt_ok (b_var 1 (C.var 1)) (bC (g_tab C m_LIMITS t_LIMITS (bC (b_var 0 (C.var 0))))) (nomark _)) (ss_one (g_raise C R_TooMany (as_cons (e_var 0 (C.var 0)) as_nil) (argN_cons argN_nil))) ss_nil))
def B_check_each : MS := (sFor (mVarE 1) (tdN 2) (sDrop (mCall F_check (aCons (mVarE 0) (aCons (mVarE 2) aNil)))))
def F_check_each : MF := fnM 3 B_check_each
theorem d_check_each {c : Cg} {P : Program} {w : World} {base : Heap} {k : Nat} {X : Cx} {W : WX} (C : Cc c P w base N_check_each (defScope st_check_each) (k + 1) X W) (Fn : ∀ y, X.fn y = true) (St : X.stack = X.env :: X.outer) (Fr : X.env.frame = some X.env.locals) (B : NoG c BL) (G_check : Gd c P w base (k + 1) "check" 2 F_check) : PSs X (defBody st_check_each) (tS c W B_check_each) :=
  (ss_one (g_for (pu := false) C (e_var 1 (C.var 1)) (C.pgN Fn 2) (tgN 2) (ss_one (s_drop (pu := false) (bC (g_call C G_check (as_cons (e_var 0 (C.var 0)) (as_cons (e_var 2 (C.var 2)) as_nil)) (argN_cons (argN_cons argN_nil))))))))
def B_check_rows : MS := (sSeq (sIf (mOr (mTst (mBin (oEq false) (mUn fLen (mVar 0)) (mK (.int 0)))) (mTst (mBin cLt (mUn fLen (mCall F_full_rows (aCons (mVarE 0) aNil))) (mUn fLen (mVar 0))))) (sRaise "BadKitchen" ["what", "station"] (aCons (mK (.str "stations")) (aCons (mK (.int 0)) aNil))) sPass) (sForR (mK (.int 0)) (mUn fLen (mVar 0)) (tdN 1) (sSeq (sIf (mTst (mBin cLt (mBin oItem (mBin oItem (mVar 0) (mVar 1)) (mK (.int 0))) (mK (.int 0)))) (sRaise "BadKitchen" ["what", "station"] (aCons (mK (.str "burners")) (aCons (mBin oAdd (mVar 1) (mK (.int 1))) aNil))) sPass) (sSeq (sIf (mTst (mBin cLt (mBin oItem (mBin oItem (mVar 0) (mVar 1)) (mK (.int 1))) (mK (.int 1)))) (sRaise "BadKitchen" ["what", "station"] (aCons (mK (.str "free")) (aCons (mBin oAdd (mVar 1) (mK (.int 1))) aNil))) sPass) (sIf (mTst (mBin cLt (mBin oItem (mBin oItem (mVar 0) (mVar 1)) (mK (.int 2))) (mK (.int 0)))) (sRaise "BadKitchen" ["what", "station"] (aCons (mK (.str "own")) (aCons (mBin oAdd (mVar 1) (mK (.int 1))) aNil))) sPass)))))
def F_check_rows : MF := fnM 2 B_check_rows
theorem d_check_rows {c : Cg} {P : Program} {w : World} {base : Heap} {k : Nat} {X : Cx} {W : WX} (C : Cc c P w base N_check_rows (defScope st_check_rows) (k + 1) X W) (Fn : ∀ y, X.fn y = true) (St : X.stack = X.env :: X.outer) (Fr : X.env.frame = some X.env.locals) (B : NoG c BL) (G_full_rows : Gd c P w base (k + 1) "full_rows" 1 F_full_rows) (R_BadKitchen : Ra c P w base k "BadKitchen" ["what", "station"]) : PSs X (defBody st_check_rows) (tS c W B_check_rows) :=
  (ss_cons (s_if (pu := false) (PW.pt (w_or (t_cmp C.eqR oEq_ok (eB (g_len C B (bC (b_var 0 (C.var 0))))) (bC e_int) (nomark _)) (w_or1 (t_cmp op_lt oLt_ok (eB (g_len C B (bC (g_call C G_full_rows (as_cons (e_var 0 (C.var 0)) as_nil) (argN_cons argN_nil))))) (bC (g_len C B (bC (b_var 0 (C.var 0))))) (nomark _))))) (ss_one (g_raise C R_BadKitchen (as_cons e_str (as_cons e_int as_nil)) (argN_cons (argN_cons argN_nil)))) ss_nil) (ss_one (g_forR1 (pu := false) C B (bC (g_len C B (bC (b_var 0 (C.var 0))))) (C.pgN Fn 1) (tgN 1) (ss_cons (s_if (pu := false) (t_cmp op_lt oLt_ok (eB (e_ix C.eK (eB (e_ix C.eK (b_var 0 (C.var 0)) (bC (b_var 1 (C.var 1))) (fun _ _ => rfl))) (bC e_int) (fun _ _ => rfl))) (bC e_int) (nomark _)) (ss_one (g_raise C R_BadKitchen (as_cons e_str (as_cons (e_op C.addR oAdd_ok (b_var 1 (C.var 1)) (bC e_int)) as_nil)) (argN_cons (argN_cons argN_nil)))) ss_nil) (ss_cons (s_if (pu := false) (t_cmp op_lt oLt_ok (eB (e_ix C.eK (eB (e_ix C.eK (b_var 0 (C.var 0)) (bC (b_var 1 (C.var 1))) (fun _ _ => rfl))) (bC e_int) (fun _ _ => rfl))) (bC e_int) (nomark _)) (ss_one (g_raise C R_BadKitchen (as_cons e_str (as_cons (e_op C.addR oAdd_ok (b_var 1 (C.var 1)) (bC e_int)) as_nil)) (argN_cons (argN_cons argN_nil)))) ss_nil) (ss_one (s_if (pu := false) (t_cmp op_lt oLt_ok (eB (e_ix C.eK (eB (e_ix C.eK (b_var 0 (C.var 0)) (bC (b_var 1 (C.var 1))) (fun _ _ => rfl))) (bC e_int) (fun _ _ => rfl))) (bC e_int) (nomark _)) (ss_one (g_raise C R_BadKitchen (as_cons e_str (as_cons (e_op C.addR oAdd_ok (b_var 1 (C.var 1)) (bC e_int)) as_nil)) (argN_cons (argN_cons argN_nil)))) ss_nil)))))))
def B_Kitchen____init__ : MS := (sSeq (sSet 3 (mFz (mCall F_full_rows (aCons (mVarE 2) aNil)))) (sSeq (sDrop (mCall F_check (aCons (mK (.str "stations")) (aCons (mUn fLen (mVar 2)) aNil)))) (sSeq (sDrop (mCall F_check_each (aCons (mK (.str "burners")) (aCons (mFz (mComp (mVarE 3) (tdN 4) [4] mYes (mBin oItem (mVar 4) (mK (.int 0))))) aNil)))) (sSeq (sDrop (mCall F_check_each (aCons (mK (.str "stays")) (aCons (mFz (mBin oAdd (mComp (mVarE 3) (tdN 4) [4] mYes (mBin oItem (mVar 4) (mK (.int 1)))) (mComp (mVarE 3) (tdN 4) [4] mYes (mBin oItem (mVar 4) (mK (.int 2)))))) aNil)))) (sSeq (sDrop (mCall F_check (aCons (mK (.str "pace")) (aCons (mVarE 1) aNil)))) (sSeq (sIf (mTst (mBin cLt (mVar 1) (mK (.int 1)))) (sRaise "BadKitchen" ["what", "station"] (aCons (mK (.str "pace")) (aCons (mK (.int 0)) aNil))) sPass) (sSeq (sDrop (mCall F_check_rows (aCons (mVarE 2) aNil))) (sSeq (sFSet AT 0 "pace_number" (mVarE 1)) (sFSet AT 0 "row_list" (mFz (mComp (mVarE 2) (tdN 4) [4] mYes (mTup (aCons (mBin oItem (mVar 4) (mK (.int 0))) (aCons (mBin oItem (mVar 4) (mK (.int 1))) (aCons (mBin oItem (mVar 4) (mK (.int 2))) aNil)))))))))))))))
def F_Kitchen____init__ : MF := fnM 5 B_Kitchen____init__
theorem d_Kitchen____init__ {c : Cg} {P : Program} {w : World} {base : Heap} {k : Nat} {X : Cx} {W : WX} (C : Cc c P w base N_Kitchen____init__ (defScope st_Kitchen____init__) (k + 1) X W) (Fn : ∀ y, X.fn y = true) (St : X.stack = X.env :: X.outer) (Fr : X.env.frame = some X.env.locals) (B : NoG c BL) (AA : AtOk c AT) (G_full_rows : Gd c P w base (k + 1) "full_rows" 1 F_full_rows) (G_check : Gd c P w base (k + 1) "check" 2 F_check) (G_check_each : Gd c P w base (k + 1) "check_each" 2 F_check_each) (G_check_rows : Gd c P w base (k + 1) "check_rows" 1 F_check_rows) (R_BadKitchen : Ra c P w base k "BadKitchen" ["what", "station"]) : PSs X (defBody st_Kitchen____init__) (tS c W B_Kitchen____init__) :=
  (ss_cons (g_set (pu := false) C Fn 3 (eFz (g_call C G_full_rows (as_cons (e_var 2 (C.var 2)) as_nil) (argN_cons argN_nil)))) (ss_cons (s_drop (pu := false) (bC (g_call C G_check (as_cons e_str (as_cons (g_len C B (bC (b_var 2 (C.var 2)))) as_nil)) (argN_cons (argN_cons argN_nil))))) (ss_cons (s_drop (pu := false) (bC (g_call C G_check_each (as_cons e_str (as_cons (eFz (g_comp C (own := [("row", 4)]) (e_var 3 (C.var 3)) (by decide +kernel) (tgN 4) (tgwN (by decide)) (blkI C rfl fun _ Y28 => (Y28.pgL 4)) (blkI C rfl fun _ Y28 => ts_nil) (blkI C rfl fun _ Y28 => (e_ix Y28.eK (b_var 4 (Y28.var 4)) (bC e_int) (fun _ _ => rfl))))) as_nil)) (argN_cons (argN_cons argN_nil))))) (ss_cons (s_drop (pu := false) (bC (g_call C G_check_each (as_cons e_str (as_cons (eFz (e_op C.addR oAdd_ok (eB (g_comp C (own := [("row", 4)]) (e_var 3 (C.var 3)) (by decide +kernel) (tgN 4) (tgwN (by decide)) (blkI C rfl fun _ Y29 => (Y29.pgL 4)) (blkI C rfl fun _ Y29 => ts_nil) (blkI C rfl fun _ Y29 => (e_ix Y29.eK (b_var 4 (Y29.var 4)) (bC e_int) (fun _ _ => rfl))))) (bC (g_comp C (own := [("row", 4)]) (e_var 3 (C.var 3)) (by decide +kernel) (tgN 4) (tgwN (by decide)) (blkI C rfl fun _ Y30 => (Y30.pgL 4)) (blkI C rfl fun _ Y30 => ts_nil) (blkI C rfl fun _ Y30 => (e_ix Y30.eK (b_var 4 (Y30.var 4)) (bC e_int) (fun _ _ => rfl))))))) as_nil)) (argN_cons (argN_cons argN_nil))))) (ss_cons (s_drop (pu := false) (bC (g_call C G_check (as_cons e_str (as_cons (e_var 1 (C.var 1)) as_nil)) (argN_cons (argN_cons argN_nil))))) (ss_cons (s_if (pu := false) (t_cmp op_lt oLt_ok (b_var 1 (C.var 1)) (bC e_int) (nomark _)) (ss_one (g_raise C R_BadKitchen (as_cons e_str (as_cons e_int as_nil)) (argN_cons (argN_cons argN_nil)))) ss_nil) (ss_cons (s_drop (pu := false) (bC (g_call C G_check_rows (as_cons (e_var 2 (C.var 2)) as_nil) (argN_cons argN_nil)))) (ss_cons (g_fset (pu := false) C AA 0 (f := "pace_number") (C.var 0) (e_var 1 (C.var 1))) (ss_one (g_fset (pu := false) C AA 0 (f := "row_list") (C.var 0) (eFz (g_comp C (own := [("row", 4)]) (e_var 2 (C.var 2)) (by decide +kernel) (tgN 4) (tgwN (by decide)) (blkI C rfl fun _ Y31 => (Y31.pgL 4)) (blkI C rfl fun _ Y31 => ts_nil) (blkI C rfl fun _ Y31 => (e_tup (as_cons (e_ix Y31.eK (b_var 4 (Y31.var 4)) (bC e_int) (fun _ _ => rfl)) (as_cons (e_ix Y31.eK (b_var 4 (Y31.var 4)) (bC e_int) (fun _ _ => rfl)) (as_cons (e_ix Y31.eK (b_var 4 (Y31.var 4)) (bC e_int) (fun _ _ => rfl)) as_nil)))))))))))))))))
def B__law_as_kitchen : MS := (sRet (mNew "Kitchen" F_Kitchen____init__ (aCons (mBin oItem (mVar 0) (mK (.int 0))) (aCons (mFz (mComp (mBin oItem (mVar 0) (mK (.int 1))) (tdN 1) [1] mYes (mUn fTuple (mVar 1)))) aNil))))
def F__law_as_kitchen : MF := fnM 2 B__law_as_kitchen
theorem d__law_as_kitchen {c : Cg} {P : Program} {w : World} {base : Heap} {k : Nat} {X : Cx} {W : WX} (C : Cc c P w base N__law_as_kitchen (defScope st__law_as_kitchen) (k + 1) X W) (Fn : ∀ y, X.fn y = true) (St : X.stack = X.env :: X.outer) (Fr : X.env.frame = some X.env.locals) (B : NoG c BL) (N_Kitchen : Gn c P w base k "Kitchen" 2 F_Kitchen____init__) : PSs X (defBody st__law_as_kitchen) (tS c W B__law_as_kitchen) :=
  (ss_one (s_ret (pu := false) (g_new C N_Kitchen (as_cons (e_ix C.eK (b_var 0 (C.var 0)) (bC e_int) (fun _ _ => rfl)) (as_cons (eFz (g_comp C (own := [("row", 1)]) (e_ix C.eK (b_var 0 (C.var 0)) (bC e_int) (fun _ _ => rfl)) (by decide +kernel) (tgN 1) (tgwN (by decide)) (blkI C rfl fun _ Y32 => (Y32.pgL 1)) (blkI C rfl fun _ Y32 => ts_nil) (blkI C rfl fun _ Y32 => (g_tuple Y32 B (bC (b_var 1 (Y32.var 1))))))) as_nil)) (argN_cons (argN_cons argN_nil)))))
def B__law_judge_world : MS := (sSeq (sSet 1 (mBin oAdd (mK (.int 1)) (mCall F__law_draw (aCons (mVarE 0) (aCons (mK (.int 4)) aNil))))) (sSeq (sSet 2 (mCompR (mK (.int 0)) (mVar 1) (tdN 3) [3] mYes (mTup (aCons (mBin oSub (mCall F__law_draw (aCons (mVarE 0) (aCons (mK (.int 8)) aNil))) (mK (.int 1))) (aCons (mCall F__law_draw (aCons (mVarE 0) (aCons (mK (.int 5)) aNil))) aNil))))) (sSeq (sIf (mTst (mBin (oEq false) (mCall F__law_draw (aCons (mVarE 0) (aCons (mK (.int 8)) aNil))) (mK (.int 0)))) (sISetE 2 (mCall F__law_draw (aCons (mVarE 0) (aCons (mVarE 1) aNil))) (mTup (aCons (mBin oAdd (mK (.int 1)) (mCall F__law_draw (aCons (mVarE 0) (aCons (mK (.int 5)) aNil)))) (aCons (mUn oNeg (mK (.int 1))) aNil)))) sPass) (sGh (gFz 2) (sRet (mCall F__law_built (aCons (mVarE 0) (aCons (mBin oAdd (mK (.int 1)) (mCall F__law_draw (aCons (mVarE 0) (aCons (mK (.int 3)) aNil)))) (aCons (mVarE 2) (aCons (mK (.int 3)) aNil))))))))))
def F__law_judge_world : MF := fnM 4 B__law_judge_world
theorem d__law_judge_world {c : Cg} {P : Program} {w : World} {base : Heap} {k : Nat} {X : Cx} {W : WX} (C : Cc c P w base N__law_judge_world (defScope st__law_judge_world) (k + 1) X W) (Fn : ∀ y, X.fn y = true) (St : X.stack = X.env :: X.outer) (Fr : X.env.frame = some X.env.locals) (B : NoG c BL) (G__law_draw : Gd c P w base (k + 1) "_law_draw" 2 F__law_draw) (G__law_built : Gd c P w base (k + 1) "_law_built" 4 F__law_built) : PSs X (defBody st__law_judge_world) (tS c W B__law_judge_world) :=
  (ss_cons (g_set (pu := false) C Fn 1 (e_op C.addR oAdd_ok (eB e_int) (bC (g_call C G__law_draw (as_cons (e_var 0 (C.var 0)) (as_cons e_int as_nil)) (argN_cons (argN_cons argN_nil)))))) (ss_cons (g_setCompR1 (pu := false) C B 2 (own := [("at", 3)]) (bC (b_var 1 (C.var 1))) (by decide +kernel) (tgN 3) (tgwN (by decide)) (blkI C rfl fun _ Y33 => (Y33.pgL 3)) (blkI C rfl fun _ Y33 => ts_nil) (blkI C rfl fun _ Y33 => (e_tup (as_cons (e_op op_sub oSub_ok (eB (g_call Y33 G__law_draw (as_cons (e_var 0 (Y33.var 0)) (as_cons e_int as_nil)) (argN_cons (argN_cons argN_nil)))) (bC e_int)) (as_cons (g_call Y33 G__law_draw (as_cons (e_var 0 (Y33.var 0)) (as_cons e_int as_nil)) (argN_cons (argN_cons argN_nil))) as_nil))))) (ss_cons (s_if (pu := false) (t_cmp C.eqR oEq_ok (eB (g_call C G__law_draw (as_cons (e_var 0 (C.var 0)) (as_cons e_int as_nil)) (argN_cons (argN_cons argN_nil)))) (bC e_int) (nomark _)) (ss_one (g_isetE (pu := false) C 2 (C.var 2) (bC (g_call C G__law_draw (as_cons (e_var 0 (C.var 0)) (as_cons (e_var 1 (C.var 1)) as_nil)) (argN_cons (argN_cons argN_nil)))) (e_tup (as_cons (e_op C.addR oAdd_ok (eB e_int) (bC (g_call C G__law_draw (as_cons (e_var 0 (C.var 0)) (as_cons e_int as_nil)) (argN_cons (argN_cons argN_nil))))) (as_cons (e_un un_neg oNeg_ok (bC e_int)) as_nil))))) ss_nil) (ss_gh (gFz_ok 2) (ss_one (s_ret (pu := false) (g_call C G__law_built (as_cons (e_var 0 (C.var 0)) (as_cons (e_op C.addR oAdd_ok (eB e_int) (bC (g_call C G__law_draw (as_cons (e_var 0 (C.var 0)) (as_cons e_int as_nil)) (argN_cons (argN_cons argN_nil))))) (as_cons (e_var 2 (C.var 2)) (as_cons e_int as_nil)))) (argN_cons (argN_cons (argN_cons (argN_cons argN_nil)))))))))))
def B__law_all_rows : MS := (sSeq (sSet 2 (mFz (mLst (aCons (mTup aNil) aNil)))) (sSeq (sForR (mK (.int 0)) (mVar 1) (tdN 3) (sSeq (sSet 4 (mLst aNil)) (sSeq (sFor (mVarE 2) (tdN 5) (sForR (mIf (mTst (mBin cGt (mUn fLen (mVar 5)) (mK (.int 0)))) (mBin oItem (mVar 5) (mUn oNeg (mK (.int 1)))) (mK (.int 1))) (mBin oAdd (mVar 0) (mK (.int 1))) (tdN 6) (sApp true (pVar 4) (mBin oAdd (mVar 5) (mTup (aCons (mVarE 6) aNil)))))) (sGh (gFz 4) (sSet 2 (mVarE 4)))))) (sMove 2)))
def F__law_all_rows : MF := fnM 7 B__law_all_rows
theorem d__law_all_rows {c : Cg} {P : Program} {w : World} {base : Heap} {k : Nat} {X : Cx} {W : WX} (C : Cc c P w base N__law_all_rows (defScope st__law_all_rows) (k + 1) X W) (Fn : ∀ y, X.fn y = true) (St : X.stack = X.env :: X.outer) (Fr : X.env.frame = some X.env.locals) (B : NoG c BL) : PSs X (defBody st__law_all_rows) (tS c W B__law_all_rows) :=
  (ss_cons (g_set (pu := false) C Fn 2 (eFz (e_lst (as_cons (e_tup as_nil) as_nil)))) (ss_cons (g_forR1 (pu := false) C B (bC (b_var 1 (C.var 1))) (C.pgN Fn 3) (tgN 3) (ss_cons (g_set (pu := false) C Fn 4 (e_lst as_nil)) (ss_cons (g_for (pu := false) C (e_var 2 (C.var 2)) (C.pgN Fn 5) (tgN 5) (ss_one (g_forR2 (pu := false) C B (bC (e_if (t_cmp op_gt oLt_ok (eB (g_len C B (bC (b_var 5 (C.var 5))))) (bC e_int) (nomark _)) (e_ix C.eK (b_var 5 (C.var 5)) (bC (e_un un_neg oNeg_ok (bC e_int))) (fun _ _ => rfl)) e_int)) (bC (e_op C.addR oAdd_ok (b_var 0 (C.var 0)) (bC e_int))) (C.pgN Fn 6) (tgN 6) (ss_one (s_app (pu := false) (f := true) (.inl rfl) (p_var 4 (C.var 4)) (e_op C.addR oAdd_ok (b_var 5 (C.var 5)) (bC (e_tup (as_cons (e_var 6 (C.var 6)) as_nil))))))))) (ss_gh (gFz_ok 4) (ss_one (g_set (pu := false) C Fn 2 (e_var 4 (C.var 4)))))))) (ss_one (s_move 2 (C.var 2)))))
def B__law_spares : MS := (sRet (mComp (mBin oItem (mVar 0) (mK (.int 1))) (tdN 1) [1] mYes (mBin oSub (mBin oItem (mVar 1) (mK (.int 0))) (mBin oMul (mBin oItem (mVar 0) (mK (.int 0))) (mBin itemU (mVar 1) (mK (.int 2)))))))
def F__law_spares : MF := fnM 2 B__law_spares
theorem d__law_spares {c : Cg} {P : Program} {w : World} {base : Heap} {k : Nat} {X : Cx} {W : WX} (C : Cc c P w base N__law_spares (defScope st__law_spares) (k + 1) X W) (Fn : ∀ y, X.fn y = true) (St : X.stack = X.env :: X.outer) (Fr : X.env.frame = some X.env.locals) (B : NoG c BL) : PSs X (defBody st__law_spares) (tS c W B__law_spares) :=
  (ss_one (s_ret (pu := false) (g_comp C (own := [("row", 1)]) (e_ix C.eK (b_var 0 (C.var 0)) (bC e_int) (fun _ _ => rfl)) (by decide +kernel) (tgN 1) (tgwN (by decide)) (blkI C rfl fun _ Y34 => (Y34.pgL 1)) (blkI C rfl fun _ Y34 => ts_nil) (blkI C rfl fun _ Y34 => (e_op op_sub oSub_ok (eB (e_ix Y34.eK (b_var 1 (Y34.var 1)) (bC e_int) (fun _ _ => rfl))) (bC (e_op Y34.mulR oMul_ok (eB (e_ix Y34.eK (b_var 0 (Y34.var 0)) (bC e_int) (fun _ _ => rfl))) (c_ix Y34.eK (b_var 1 (Y34.var 1)) (bC e_int) (fun _ _ => rfl)))))))))
def B__law_windows : MS := (sRet (mComp (mBin oItem (mVar 0) (mK (.int 1))) (tdN 1) [1] mYes (mBin oSub (mBin oItem (mVar 1) (mK (.int 1))) (mBin itemU (mVar 1) (mK (.int 2))))))
def F__law_windows : MF := fnM 2 B__law_windows
theorem d__law_windows {c : Cg} {P : Program} {w : World} {base : Heap} {k : Nat} {X : Cx} {W : WX} (C : Cc c P w base N__law_windows (defScope st__law_windows) (k + 1) X W) (Fn : ∀ y, X.fn y = true) (St : X.stack = X.env :: X.outer) (Fr : X.env.frame = some X.env.locals) (B : NoG c BL) : PSs X (defBody st__law_windows) (tS c W B__law_windows) :=
  (ss_one (s_ret (pu := false) (g_comp C (own := [("row", 1)]) (e_ix C.eK (b_var 0 (C.var 0)) (bC e_int) (fun _ _ => rfl)) (by decide +kernel) (tgN 1) (tgwN (by decide)) (blkI C rfl fun _ Y35 => (Y35.pgL 1)) (blkI C rfl fun _ Y35 => ts_nil) (blkI C rfl fun _ Y35 => (e_op op_sub oSub_ok (eB (e_ix Y35.eK (b_var 1 (Y35.var 1)) (bC e_int) (fun _ _ => rfl))) (c_ix Y35.eK (b_var 1 (Y35.var 1)) (bC e_int) (fun _ _ => rfl)))))))
def B__law_row_after : MS := (sSeq (sSet 4 (mFz (mCall F__law_spares (aCons (mVarE 0) aNil)))) (sSeq (sSet 5 (mFz (mCall F__law_windows (aCons (mVarE 0) aNil)))) (sSeq (sForR (mK (.int 0)) (mUn fLen (mVar 4)) (tdN 6) (sIf (mAnd (mTst (mBin cGe (mBin oItem (mVar 5) (mVar 6)) (mK (.int 1)))) (mTst (mBin (oIn false) (mBin oAdd (mVar 6) (mK (.int 1))) (mVar 3)))) (sSeq (sSet 7 (mFz (mBin oAdd (mUn fList (mSlice (mVar 1) (oYes (mBin fMax2 (mK (.int 0)) (mBin oAdd (mBin oSub (mUn fLen (mVar 1)) (mBin itemU (mVar 5) (mVar 6))) (mK (.int 1))))) oNo)) (mLst (aCons (mVarE 2) aNil))))) (sIf (mTst (mBin cGt (mUn fSum (mComp (mVarE 7) (tdN 9) [9] mYes (mUn fLen (mComp (mVarE 9) (tdN 8) [8] (mTst (mBin (oEq false) (mVar 8) (mBin oAdd (mVar 6) (mK (.int 1))))) (mVarE 8))))) (mBin itemU (mVar 4) (mVar 6)))) (sRet (mK (.bl false))) sPass)) sPass)) (sRet (mK (.bl true))))))
def F__law_row_after : MF := fnM 10 B__law_row_after
theorem d__law_row_after {c : Cg} {P : Program} {w : World} {base : Heap} {k : Nat} {X : Cx} {W : WX} (C : Cc c P w base N__law_row_after (defScope st__law_row_after) (k + 1) X W) (Fn : ∀ y, X.fn y = true) (St : X.stack = X.env :: X.outer) (Fr : X.env.frame = some X.env.locals) (B : NoG c BL) (G__law_spares : Gd c P w base (k + 1) "_law_spares" 1 F__law_spares) (G__law_windows : Gd c P w base (k + 1) "_law_windows" 1 F__law_windows) : PSs X (defBody st__law_row_after) (tS c W B__law_row_after) :=
  (ss_cons (g_set (pu := false) C Fn 4 (eFz (g_call C G__law_spares (as_cons (e_var 0 (C.var 0)) as_nil) (argN_cons argN_nil)))) (ss_cons (g_set (pu := false) C Fn 5 (eFz (g_call C G__law_windows (as_cons (e_var 0 (C.var 0)) as_nil) (argN_cons argN_nil)))) (ss_cons (g_forR1 (pu := false) C B (bC (g_len C B (bC (b_var 4 (C.var 4))))) (C.pgN Fn 6) (tgN 6) (ss_one (s_if (pu := false) (PW.pt (w_and (t_cmp op_ge oLt_ok (eB (e_ix C.eK (b_var 5 (C.var 5)) (bC (b_var 6 (C.var 6))) (fun _ _ => rfl))) (bC e_int) (nomark _)) (w_and1 (t_cmp C.inR oIn_ok (eB (e_op C.addR oAdd_ok (b_var 6 (C.var 6)) (bC e_int))) (bC (b_var 3 (C.var 3))) (by with_unfolding_all rfl))))) (ss_cons (g_set (pu := false) C Fn 7 (eFz (e_op C.addR oAdd_ok (eB (g_list C B (bC (e_slice C.eK (b_var 1 (C.var 1)) (o_yes (bC (g_max2 C B (eB e_int) (bC (e_op C.addR oAdd_ok (eB (e_op op_sub oSub_ok (eB (g_len C B (bC (b_var 1 (C.var 1))))) (c_ix C.eK (b_var 5 (C.var 5)) (bC (b_var 6 (C.var 6))) (fun _ _ => rfl)))) (bC e_int)))))) o_no)))) (bC (e_lst (as_cons (e_var 2 (C.var 2)) as_nil)))))) (ss_one (s_if (pu := false) (t_cmp op_gt oLt_ok (eB (g_sum C B (bC (g_comp C (own := [("held", 9)]) (e_var 7 (C.var 7)) (by decide +kernel) (tgN 9) (tgwN (by decide)) (blkI C rfl fun _ Y36 => (Y36.pgL 9)) (blkI C rfl fun _ Y36 => ts_nil) (blkI C rfl fun _ Y36 => (g_len Y36 B (bC (g_comp Y36 (own := [("one", 8)]) (e_var 9 (Y36.var 9)) (by decide +kernel) (tgN 8) (tgwN (by decide)) (blkI Y36 rfl fun _ Y37 => (Y37.pgL 8)) (blkI Y36 rfl fun _ Y37 => (ts_one (t_cmp Y37.eqR oEq_ok (b_var 8 (Y37.var 8)) (bC (e_op Y37.addR oAdd_ok (b_var 6 (Y37.var 6)) (bC e_int))) (nomark _)))) (blkI Y36 rfl fun _ Y37 => (e_var 8 (Y37.var 8))))))))))) (c_ix C.eK (b_var 4 (C.var 4)) (bC (b_var 6 (C.var 6))) (fun _ _ => rfl)) (nomark _)) (ss_one (s_ret (pu := false) e_bl)) ss_nil))) ss_nil))) (ss_one (s_ret (pu := false) e_bl)))))
def B__law_right_word : MS := (sSeq (sSet 3 (mFz (mCall F__law_all_rows (aCons (mUn fLen (mBin itemU (mVar 1) (mK (.int 1)))) (aCons (mBin oItem (mVar 1) (mK (.int 0))) aNil))))) (sSeq (sSet 4 (mFz (mListR (mK (.int 1)) (mBin oAdd (mUn fLen (mBin itemU (mVar 1) (mK (.int 1)))) (mK (.int 1)))))) (sSeq (sSet 5 (mLst aNil)) (sSeq (sForR (mK (.int 0)) (mVar 2) (tdN 6) (sSeq (sSet 7 (mComp (mVarE 3) (tdN 8) [8] (mTru (mCall F__law_row_after (aCons (mVarE 1) (aCons (mUn fTuple (mVar 5)) (aCons (mVarE 8) (aCons (mVarE 4) aNil)))))) (mVarE 8))) (sGh (gFz 7) (sSeq (sIf (mTst (mBin (oEq false) (mUn fLen (mVar 7)) (mK (.int 0)))) (sMove 5) sPass) (sApp true (pVar 5) (mBin oItem (mVar 7) (mCall F__law_draw (aCons (mVarE 0) (aCons (mUn fLen (mVar 7)) aNil))))))))) (sMove 5)))))
def F__law_right_word : MF := fnM 9 B__law_right_word
theorem d__law_right_word {c : Cg} {P : Program} {w : World} {base : Heap} {k : Nat} {X : Cx} {W : WX} (C : Cc c P w base N__law_right_word (defScope st__law_right_word) (k + 1) X W) (Fn : ∀ y, X.fn y = true) (St : X.stack = X.env :: X.outer) (Fr : X.env.frame = some X.env.locals) (B : NoG c BL) (G__law_all_rows : Gd c P w base (k + 1) "_law_all_rows" 2 F__law_all_rows) (G__law_row_after : Gd c P w base (k + 1) "_law_row_after" 4 F__law_row_after) (G__law_draw : Gd c P w base (k + 1) "_law_draw" 2 F__law_draw) : PSs X (defBody st__law_right_word) (tS c W B__law_right_word) :=
  (ss_cons (g_set (pu := false) C Fn 3 (eFz (g_call C G__law_all_rows (as_cons (g_len C B (c_ix C.eK (b_var 1 (C.var 1)) (bC e_int) (fun _ _ => rfl))) (as_cons (e_ix C.eK (b_var 1 (C.var 1)) (bC e_int) (fun _ _ => rfl)) as_nil)) (argN_cons (argN_cons argN_nil))))) (ss_cons (g_set (pu := false) C Fn 4 (eFz (g_listR2 C B (bC e_int) (bC (e_op C.addR oAdd_ok (eB (g_len C B (c_ix C.eK (b_var 1 (C.var 1)) (bC e_int) (fun _ _ => rfl)))) (bC e_int)))))) (ss_cons (g_set (pu := false) C Fn 5 (e_lst as_nil)) (ss_cons (g_forR1 (pu := false) C B (bC (b_var 2 (C.var 2))) (C.pgN Fn 6) (tgN 6) (ss_cons (g_setComp (pu := false) C 7 (own := [("row", 8)]) (e_var 3 (C.var 3)) (by decide +kernel) (tgN 8) (tgwN (by decide)) (blkI C rfl fun _ Y38 => (Y38.pgL 8)) (blkI C rfl fun _ Y38 => (ts_one (t_tru Y38.eK (bC (g_call Y38 G__law_row_after (as_cons (e_var 1 (Y38.var 1)) (as_cons (g_tuple Y38 B (bC (b_var 5 (Y38.var 5)))) (as_cons (e_var 8 (Y38.var 8)) (as_cons (e_var 4 (Y38.var 4)) as_nil)))) (argN_cons (argN_cons (argN_cons (argN_cons argN_nil)))))) (by intro _; rfl)))) (blkI C rfl fun _ Y38 => (e_var 8 (Y38.var 8)))) (ss_gh (gFz_ok 7) (ss_cons (s_if (pu := false) (t_cmp C.eqR oEq_ok (eB (g_len C B (bC (b_var 7 (C.var 7))))) (bC e_int) (nomark _)) (ss_one (s_move 5 (C.var 5))) ss_nil) (ss_one (s_app (pu := false) (f := true) (.inl rfl) (p_var 5 (C.var 5)) (e_ix C.eK (b_var 7 (C.var 7)) (bC (g_call C G__law_draw (as_cons (e_var 0 (C.var 0)) (as_cons (g_len C B (bC (b_var 7 (C.var 7)))) as_nil)) (argN_cons (argN_cons argN_nil)))) (fun _ _ => rfl)))))))) (ss_one (s_move 5 (C.var 5)))))))
def B__law_too_much : MS := (sSeq (sSet 2 (mFz (mListR (mK (.int 1)) (mBin oAdd (mUn fLen (mBin itemU (mVar 0) (mK (.int 1)))) (mK (.int 1)))))) (sSeq (sSet 3 (mFz (mCall F__law_all_rows (aCons (mUn fLen (mBin itemU (mVar 0) (mK (.int 1)))) (aCons (mBin oItem (mVar 0) (mK (.int 0))) aNil))))) (sRet (mComp (mVarE 3) (tdN 4) [4] (mNot (mTru (mCall F__law_row_after (aCons (mVarE 0) (aCons (mUn fTuple (mComp (mVarE 1) (tdN 5) [5] mYes (mUn fTuple (mVar 5)))) (aCons (mVarE 4) (aCons (mVarE 2) aNil))))))) (mVarE 4)))))
def F__law_too_much : MF := fnM 6 B__law_too_much
theorem d__law_too_much {c : Cg} {P : Program} {w : World} {base : Heap} {k : Nat} {X : Cx} {W : WX} (C : Cc c P w base N__law_too_much (defScope st__law_too_much) (k + 1) X W) (Fn : ∀ y, X.fn y = true) (St : X.stack = X.env :: X.outer) (Fr : X.env.frame = some X.env.locals) (B : NoG c BL) (G__law_all_rows : Gd c P w base (k + 1) "_law_all_rows" 2 F__law_all_rows) (G__law_row_after : Gd c P w base (k + 1) "_law_row_after" 4 F__law_row_after) : PSs X (defBody st__law_too_much) (tS c W B__law_too_much) :=
  (ss_cons (g_set (pu := false) C Fn 2 (eFz (g_listR2 C B (bC e_int) (bC (e_op C.addR oAdd_ok (eB (g_len C B (c_ix C.eK (b_var 0 (C.var 0)) (bC e_int) (fun _ _ => rfl)))) (bC e_int)))))) (ss_cons (g_set (pu := false) C Fn 3 (eFz (g_call C G__law_all_rows (as_cons (g_len C B (c_ix C.eK (b_var 0 (C.var 0)) (bC e_int) (fun _ _ => rfl))) (as_cons (e_ix C.eK (b_var 0 (C.var 0)) (bC e_int) (fun _ _ => rfl)) as_nil)) (argN_cons (argN_cons argN_nil))))) (ss_one (s_ret (pu := false) (g_comp C (own := [("row", 4)]) (e_var 3 (C.var 3)) (by decide +kernel) (tgN 4) (tgwN (by decide)) (blkI C rfl fun _ Y39 => (Y39.pgL 4)) (blkI C rfl fun _ Y39 => (ts_one (t_not (t_tru Y39.eK (bC (g_call Y39 G__law_row_after (as_cons (e_var 0 (Y39.var 0)) (as_cons (g_tuple Y39 B (bC (g_comp Y39 (own := [("one", 5)]) (e_var 1 (Y39.var 1)) (by decide +kernel) (tgN 5) (tgwN (by decide)) (blkI Y39 rfl fun _ Y40 => (Y40.pgL 5)) (blkI Y39 rfl fun _ Y40 => ts_nil) (blkI Y39 rfl fun _ Y40 => (g_tuple Y40 B (bC (b_var 5 (Y40.var 5)))))))) (as_cons (e_var 4 (Y39.var 4)) (as_cons (e_var 2 (Y39.var 2)) as_nil)))) (argN_cons (argN_cons (argN_cons (argN_cons argN_nil)))))) (by intro _; rfl))))) (blkI C rfl fun _ Y39 => (e_var 4 (Y39.var 4))))))))
def B__law_wrong_form : MS := (sSeq (sSet 3 (mUn fLen (mBin itemU (mVar 1) (mK (.int 1))))) (sSeq (sSet 4 (mCall F__law_draw (aCons (mVarE 0) (aCons (mK (.int 6)) aNil)))) (sSeq (sIf (mTst (mBin (oEq false) (mVar 4) (mK (.int 0)))) (sRet (mSlice (mUn fList (mVar 2)) (oYes (mK (.int 1))) oNo)) sPass) (sSeq (sIf (mTst (mBin (oEq false) (mVar 4) (mK (.int 1)))) (sRet (mBin oAdd (mUn fList (mVar 2)) (mLst (aCons (mVarE 3) aNil)))) sPass) (sSeq (sIf (mTst (mBin (oEq false) (mVar 4) (mK (.int 2)))) (sRet (mBin oAdd (mLst (aCons (mBin oSub (mK (.int 0)) (mCall F__law_draw (aCons (mVarE 0) (aCons (mK (.int 3)) aNil)))) aNil)) (mSlice (mUn fList (mVar 2)) (oYes (mK (.int 1))) oNo))) sPass) (sSeq (sIf (mTst (mBin (oEq false) (mVar 4) (mK (.int 3)))) (sRet (mBin oAdd (mSlice (mUn fList (mVar 2)) oNo (oYes (mUn oNeg (mK (.int 1))))) (mLst (aCons (mBin oAdd (mBin oAdd (mVar 3) (mK (.int 1))) (mCall F__law_draw (aCons (mVarE 0) (aCons (mK (.int 3)) aNil)))) aNil)))) sPass) (sSeq (sIf (mTst (mBin (oEq false) (mVar 4) (mK (.int 4)))) (sRet (mLst aNil)) sPass) (sRet (mIf (mAnd (mTst (mBin cGt (mBin oItem (mVar 1) (mK (.int 0))) (mK (.int 1)))) (mTst (mBin cGt (mVar 3) (mK (.int 1))))) (mBin oAdd (mSlice (mUn fList (mVar 2)) oNo (oYes (mUn oNeg (mK (.int 2))))) (mLst (aCons (mVarE 3) (aCons (mK (.int 1)) aNil)))) (mBin oAdd (mUn fList (mVar 2)) (mUn fList (mVar 2))))))))))))
def F__law_wrong_form : MF := fnM 5 B__law_wrong_form
theorem d__law_wrong_form {c : Cg} {P : Program} {w : World} {base : Heap} {k : Nat} {X : Cx} {W : WX} (C : Cc c P w base N__law_wrong_form (defScope st__law_wrong_form) (k + 1) X W) (Fn : ∀ y, X.fn y = true) (St : X.stack = X.env :: X.outer) (Fr : X.env.frame = some X.env.locals) (B : NoG c BL) (G__law_draw : Gd c P w base (k + 1) "_law_draw" 2 F__law_draw) : PSs X (defBody st__law_wrong_form) (tS c W B__law_wrong_form) :=
  (ss_cons (g_set (pu := false) C Fn 3 (g_len C B (c_ix C.eK (b_var 1 (C.var 1)) (bC e_int) (fun _ _ => rfl)))) (ss_cons (g_set (pu := false) C Fn 4 (g_call C G__law_draw (as_cons (e_var 0 (C.var 0)) (as_cons e_int as_nil)) (argN_cons (argN_cons argN_nil)))) (ss_cons (s_if (pu := false) (t_cmp C.eqR oEq_ok (b_var 4 (C.var 4)) (bC e_int) (nomark _)) (ss_one (s_ret (pu := false) (e_slice C.eK (eB (g_list C B (bC (b_var 2 (C.var 2))))) (o_yes (bC e_int)) o_no))) ss_nil) (ss_cons (s_if (pu := false) (t_cmp C.eqR oEq_ok (b_var 4 (C.var 4)) (bC e_int) (nomark _)) (ss_one (s_ret (pu := false) (e_op C.addR oAdd_ok (eB (g_list C B (bC (b_var 2 (C.var 2))))) (bC (e_lst (as_cons (e_var 3 (C.var 3)) as_nil)))))) ss_nil) (ss_cons (s_if (pu := false) (t_cmp C.eqR oEq_ok (b_var 4 (C.var 4)) (bC e_int) (nomark _)) (ss_one (s_ret (pu := false) (e_op C.addR oAdd_ok (eB (e_lst (as_cons (e_op op_sub oSub_ok (eB e_int) (bC (g_call C G__law_draw (as_cons (e_var 0 (C.var 0)) (as_cons e_int as_nil)) (argN_cons (argN_cons argN_nil))))) as_nil))) (bC (e_slice C.eK (eB (g_list C B (bC (b_var 2 (C.var 2))))) (o_yes (bC e_int)) o_no))))) ss_nil) (ss_cons (s_if (pu := false) (t_cmp C.eqR oEq_ok (b_var 4 (C.var 4)) (bC e_int) (nomark _)) (ss_one (s_ret (pu := false) (e_op C.addR oAdd_ok (eB (e_slice C.eK (eB (g_list C B (bC (b_var 2 (C.var 2))))) o_no (o_yes (bC (e_un un_neg oNeg_ok (bC e_int)))))) (bC (e_lst (as_cons (e_op C.addR oAdd_ok (eB (e_op C.addR oAdd_ok (b_var 3 (C.var 3)) (bC e_int))) (bC (g_call C G__law_draw (as_cons (e_var 0 (C.var 0)) (as_cons e_int as_nil)) (argN_cons (argN_cons argN_nil))))) as_nil)))))) ss_nil) (ss_cons (s_if (pu := false) (t_cmp C.eqR oEq_ok (b_var 4 (C.var 4)) (bC e_int) (nomark _)) (ss_one (s_ret (pu := false) (e_lst as_nil))) ss_nil) (ss_one (s_ret (pu := false) (e_if (PW.pt (w_and (t_cmp op_gt oLt_ok (eB (e_ix C.eK (b_var 1 (C.var 1)) (bC e_int) (fun _ _ => rfl))) (bC e_int) (nomark _)) (w_and1 (t_cmp op_gt oLt_ok (b_var 3 (C.var 3)) (bC e_int) (nomark _))))) (e_op C.addR oAdd_ok (eB (e_slice C.eK (eB (g_list C B (bC (b_var 2 (C.var 2))))) o_no (o_yes (bC (e_un un_neg oNeg_ok (bC e_int)))))) (bC (e_lst (as_cons (e_var 3 (C.var 3)) (as_cons e_int as_nil))))) (e_op C.addR oAdd_ok (eB (g_list C B (bC (b_var 2 (C.var 2))))) (bC (g_list C B (bC (b_var 2 (C.var 2))))))))))))))))
def B__law_bent_words : MS := (sSeq (sSet 3 (mLst (aCons (mVarE 2) aNil))) (sSeq (sIf (mTst (mBin cGt (mUn fLen (mVar 2)) (mK (.int 0)))) (sSeq (sSet 4 (mCall F__law_draw (aCons (mVarE 0) (aCons (mUn fLen (mVar 2)) aNil)))) (sSeq (sSet 5 (mUn fList (mBin itemU (mVar 2) (mVar 4)))) (sSeq (sISetE 5 (mCall F__law_draw (aCons (mVarE 0) (aCons (mUn fLen (mVar 5)) aNil))) (mBin oAdd (mK (.int 1)) (mCall F__law_draw (aCons (mVarE 0) (aCons (mUn fLen (mBin itemU (mVar 1) (mK (.int 1)))) aNil))))) (sSeq (sApp true (pVar 3) (mBin oAdd (mBin oAdd (mSlice (mVar 2) oNo (oYes (mVar 4))) (mLst (aCons (mUn fTuple (mUn fSorted (mVar 5))) aNil))) (mSlice (mVar 2) (oYes (mBin oAdd (mVar 4) (mK (.int 1)))) oNo))) (sSeq (sSet 4 (mBin oSub (mBin oSub (mUn fLen (mVar 2)) (mK (.int 1))) (mCall F__law_draw (aCons (mVarE 0) (aCons (mBin fMin2 (mK (.int 3)) (mUn fLen (mVar 2))) aNil))))) (sSeq (sSet 6 (mFz (mCall F__law_too_much (aCons (mVarE 1) (aCons (mFz (mSlice (mVar 2) oNo (oYes (mVar 4)))) aNil))))) (sSeq (sIf (mTst (mBin cGt (mUn fLen (mVar 6)) (mK (.int 0)))) (sApp true (pVar 3) (mBin oAdd (mBin oAdd (mSlice (mVar 2) oNo (oYes (mVar 4))) (mLst (aCons (mBin oItem (mVar 6) (mCall F__law_draw (aCons (mVarE 0) (aCons (mUn fLen (mVar 6)) aNil)))) aNil))) (mSlice (mVar 2) (oYes (mBin oAdd (mVar 4) (mK (.int 1)))) oNo))) sPass) (sSeq (sSet 4 (mCall F__law_draw (aCons (mVarE 0) (aCons (mUn fLen (mVar 2)) aNil)))) (sSeq (sSet 7 (mUn fTuple (mCall F__law_wrong_form (aCons (mVarE 0) (aCons (mVarE 1) (aCons (mBin oItem (mVar 2) (mVar 4)) aNil)))))) (sApp true (pVar 3) (mBin oAdd (mBin oAdd (mSlice (mVar 2) oNo (oYes (mVar 4))) (mLst (aCons (mVarE 7) aNil))) (mSlice (mVar 2) (oYes (mBin oAdd (mVar 4) (mK (.int 1)))) oNo)))))))))))) sPass) (sSeq (sSet 6 (mFz (mCall F__law_too_much (aCons (mVarE 1) (aCons (mVarE 2) aNil))))) (sSeq (sIf (mTst (mBin cGt (mUn fLen (mVar 6)) (mK (.int 0)))) (sApp true (pVar 3) (mBin oAdd (mVar 2) (mLst (aCons (mBin oItem (mVar 6) (mCall F__law_draw (aCons (mVarE 0) (aCons (mUn fLen (mVar 6)) aNil)))) aNil)))) sPass) (sSeq (sSet 8 (mFz (mCall F__law_all_rows (aCons (mUn fLen (mBin itemU (mVar 1) (mK (.int 1)))) (aCons (mBin oItem (mVar 1) (mK (.int 0))) aNil))))) (sSeq (sApp true (pVar 3) (mCompR (mK (.int 0)) (mK (.int 10)) (tdN 9) [9] mYes (mBin oItem (mVar 8) (mCall F__law_draw (aCons (mVarE 0) (aCons (mUn fLen (mVar 8)) aNil)))))) (sMove 3)))))))
def F__law_bent_words : MF := fnM 10 B__law_bent_words
theorem d__law_bent_words {c : Cg} {P : Program} {w : World} {base : Heap} {k : Nat} {X : Cx} {W : WX} (C : Cc c P w base N__law_bent_words (defScope st__law_bent_words) (k + 1) X W) (Fn : ∀ y, X.fn y = true) (St : X.stack = X.env :: X.outer) (Fr : X.env.frame = some X.env.locals) (B : NoG c BL) (G__law_draw : Gd c P w base (k + 1) "_law_draw" 2 F__law_draw) (G__law_too_much : Gd c P w base (k + 1) "_law_too_much" 2 F__law_too_much) (G__law_wrong_form : Gd c P w base (k + 1) "_law_wrong_form" 3 F__law_wrong_form) (G__law_all_rows : Gd c P w base (k + 1) "_law_all_rows" 2 F__law_all_rows) : PSs X (defBody st__law_bent_words) (tS c W B__law_bent_words) :=
  (ss_cons (g_set (pu := false) C Fn 3 (e_lst (as_cons (e_var 2 (C.var 2)) as_nil))) (ss_cons (s_if (pu := false) (t_cmp op_gt oLt_ok (eB (g_len C B (bC (b_var 2 (C.var 2))))) (bC e_int) (nomark _)) (ss_cons (g_set (pu := false) C Fn 4 (g_call C G__law_draw (as_cons (e_var 0 (C.var 0)) (as_cons (g_len C B (bC (b_var 2 (C.var 2)))) as_nil)) (argN_cons (argN_cons argN_nil)))) (ss_cons (g_set (pu := false) C Fn 5 (g_list C B (c_ix C.eK (b_var 2 (C.var 2)) (bC (b_var 4 (C.var 4))) (fun _ _ => rfl)))) (ss_cons (g_isetE (pu := false) C 5 (C.var 5) (bC (g_call C G__law_draw (as_cons (e_var 0 (C.var 0)) (as_cons (g_len C B (bC (b_var 5 (C.var 5)))) as_nil)) (argN_cons (argN_cons argN_nil)))) (e_op C.addR oAdd_ok (eB e_int) (bC (g_call C G__law_draw (as_cons (e_var 0 (C.var 0)) (as_cons (g_len C B (c_ix C.eK (b_var 1 (C.var 1)) (bC e_int) (fun _ _ => rfl))) as_nil)) (argN_cons (argN_cons argN_nil)))))) (ss_cons (s_app (pu := false) (f := true) (.inl rfl) (p_var 3 (C.var 3)) (e_op C.addR oAdd_ok (eB (e_op C.addR oAdd_ok (eB (e_slice C.eK (b_var 2 (C.var 2)) o_no (o_yes (bC (b_var 4 (C.var 4)))))) (bC (e_lst (as_cons (g_tuple C B (bC (g_sorted C B (bC (b_var 5 (C.var 5)))))) as_nil))))) (bC (e_slice C.eK (b_var 2 (C.var 2)) (o_yes (bC (e_op C.addR oAdd_ok (b_var 4 (C.var 4)) (bC e_int)))) o_no)))) (ss_cons (g_set (pu := false) C Fn 4 (e_op op_sub oSub_ok (eB (e_op op_sub oSub_ok (eB (g_len C B (bC (b_var 2 (C.var 2))))) (bC e_int))) (bC (g_call C G__law_draw (as_cons (e_var 0 (C.var 0)) (as_cons (g_min2 C B (eB e_int) (bC (g_len C B (bC (b_var 2 (C.var 2)))))) as_nil)) (argN_cons (argN_cons argN_nil)))))) (ss_cons (g_set (pu := false) C Fn 6 (eFz (g_call C G__law_too_much (as_cons (e_var 1 (C.var 1)) (as_cons (eFz (e_slice C.eK (b_var 2 (C.var 2)) o_no (o_yes (bC (b_var 4 (C.var 4)))))) as_nil)) (argN_cons (argN_cons argN_nil))))) (ss_cons (s_if (pu := false) (t_cmp op_gt oLt_ok (eB (g_len C B (bC (b_var 6 (C.var 6))))) (bC e_int) (nomark _)) (ss_one (s_app (pu := false) (f := true) (.inl rfl) (p_var 3 (C.var 3)) (e_op C.addR oAdd_ok (eB (e_op C.addR oAdd_ok (eB (e_slice C.eK (b_var 2 (C.var 2)) o_no (o_yes (bC (b_var 4 (C.var 4)))))) (bC (e_lst (as_cons (e_ix C.eK (b_var 6 (C.var 6)) (bC (g_call C G__law_draw (as_cons (e_var 0 (C.var 0)) (as_cons (g_len C B (bC (b_var 6 (C.var 6)))) as_nil)) (argN_cons (argN_cons argN_nil)))) (fun _ _ => rfl)) as_nil))))) (bC (e_slice C.eK (b_var 2 (C.var 2)) (o_yes (bC (e_op C.addR oAdd_ok (b_var 4 (C.var 4)) (bC e_int)))) o_no))))) ss_nil) (ss_cons (g_set (pu := false) C Fn 4 (g_call C G__law_draw (as_cons (e_var 0 (C.var 0)) (as_cons (g_len C B (bC (b_var 2 (C.var 2)))) as_nil)) (argN_cons (argN_cons argN_nil)))) (ss_cons (g_set (pu := false) C Fn 7 (g_tuple C B (bC (g_call C G__law_wrong_form (as_cons (e_var 0 (C.var 0)) (as_cons (e_var 1 (C.var 1)) (as_cons (e_ix C.eK (b_var 2 (C.var 2)) (bC (b_var 4 (C.var 4))) (fun _ _ => rfl)) as_nil))) (argN_cons (argN_cons (argN_cons argN_nil))))))) (ss_one (s_app (pu := false) (f := true) (.inl rfl) (p_var 3 (C.var 3)) (e_op C.addR oAdd_ok (eB (e_op C.addR oAdd_ok (eB (e_slice C.eK (b_var 2 (C.var 2)) o_no (o_yes (bC (b_var 4 (C.var 4)))))) (bC (e_lst (as_cons (e_var 7 (C.var 7)) as_nil))))) (bC (e_slice C.eK (b_var 2 (C.var 2)) (o_yes (bC (e_op C.addR oAdd_ok (b_var 4 (C.var 4)) (bC e_int)))) o_no)))))))))))))) ss_nil) (ss_cons (g_set (pu := false) C Fn 6 (eFz (g_call C G__law_too_much (as_cons (e_var 1 (C.var 1)) (as_cons (e_var 2 (C.var 2)) as_nil)) (argN_cons (argN_cons argN_nil))))) (ss_cons (s_if (pu := false) (t_cmp op_gt oLt_ok (eB (g_len C B (bC (b_var 6 (C.var 6))))) (bC e_int) (nomark _)) (ss_one (s_app (pu := false) (f := true) (.inl rfl) (p_var 3 (C.var 3)) (e_op C.addR oAdd_ok (b_var 2 (C.var 2)) (bC (e_lst (as_cons (e_ix C.eK (b_var 6 (C.var 6)) (bC (g_call C G__law_draw (as_cons (e_var 0 (C.var 0)) (as_cons (g_len C B (bC (b_var 6 (C.var 6)))) as_nil)) (argN_cons (argN_cons argN_nil)))) (fun _ _ => rfl)) as_nil)))))) ss_nil) (ss_cons (g_set (pu := false) C Fn 8 (eFz (g_call C G__law_all_rows (as_cons (g_len C B (c_ix C.eK (b_var 1 (C.var 1)) (bC e_int) (fun _ _ => rfl))) (as_cons (e_ix C.eK (b_var 1 (C.var 1)) (bC e_int) (fun _ _ => rfl)) as_nil)) (argN_cons (argN_cons argN_nil))))) (ss_cons (s_app (pu := false) (f := true) (.inl rfl) (p_var 3 (C.var 3)) (g_compR1 C B (own := [("turn", 9)]) (bC e_int) (by decide +kernel) (tgN 9) (tgwN (by decide)) (blkI C rfl fun _ Y41 => (Y41.pgL 9)) (blkI C rfl fun _ Y41 => ts_nil) (blkI C rfl fun _ Y41 => (e_ix Y41.eK (b_var 8 (Y41.var 8)) (bC (g_call Y41 G__law_draw (as_cons (e_var 0 (Y41.var 0)) (as_cons (g_len Y41 B (bC (b_var 8 (Y41.var 8)))) as_nil)) (argN_cons (argN_cons argN_nil)))) (fun _ _ => rfl))))) (ss_one (s_move 3 (C.var 3)))))))))
def B__law_entries : MS := (sRet (mUn fSum (mCompR (mBin fMax2 (mK (.int 1)) (mVar 2)) (mBin oAdd (mVar 3) (mK (.int 1))) (tdN 5) [5] mYes (mUn fLen (mComp (mBin oItem (mVar 0) (mBin oSub (mVar 5) (mK (.int 1)))) (tdN 4) [4] (mTst (mBin (oEq false) (mVar 4) (mVar 1))) (mVarE 4))))))
def F__law_entries : MF := fnM 6 B__law_entries
theorem d__law_entries {c : Cg} {P : Program} {w : World} {base : Heap} {k : Nat} {X : Cx} {W : WX} (C : Cc c P w base N__law_entries (defScope st__law_entries) (k + 1) X W) (Fn : ∀ y, X.fn y = true) (St : X.stack = X.env :: X.outer) (Fr : X.env.frame = some X.env.locals) (B : NoG c BL) : PSs X (defBody st__law_entries) (tS c W B__law_entries) :=
  (ss_one (s_ret (pu := false) (g_sum C B (bC (g_compR2 C B (own := [("beat", 5)]) (bC (g_max2 C B (eB e_int) (bC (b_var 2 (C.var 2))))) (bC (e_op C.addR oAdd_ok (b_var 3 (C.var 3)) (bC e_int))) (by decide +kernel) (tgN 5) (tgwN (by decide)) (blkI C rfl fun _ Y42 => (Y42.pgL 5)) (blkI C rfl fun _ Y42 => ts_nil) (blkI C rfl fun _ Y42 => (g_len Y42 B (bC (g_comp Y42 (own := [("one", 4)]) (e_ix Y42.eK (b_var 0 (Y42.var 0)) (bC (e_op op_sub oSub_ok (b_var 5 (Y42.var 5)) (bC e_int))) (fun _ _ => rfl)) (by decide +kernel) (tgN 4) (tgwN (by decide)) (blkI Y42 rfl fun _ Y43 => (Y43.pgL 4)) (blkI Y42 rfl fun _ Y43 => (ts_one (t_cmp Y43.eqR oEq_ok (b_var 4 (Y43.var 4)) (bC (b_var 1 (Y43.var 1))) (nomark _)))) (blkI Y42 rfl fun _ Y43 => (e_var 4 (Y43.var 4))))))))))))
def B__law_wrong_row : MS := (sSeq (sSet 2 (mFz (mCall F__law_spares (aCons (mVarE 0) aNil)))) (sSeq (sSet 3 (mFz (mCall F__law_windows (aCons (mVarE 0) aNil)))) (sSeq (sForR (mK (.int 1)) (mBin oAdd (mUn fLen (mVar 1)) (mK (.int 1))) (tdN 4) (sForR (mK (.int 0)) (mUn fLen (mVar 2)) (tdN 5) (sIf (mAnd (mTst (mBin cGe (mBin oItem (mVar 3) (mVar 5)) (mK (.int 1)))) (mTst (mBin cGt (mCall F__law_entries (aCons (mVarE 1) (aCons (mBin oAdd (mVar 5) (mK (.int 1))) (aCons (mBin oAdd (mBin oSub (mVar 4) (mBin itemU (mVar 3) (mVar 5))) (mK (.int 1))) (aCons (mVarE 4) aNil))))) (mBin itemU (mVar 2) (mVar 5))))) (sRet (mTup (aCons (mVarE 4) (aCons (mBin oAdd (mVar 5) (mK (.int 1))) aNil)))) sPass))) (sRet (mK .non)))))
def F__law_wrong_row : MF := fnM 6 B__law_wrong_row
theorem d__law_wrong_row {c : Cg} {P : Program} {w : World} {base : Heap} {k : Nat} {X : Cx} {W : WX} (C : Cc c P w base N__law_wrong_row (defScope st__law_wrong_row) (k + 1) X W) (Fn : ∀ y, X.fn y = true) (St : X.stack = X.env :: X.outer) (Fr : X.env.frame = some X.env.locals) (B : NoG c BL) (G__law_spares : Gd c P w base (k + 1) "_law_spares" 1 F__law_spares) (G__law_windows : Gd c P w base (k + 1) "_law_windows" 1 F__law_windows) (G__law_entries : Gd c P w base (k + 1) "_law_entries" 4 F__law_entries) : PSs X (defBody st__law_wrong_row) (tS c W B__law_wrong_row) :=
  (ss_cons (g_set (pu := false) C Fn 2 (eFz (g_call C G__law_spares (as_cons (e_var 0 (C.var 0)) as_nil) (argN_cons argN_nil)))) (ss_cons (g_set (pu := false) C Fn 3 (eFz (g_call C G__law_windows (as_cons (e_var 0 (C.var 0)) as_nil) (argN_cons argN_nil)))) (ss_cons (g_forR2 (pu := false) C B (bC e_int) (bC (e_op C.addR oAdd_ok (eB (g_len C B (bC (b_var 1 (C.var 1))))) (bC e_int))) (C.pgN Fn 4) (tgN 4) (ss_one (g_forR1 (pu := false) C B (bC (g_len C B (bC (b_var 2 (C.var 2))))) (C.pgN Fn 5) (tgN 5) (ss_one (s_if (pu := false) (PW.pt (w_and (t_cmp op_ge oLt_ok (eB (e_ix C.eK (b_var 3 (C.var 3)) (bC (b_var 5 (C.var 5))) (fun _ _ => rfl))) (bC e_int) (nomark _)) (w_and1 (t_cmp op_gt oLt_ok (eB (g_call C G__law_entries (as_cons (e_var 1 (C.var 1)) (as_cons (e_op C.addR oAdd_ok (b_var 5 (C.var 5)) (bC e_int)) (as_cons (e_op C.addR oAdd_ok (eB (e_op op_sub oSub_ok (b_var 4 (C.var 4)) (c_ix C.eK (b_var 3 (C.var 3)) (bC (b_var 5 (C.var 5))) (fun _ _ => rfl)))) (bC e_int)) (as_cons (e_var 4 (C.var 4)) as_nil)))) (argN_cons (argN_cons (argN_cons (argN_cons argN_nil)))))) (c_ix C.eK (b_var 2 (C.var 2)) (bC (b_var 5 (C.var 5))) (fun _ _ => rfl)) (nomark _))))) (ss_one (s_ret (pu := false) (e_tup (as_cons (e_var 4 (C.var 4)) (as_cons (e_op C.addR oAdd_ok (b_var 5 (C.var 5)) (bC e_int)) as_nil))))) ss_nil))))) (ss_one (s_ret (pu := false) e_non)))))
def B__law_word_fault : MS := (sSeq (sSet 2 (mK (.int 0))) (sSeq (sFor (mVarE 1) (tdN 3) (sSeq (sSet 4 (mK (.int 1))) (sSeq (sSet 5 (mBin (oEq false) (mUn fLen (mVar 3)) (mBin itemU (mVar 0) (mK (.int 0))))) (sSeq (sFor (mVarE 3) (tdN 6) (sSeq (sSet 5 (mAndV (mVarE 5) (mChain (fun i j => decide (i ≤ j)) (fun i j => decide (i ≤ j)) (mVar 4) (mVar 6) (mUn fLen (mBin itemU (mVar 0) (mK (.int 1))))))) (sSet 4 (mVarE 6)))) (sSeq (sIf (mNot (mTru (mVar 5))) sBrk sPass) (sAug 2 (fun i j => i + j) (mK (.int 1)))))))) (sSeq (sSet 7 (mFz (mCall F__law_wrong_row (aCons (mVarE 0) (aCons (mFz (mComp (mFz (mSlice (mVar 1) oNo (oYes (mVar 2)))) (tdN 3) [3] mYes (mUn fList (mVar 3)))) aNil))))) (sSeq (sIf (mTst (mBin oIsNot (mVar 7) (mK .non))) (sMove 7) sPass) (sRet (mIf (mTst (mBin cLt (mVar 2) (mUn fLen (mVar 1)))) (mTup (aCons (mBin oAdd (mVar 2) (mK (.int 1))) (aCons (mK (.int 0)) aNil))) (mK .non)))))))
def F__law_word_fault : MF := fnM 8 B__law_word_fault
theorem d__law_word_fault {c : Cg} {P : Program} {w : World} {base : Heap} {k : Nat} {X : Cx} {W : WX} (C : Cc c P w base N__law_word_fault (defScope st__law_word_fault) (k + 1) X W) (Fn : ∀ y, X.fn y = true) (St : X.stack = X.env :: X.outer) (Fr : X.env.frame = some X.env.locals) (B : NoG c BL) (G__law_wrong_row : Gd c P w base (k + 1) "_law_wrong_row" 2 F__law_wrong_row) : PSs X (defBody st__law_word_fault) (tS c W B__law_word_fault) :=
  (ss_cons (g_set (pu := false) C Fn 2 e_int) (ss_cons (g_for (pu := false) C (e_var 1 (C.var 1)) (C.pgN Fn 3) (tgN 3) (ss_cons (g_set (pu := false) C Fn 4 e_int) (ss_cons (g_set (pu := false) C Fn 5 (e_cmp C.eqR oEq_ok (eB (g_len C B (bC (b_var 3 (C.var 3))))) (c_ix C.eK (b_var 0 (C.var 0)) (bC e_int) (fun _ _ => rfl)) (nomark _))) (ss_cons (g_for (pu := false) C (e_var 3 (C.var 3)) (C.pgN Fn 6) (tgN 6) (ss_cons (g_set (pu := false) C Fn 5 (e_and C.eK (e_var 5 (C.var 5)) (e_one (e_chain op_le op_le (b_var 4 (C.var 4)) (b_var 6 (C.var 6)) (bC (g_len C B (c_ix C.eK (b_var 0 (C.var 0)) (bC e_int) (fun _ _ => rfl)))))))) (ss_one (g_set (pu := false) C Fn 4 (e_var 6 (C.var 6)))))) (ss_cons (s_if (pu := false) (t_not (t_tru C.eK (bC (b_var 5 (C.var 5))) (by intro _; rfl))) (ss_one s_brk) ss_nil) (ss_one (g_aug (pu := false) C Fn 2 ip_add (bC e_int)))))))) (ss_cons (g_set (pu := false) C Fn 7 (eFz (g_call C G__law_wrong_row (as_cons (e_var 0 (C.var 0)) (as_cons (eFz (g_comp C (own := [("row", 3)]) (eFz (e_slice C.eK (b_var 1 (C.var 1)) o_no (o_yes (bC (b_var 2 (C.var 2)))))) (by decide +kernel) (tgN 3) (tgwN (by decide)) (blkI C rfl fun _ Y44 => (Y44.pgL 3)) (blkI C rfl fun _ Y44 => ts_nil) (blkI C rfl fun _ Y44 => (g_list Y44 B (bC (b_var 3 (Y44.var 3))))))) as_nil)) (argN_cons (argN_cons argN_nil))))) (ss_cons (s_if (pu := false) (t_cmp op_notN oIsNot_ok (b_var 7 (C.var 7)) (bC e_non) (nomark _)) (ss_one (s_move 7 (C.var 7))) ss_nil) (ss_one (s_ret (pu := false) (e_if (t_cmp op_lt oLt_ok (b_var 2 (C.var 2)) (bC (g_len C B (bC (b_var 1 (C.var 1))))) (nomark _)) (e_tup (as_cons (e_op C.addR oAdd_ok (b_var 2 (C.var 2)) (bC e_int)) (as_cons e_int as_nil))) e_non)))))))
def B__law_matches (F : MF) : MS := (sSeq (sIf (mOr (mTst (mBin oIs (mVar 1) (mK .non))) (mTst (mBin oIs (mVar 0) (mK .non)))) (sRet (mAndV (mBin oIs (mVar 1) (mK .non)) (mBin oIs (mVar 0) (mK .non)))) sPass) (sSeq (sIf (mOr (mTru (mBin (fIsX exT) (mVar 1) (mK (.ty "bool")))) (mTru (mBin (fIsX exT) (mVar 0) (mK (.ty "bool"))))) (sRet (mAndV (mBin (fIsX exT) (mVar 1) (mK (.ty "bool"))) (mAndV (mBin (fIsX exT) (mVar 0) (mK (.ty "bool"))) (mBin (oEq false) (mVar 0) (mVar 1))))) sPass) (sSeq (sIf (mTru (mBin (fIsX exT) (mVar 1) (mK (.ty "int")))) (sRet (mAndV (mBin (fIsX exT) (mVar 0) (mK (.ty "int"))) (mBin (oEq false) (mVar 0) (mVar 1)))) sPass) (sSeq (sIf (mTru (mBin (fIsX exT) (mVar 1) (mK (.ty "str")))) (sRet (mAndV (mBin (fIsX exT) (mVar 0) (mK (.ty "str"))) (mBin (oEq false) (mVar 0) (mVar 1)))) sPass) (sSeq (sIf (mTru (mBin (fIsX exT) (mVar 1) (mK (.ty "dict")))) (sSeq (sIf (mOr (mNot (mTru (mBin (fIsX exT) (mVar 0) (mK (.ty "dict"))))) (mTst (mBin (oEq true) (mUn fLen (mVar 0)) (mUn fLen (mVar 1))))) (sRet (mK (.bl false))) sPass) (sSeq (sFor (mFz (mUn fList (mVar 1))) (tdN 2) (sIf (mOr (mTst (mBin (oIn true) (mVar 2) (mVar 0))) (mNot (mTru (mCall F (aCons (mBin oItem (mVar 0) (mVar 2)) (aCons (mBin oItem (mVar 1) (mVar 2)) aNil)))))) (sRet (mK (.bl false))) sPass)) (sRet (mK (.bl true))))) sPass) (sSeq (sIf (mAnd (mTru (mBin (fIsX exT) (mVar 1) (mK (.ty "tuple")))) (mNot (mTru (mBin (fIsX exT) (mVar 0) (mK (.ty "tuple")))))) (sRet (mK (.bl false))) sPass) (sSeq (sIf (mAnd (mTru (mBin (fIsX exT) (mVar 1) (mK (.ty "list")))) (mNot (mTru (mBin (fIsX exT) (mVar 0) (mK (.ty "list")))))) (sRet (mK (.bl false))) sPass) (sSeq (sIf (mTst (mBin (oEq true) (mUn fLen (mVar 0)) (mUn fLen (mVar 1)))) (sRet (mK (.bl false))) sPass) (sSeq (sForR (mK (.int 0)) (mUn fLen (mVar 1)) (tdN 3) (sIf (mNot (mTru (mCall F (aCons (mBin oItem (mVar 0) (mVar 3)) (aCons (mBin oItem (mVar 1) (mVar 3)) aNil))))) (sRet (mK (.bl false))) sPass)) (sRet (mK (.bl true))))))))))))
def F__law_matches_f : Nat → MF
  | 0 => fun _ _ => .bad
  | j + 1 => fnM 4 (B__law_matches (F__law_matches_f j))
def F__law_matches : MF := F__law_matches_f 6
theorem d__law_matches {c : Cg} {P : Program} {w : World} {base : Heap} {k : Nat} {X : Cx} {W : WX} (C : Cc c P w base N__law_matches (defScope st__law_matches) (k + 1) X W) (Fn : ∀ y, X.fn y = true) (St : X.stack = X.env :: X.outer) (Fr : X.env.frame = some X.env.locals) {F : MF} (B : NoG c BL) (hT : ExOk c.K c.mg exT) (G__law_matches : Gd c P w base (k + 1) "_law_matches" 2 F) : PSs X (defBody st__law_matches) (tS c W (B__law_matches F)) :=
  (ss_cons (s_if (pu := false) (PW.pt (w_or (t_cmp op_isN oIs_ok (b_var 1 (C.var 1)) (bC e_non) (nomark _)) (w_or1 (t_cmp op_isN oIs_ok (b_var 0 (C.var 0)) (bC e_non) (nomark _))))) (ss_one (s_ret (pu := false) (e_and C.eK (e_cmp op_isN oIs_ok (b_var 1 (C.var 1)) (bC e_non) (nomark _)) (e_one (e_cmp op_isN oIs_ok (b_var 0 (C.var 0)) (bC e_non) (nomark _)))))) ss_nil) (ss_cons (s_if (pu := false) (PW.pt (w_or (t_tru C.eK (bC (g_isi C B hT (b_var 1 (C.var 1)) (bC (g_ty C B (n := "bool") (by kernel_rfl))))) (by intro _; rfl)) (w_or1 (t_tru C.eK (bC (g_isi C B hT (b_var 0 (C.var 0)) (bC (g_ty C B (n := "bool") (by kernel_rfl))))) (by intro _; rfl))))) (ss_one (s_ret (pu := false) (e_and C.eK (g_isi C B hT (b_var 1 (C.var 1)) (bC (g_ty C B (n := "bool") (by kernel_rfl)))) (e_and C.eK (g_isi C B hT (b_var 0 (C.var 0)) (bC (g_ty C B (n := "bool") (by kernel_rfl)))) (e_one (e_cmp C.eqR oEq_ok (b_var 0 (C.var 0)) (bC (b_var 1 (C.var 1))) (nomark _))))))) ss_nil) (ss_cons (s_if (pu := false) (t_tru C.eK (bC (g_isi C B hT (b_var 1 (C.var 1)) (bC (g_ty C B (n := "int") (by kernel_rfl))))) (by intro _; rfl)) (ss_one (s_ret (pu := false) (e_and C.eK (g_isi C B hT (b_var 0 (C.var 0)) (bC (g_ty C B (n := "int") (by kernel_rfl)))) (e_one (e_cmp C.eqR oEq_ok (b_var 0 (C.var 0)) (bC (b_var 1 (C.var 1))) (nomark _)))))) ss_nil) (ss_cons (s_if (pu := false) (t_tru C.eK (bC (g_isi C B hT (b_var 1 (C.var 1)) (bC (g_ty C B (n := "str") (by kernel_rfl))))) (by intro _; rfl)) (ss_one (s_ret (pu := false) (e_and C.eK (g_isi C B hT (b_var 0 (C.var 0)) (bC (g_ty C B (n := "str") (by kernel_rfl)))) (e_one (e_cmp C.eqR oEq_ok (b_var 0 (C.var 0)) (bC (b_var 1 (C.var 1))) (nomark _)))))) ss_nil) (ss_cons (s_if (pu := false) (t_tru C.eK (bC (g_isi C B hT (b_var 1 (C.var 1)) (bC (g_ty C B (n := "dict") (by kernel_rfl))))) (by intro _; rfl)) (ss_cons (s_if (pu := false) (PW.pt (w_or (t_not (t_tru C.eK (bC (g_isi C B hT (b_var 0 (C.var 0)) (bC (g_ty C B (n := "dict") (by kernel_rfl))))) (by intro _; rfl))) (w_or1 (t_cmp C.neR oNe_ok (eB (g_len C B (bC (b_var 0 (C.var 0))))) (bC (g_len C B (bC (b_var 1 (C.var 1))))) (nomark _))))) (ss_one (s_ret (pu := false) e_bl)) ss_nil) (ss_cons (g_for (pu := false) C (eFz (g_list C B (bC (b_var 1 (C.var 1))))) (C.pgN Fn 2) (tgN 2) (ss_one (s_if (pu := false) (PW.pt (w_or (t_cmp C.niR oIn_ok (b_var 2 (C.var 2)) (bC (b_var 0 (C.var 0))) (by with_unfolding_all rfl)) (w_or1 (t_not (t_tru C.eK (bC (g_call C G__law_matches (as_cons (e_ix C.eK (b_var 0 (C.var 0)) (bC (b_var 2 (C.var 2))) (fun _ _ => rfl)) (as_cons (e_ix C.eK (b_var 1 (C.var 1)) (bC (b_var 2 (C.var 2))) (fun _ _ => rfl)) as_nil)) (argN_cons (argN_cons argN_nil)))) (by intro _; rfl)))))) (ss_one (s_ret (pu := false) e_bl)) ss_nil))) (ss_one (s_ret (pu := false) e_bl)))) ss_nil) (ss_cons (s_if (pu := false) (PW.pt (w_and (t_tru C.eK (bC (g_isi C B hT (b_var 1 (C.var 1)) (bC (g_ty C B (n := "tuple") (by kernel_rfl))))) (by intro _; rfl)) (w_and1 (t_not (t_tru C.eK (bC (g_isi C B hT (b_var 0 (C.var 0)) (bC (g_ty C B (n := "tuple") (by kernel_rfl))))) (by intro _; rfl)))))) (ss_one (s_ret (pu := false) e_bl)) ss_nil) (ss_cons (s_if (pu := false) (PW.pt (w_and (t_tru C.eK (bC (g_isi C B hT (b_var 1 (C.var 1)) (bC (g_ty C B (n := "list") (by kernel_rfl))))) (by intro _; rfl)) (w_and1 (t_not (t_tru C.eK (bC (g_isi C B hT (b_var 0 (C.var 0)) (bC (g_ty C B (n := "list") (by kernel_rfl))))) (by intro _; rfl)))))) (ss_one (s_ret (pu := false) e_bl)) ss_nil) (ss_cons (s_if (pu := false) (t_cmp C.neR oNe_ok (eB (g_len C B (bC (b_var 0 (C.var 0))))) (bC (g_len C B (bC (b_var 1 (C.var 1))))) (nomark _)) (ss_one (s_ret (pu := false) e_bl)) ss_nil) (ss_cons (g_forR1 (pu := false) C B (bC (g_len C B (bC (b_var 1 (C.var 1))))) (C.pgN Fn 3) (tgN 3) (ss_one (s_if (pu := false) (t_not (t_tru C.eK (bC (g_call C G__law_matches (as_cons (e_ix C.eK (b_var 0 (C.var 0)) (bC (b_var 3 (C.var 3))) (fun _ _ => rfl)) (as_cons (e_ix C.eK (b_var 1 (C.var 1)) (bC (b_var 3 (C.var 3))) (fun _ _ => rfl)) as_nil)) (argN_cons (argN_cons argN_nil)))) (by intro _; rfl))) (ss_one (s_ret (pu := false) e_bl)) ss_nil))) (ss_one (s_ret (pu := false) e_bl)))))))))))
def B_Kitchen__many : MS := (sRet (mUn fLen (mUn (fFld AT "row_list") (mVar 0))))
def F_Kitchen__many : MF := fnM 1 B_Kitchen__many
theorem d_Kitchen__many {c : Cg} {P : Program} {w : World} {base : Heap} {k : Nat} {X : Cx} {W : WX} (C : Cc c P w base N_Kitchen__many (defScope st_Kitchen__many) (k + 1) X W) (Fn : ∀ y, X.fn y = true) (St : X.stack = X.env :: X.outer) (Fr : X.env.frame = some X.env.locals) (B : NoG c BL) (AA : AtOk c AT) : PSs X (defBody st_Kitchen__many) (tS c W B_Kitchen__many) :=
  (ss_one (s_ret (pu := false) (g_len C B (bC (g_fld C AA (f := "row_list") (bC (b_var 0 (C.var 0))))))))
def B_Kitchen__check_station : MS := (sIf (mOr (mTst (mBin cLt (mVar 1) (mK (.int 1)))) (mTst (mBin cGt (mVar 1) (mUn fLen (mUn (fFld AT "row_list") (mVar 0)))))) (sRaise "BadKitchen" ["what", "station"] (aCons (mK (.str "station")) (aCons (mVarE 1) aNil))) sPass)
def F_Kitchen__check_station : MF := fnM 2 B_Kitchen__check_station
theorem d_Kitchen__check_station {c : Cg} {P : Program} {w : World} {base : Heap} {k : Nat} {X : Cx} {W : WX} (C : Cc c P w base N_Kitchen__check_station (defScope st_Kitchen__check_station) (k + 1) X W) (Fn : ∀ y, X.fn y = true) (St : X.stack = X.env :: X.outer) (Fr : X.env.frame = some X.env.locals) (B : NoG c BL) (AA : AtOk c AT) (R_BadKitchen : Ra c P w base k "BadKitchen" ["what", "station"]) : PSs X (defBody st_Kitchen__check_station) (tS c W B_Kitchen__check_station) :=
  (ss_one (s_if (pu := false) (PW.pt (w_or (t_cmp op_lt oLt_ok (b_var 1 (C.var 1)) (bC e_int) (nomark _)) (w_or1 (t_cmp op_gt oLt_ok (b_var 1 (C.var 1)) (bC (g_len C B (bC (g_fld C AA (f := "row_list") (bC (b_var 0 (C.var 0))))))) (nomark _))))) (ss_one (g_raise C R_BadKitchen (as_cons e_str (as_cons (e_var 1 (C.var 1)) as_nil)) (argN_cons (argN_cons argN_nil)))) ss_nil))
def B_Kitchen__window : MS := (sSeq (sDrop (mMeth "Kitchen" "check_station" F_Kitchen__check_station (mVarE 0) (aCons (mVarE 1) aNil))) (sSeq (sSet 2 (mBin oItem (mUn (fFld AT "row_list") (mVar 0)) (mBin oSub (mVar 1) (mK (.int 1))))) (sRet (mBin oSub (mBin oItem (mVar 2) (mK (.int 1))) (mBin itemU (mVar 2) (mK (.int 2)))))))
def F_Kitchen__window : MF := fnM 3 B_Kitchen__window
theorem d_Kitchen__window {c : Cg} {P : Program} {w : World} {base : Heap} {k : Nat} {X : Cx} {W : WX} (C : Cc c P w base N_Kitchen__window (defScope st_Kitchen__window) (k + 1) X W) (Fn : ∀ y, X.fn y = true) (St : X.stack = X.env :: X.outer) (Fr : X.env.frame = some X.env.locals) (B : NoG c BL) (AA : AtOk c AT) (M_Kitchen__check_station : Gm c P w base (k + 1) "Kitchen" "check_station" 1 F_Kitchen__check_station) : PSs X (defBody st_Kitchen__window) (tS c W B_Kitchen__window) :=
  (ss_cons (s_drop (pu := false) (bC (g_meth C M_Kitchen__check_station (e_var 0 (C.var 0)) (as_cons (e_var 1 (C.var 1)) as_nil) (argN_cons argN_nil)))) (ss_cons (g_set (pu := false) C Fn 2 (e_ix C.eK (eB (g_fld C AA (f := "row_list") (bC (b_var 0 (C.var 0))))) (bC (e_op op_sub oSub_ok (b_var 1 (C.var 1)) (bC e_int))) (fun _ _ => rfl))) (ss_one (s_ret (pu := false) (e_op op_sub oSub_ok (eB (e_ix C.eK (b_var 2 (C.var 2)) (bC e_int) (fun _ _ => rfl))) (c_ix C.eK (b_var 2 (C.var 2)) (bC e_int) (fun _ _ => rfl)))))))
def B_Kitchen__spare : MS := (sSeq (sDrop (mMeth "Kitchen" "check_station" F_Kitchen__check_station (mVarE 0) (aCons (mVarE 1) aNil))) (sSeq (sSet 2 (mBin oItem (mUn (fFld AT "row_list") (mVar 0)) (mBin oSub (mVar 1) (mK (.int 1))))) (sRet (mBin oSub (mBin oItem (mVar 2) (mK (.int 0))) (mBin oMul (mUn (fFld AT "pace_number") (mVar 0)) (mBin itemU (mVar 2) (mK (.int 2))))))))
def F_Kitchen__spare : MF := fnM 3 B_Kitchen__spare
theorem d_Kitchen__spare {c : Cg} {P : Program} {w : World} {base : Heap} {k : Nat} {X : Cx} {W : WX} (C : Cc c P w base N_Kitchen__spare (defScope st_Kitchen__spare) (k + 1) X W) (Fn : ∀ y, X.fn y = true) (St : X.stack = X.env :: X.outer) (Fr : X.env.frame = some X.env.locals) (B : NoG c BL) (AA : AtOk c AT) (M_Kitchen__check_station : Gm c P w base (k + 1) "Kitchen" "check_station" 1 F_Kitchen__check_station) : PSs X (defBody st_Kitchen__spare) (tS c W B_Kitchen__spare) :=
  (ss_cons (s_drop (pu := false) (bC (g_meth C M_Kitchen__check_station (e_var 0 (C.var 0)) (as_cons (e_var 1 (C.var 1)) as_nil) (argN_cons argN_nil)))) (ss_cons (g_set (pu := false) C Fn 2 (e_ix C.eK (eB (g_fld C AA (f := "row_list") (bC (b_var 0 (C.var 0))))) (bC (e_op op_sub oSub_ok (b_var 1 (C.var 1)) (bC e_int))) (fun _ _ => rfl))) (ss_one (s_ret (pu := false) (e_op op_sub oSub_ok (eB (e_ix C.eK (b_var 2 (C.var 2)) (bC e_int) (fun _ _ => rfl))) (bC (e_op C.mulR oMul_ok (eB (g_fld C AA (f := "pace_number") (bC (b_var 0 (C.var 0))))) (c_ix C.eK (b_var 2 (C.var 2)) (bC e_int) (fun _ _ => rfl)))))))))
def B_windows_of : MS := (sSeq (sSet 1 (mLst aNil)) (sSeq (sForR (mK (.int 1)) (mBin oAdd (mMeth "Kitchen" "many" F_Kitchen__many (mVarE 0) aNil) (mK (.int 1))) (tdN 2) (sIf (mTst (mBin cGe (mMeth "Kitchen" "window" F_Kitchen__window (mVarE 0) (aCons (mVarE 2) aNil)) (mK (.int 1)))) (sApp true (pVar 1) (mTup (aCons (mVarE 2) (aCons (mMeth "Kitchen" "window" F_Kitchen__window (mVarE 0) (aCons (mVarE 2) aNil)) (aCons (mMeth "Kitchen" "spare" F_Kitchen__spare (mVarE 0) (aCons (mVarE 2) aNil)) aNil))))) sPass)) (sMove 1)))
def F_windows_of : MF := fnM 3 B_windows_of
theorem d_windows_of {c : Cg} {P : Program} {w : World} {base : Heap} {k : Nat} {X : Cx} {W : WX} (C : Cc c P w base N_windows_of (defScope st_windows_of) (k + 1) X W) (Fn : ∀ y, X.fn y = true) (St : X.stack = X.env :: X.outer) (Fr : X.env.frame = some X.env.locals) (B : NoG c BL) (M_Kitchen__window : Gm c P w base (k + 1) "Kitchen" "window" 1 F_Kitchen__window) (M_Kitchen__spare : Gm c P w base (k + 1) "Kitchen" "spare" 1 F_Kitchen__spare) (M_Kitchen__many : Gm c P w base (k + 1) "Kitchen" "many" 0 F_Kitchen__many) : PSs X (defBody st_windows_of) (tS c W B_windows_of) :=
  (ss_cons (g_set (pu := false) C Fn 1 (e_lst as_nil)) (ss_cons (g_forR2 (pu := false) C B (bC e_int) (bC (e_op C.addR oAdd_ok (eB (g_meth0 C M_Kitchen__many (e_var 0 (C.var 0)))) (bC e_int))) (C.pgN Fn 2) (tgN 2) (ss_one (s_if (pu := false) (t_cmp op_ge oLt_ok (eB (g_meth C M_Kitchen__window (e_var 0 (C.var 0)) (as_cons (e_var 2 (C.var 2)) as_nil) (argN_cons argN_nil))) (bC e_int) (nomark _)) (ss_one (s_app (pu := false) (f := true) (.inl rfl) (p_var 1 (C.var 1)) (e_tup (as_cons (e_var 2 (C.var 2)) (as_cons (g_meth C M_Kitchen__window (e_var 0 (C.var 0)) (as_cons (e_var 2 (C.var 2)) as_nil) (argN_cons argN_nil)) (as_cons (g_meth C M_Kitchen__spare (e_var 0 (C.var 0)) (as_cons (e_var 2 (C.var 2)) as_nil) (argN_cons argN_nil)) as_nil)))))) ss_nil))) (ss_one (s_move 1 (C.var 1)))))
def B_full_station : MS := (sSeq (sFor (mVarE 0) (tdT 3 (tdCons (tdN 3) (tdCons (tdN 4) (tdCons (tdN 5) tdNil)))) (sSeq (sSet 6 (mFz (mSlice (mVar 1) (oYes (mBin fMax2 (mK (.int 0)) (mBin oSub (mVar 2) (mVar 4)))) (oYes (mVar 2))))) (sIf (mTst (mBin cGt (mUn fSum (mComp (mVarE 6) (tdN 7) [7] mYes (mCnt (mUn fList (mVar 7)) (mVar 3)))) (mVar 5))) (sMove 3) sPass))) (sRet (mK (.int 0))))
def F_full_station : MF := fnM 8 B_full_station
theorem d_full_station {c : Cg} {P : Program} {w : World} {base : Heap} {k : Nat} {X : Cx} {W : WX} (C : Cc c P w base N_full_station (defScope st_full_station) (k + 1) X W) (Fn : ∀ y, X.fn y = true) (St : X.stack = X.env :: X.outer) (Fr : X.env.frame = some X.env.locals) (B : NoG c BL) : PSs X (defBody st_full_station) (tS c W B_full_station) :=
  (ss_cons (g_for (pu := false) C (e_var 0 (C.var 0)) (C.pgT (pgs_cons (C.pgN Fn 3) (pgs_cons (C.pgN Fn 4) (pgs_cons (C.pgN Fn 5) pgs_nil)))) (tgT (n := 3) (tgsCons (tgN 3) (tgsCons (tgN 4) (tgsCons (tgN 5) tgsNil)))) (ss_cons (g_set (pu := false) C Fn 6 (eFz (e_slice C.eK (b_var 1 (C.var 1)) (o_yes (bC (g_max2 C B (eB e_int) (bC (e_op op_sub oSub_ok (b_var 2 (C.var 2)) (bC (b_var 4 (C.var 4)))))))) (o_yes (bC (b_var 2 (C.var 2))))))) (ss_one (s_if (pu := false) (t_cmp op_gt oLt_ok (eB (g_sum C B (bC (g_comp C (own := [("row", 7)]) (e_var 6 (C.var 6)) (by decide +kernel) (tgN 7) (tgwN (by decide)) (blkI C rfl fun _ Y45 => (Y45.pgL 7)) (blkI C rfl fun _ Y45 => ts_nil) (blkI C rfl fun _ Y45 => (g_count Y45 (eB (g_list Y45 B (bC (b_var 7 (Y45.var 7))))) (bC (b_var 3 (Y45.var 3))))))))) (bC (b_var 5 (C.var 5))) (nomark _)) (ss_one (s_move 3 (C.var 3))) ss_nil)))) (ss_one (s_ret (pu := false) e_int)))
def B_is_row : MS := (sSeq (sIf (mTst (mBin (oEq true) (mUn fLen (mVar 0)) (mVar 1))) (sRet (mK (.bl false))) sPass) (sSeq (sSet 3 (mK (.int 1))) (sSeq (sFor (mVarE 0) (tdN 4) (sSeq (sIf (mOr (mTst (mBin cLt (mVar 4) (mVar 3))) (mTst (mBin cGt (mVar 4) (mVar 2)))) (sRet (mK (.bl false))) sPass) (sSet 3 (mVarE 4)))) (sRet (mK (.bl true))))))
def F_is_row : MF := fnM 5 B_is_row
theorem d_is_row {c : Cg} {P : Program} {w : World} {base : Heap} {k : Nat} {X : Cx} {W : WX} (C : Cc c P w base N_is_row (defScope st_is_row) (k + 1) X W) (Fn : ∀ y, X.fn y = true) (St : X.stack = X.env :: X.outer) (Fr : X.env.frame = some X.env.locals) (B : NoG c BL) : PSs X (defBody st_is_row) (tS c W B_is_row) :=
  (ss_cons (s_if (pu := false) (t_cmp C.neR oNe_ok (eB (g_len C B (bC (b_var 0 (C.var 0))))) (bC (b_var 1 (C.var 1))) (nomark _)) (ss_one (s_ret (pu := false) e_bl)) ss_nil) (ss_cons (g_set (pu := false) C Fn 3 e_int) (ss_cons (g_for (pu := false) C (e_var 0 (C.var 0)) (C.pgN Fn 4) (tgN 4) (ss_cons (s_if (pu := false) (PW.pt (w_or (t_cmp op_lt oLt_ok (b_var 4 (C.var 4)) (bC (b_var 3 (C.var 3))) (nomark _)) (w_or1 (t_cmp op_gt oLt_ok (b_var 4 (C.var 4)) (bC (b_var 2 (C.var 2))) (nomark _))))) (ss_one (s_ret (pu := false) e_bl)) ss_nil) (ss_one (g_set (pu := false) C Fn 3 (e_var 4 (C.var 4)))))) (ss_one (s_ret (pu := false) e_bl)))))
def B_Kitchen__pace : MS := (sRet (mUn (fFld AT "pace_number") (mVar 0)))
def F_Kitchen__pace : MF := fnM 1 B_Kitchen__pace
theorem d_Kitchen__pace {c : Cg} {P : Program} {w : World} {base : Heap} {k : Nat} {X : Cx} {W : WX} (C : Cc c P w base N_Kitchen__pace (defScope st_Kitchen__pace) (k + 1) X W) (Fn : ∀ y, X.fn y = true) (St : X.stack = X.env :: X.outer) (Fr : X.env.frame = some X.env.locals) (B : NoG c BL) (AA : AtOk c AT) : PSs X (defBody st_Kitchen__pace) (tS c W B_Kitchen__pace) :=
  (ss_one (s_ret (pu := false) (g_fld C AA (f := "pace_number") (bC (b_var 0 (C.var 0))))))
def B_judge_word : MS := (sSeq (sSet 2 (mFz (mCall F_windows_of (aCons (mVarE 0) aNil)))) (sSeq (sForR (mK (.int 1)) (mBin oAdd (mUn fLen (mVar 1)) (mK (.int 1))) (tdN 3) (sSeq (sIf (mNot (mTru (mCall F_is_row (aCons (mBin oItem (mVar 1) (mBin oSub (mVar 3) (mK (.int 1)))) (aCons (mMeth "Kitchen" "pace" F_Kitchen__pace (mVarE 0) aNil) (aCons (mMeth "Kitchen" "many" F_Kitchen__many (mVarE 0) aNil) aNil)))))) (sRet (mTup (aCons (mVarE 3) (aCons (mK (.int 0)) aNil)))) sPass) (sSeq (sSet 4 (mCall F_full_station (aCons (mVarE 2) (aCons (mVarE 1) (aCons (mVarE 3) aNil))))) (sIf (mTst (mBin cGt (mVar 4) (mK (.int 0)))) (sRet (mTup (aCons (mVarE 3) (aCons (mVarE 4) aNil)))) sPass)))) (sRet (mK .non))))
def F_judge_word : MF := fnM 5 B_judge_word
theorem d_judge_word {c : Cg} {P : Program} {w : World} {base : Heap} {k : Nat} {X : Cx} {W : WX} (C : Cc c P w base N_judge_word (defScope st_judge_word) (k + 1) X W) (Fn : ∀ y, X.fn y = true) (St : X.stack = X.env :: X.outer) (Fr : X.env.frame = some X.env.locals) (B : NoG c BL) (M_Kitchen__pace : Gm c P w base (k + 1) "Kitchen" "pace" 0 F_Kitchen__pace) (M_Kitchen__many : Gm c P w base (k + 1) "Kitchen" "many" 0 F_Kitchen__many) (G_windows_of : Gd c P w base (k + 1) "windows_of" 1 F_windows_of) (G_is_row : Gd c P w base (k + 1) "is_row" 3 F_is_row) (G_full_station : Gd c P w base (k + 1) "full_station" 3 F_full_station) : PSs X (defBody st_judge_word) (tS c W B_judge_word) :=
  (ss_cons (g_set (pu := false) C Fn 2 (eFz (g_call C G_windows_of (as_cons (e_var 0 (C.var 0)) as_nil) (argN_cons argN_nil)))) (ss_cons (g_forR2 (pu := false) C B (bC e_int) (bC (e_op C.addR oAdd_ok (eB (g_len C B (bC (b_var 1 (C.var 1))))) (bC e_int))) (C.pgN Fn 3) (tgN 3) (ss_cons (s_if (pu := false) (t_not (t_tru C.eK (bC (g_call C G_is_row (as_cons (e_ix C.eK (b_var 1 (C.var 1)) (bC (e_op op_sub oSub_ok (b_var 3 (C.var 3)) (bC e_int))) (fun _ _ => rfl)) (as_cons (g_meth0 C M_Kitchen__pace (e_var 0 (C.var 0))) (as_cons (g_meth0 C M_Kitchen__many (e_var 0 (C.var 0))) as_nil))) (argN_cons (argN_cons (argN_cons argN_nil))))) (by intro _; rfl))) (ss_one (s_ret (pu := false) (e_tup (as_cons (e_var 3 (C.var 3)) (as_cons e_int as_nil))))) ss_nil) (ss_cons (g_set (pu := false) C Fn 4 (g_call C G_full_station (as_cons (e_var 2 (C.var 2)) (as_cons (e_var 1 (C.var 1)) (as_cons (e_var 3 (C.var 3)) as_nil))) (argN_cons (argN_cons (argN_cons argN_nil))))) (ss_one (s_if (pu := false) (t_cmp op_gt oLt_ok (b_var 4 (C.var 4)) (bC e_int) (nomark _)) (ss_one (s_ret (pu := false) (e_tup (as_cons (e_var 3 (C.var 3)) (as_cons (e_var 4 (C.var 4)) as_nil))))) ss_nil))))) (ss_one (s_ret (pu := false) e_non))))
def B__law_judged : MS := (sSeq (sSet 4 (mFz (mCall F__law_word_fault (aCons (mVarE 2) (aCons (mVarE 3) aNil))))) (sSeq (sSet 5 (mComp (mVarE 3) (tdN 6) [6] mYes (mUn fList (mVar 6)))) (sGh (gFz 5) (sSeq (sIf (mOr (mNot (mTru (mCall F__law_matches (aCons (mFz (mCall F_judge_word (aCons (mVarE 1) (aCons (mVarE 5) aNil)))) (aCons (mVarE 4) aNil))))) (mNot (mTru (mCall F__law_matches (aCons (mVarE 5) (aCons (mFz (mComp (mVarE 3) (tdN 6) [6] mYes (mUn fList (mVar 6)))) aNil)))))) (sRet (mK (.bl false))) sPass) (sSeq (sSet 7 (mUn fTuple (mComp (mVarE 3) (tdN 6) [6] mYes (mUn fTuple (mVar 6))))) (sRet (mAndV (mCall F__law_matches (aCons (mFz (mCall F_judge_word (aCons (mVarE 1) (aCons (mVarE 7) aNil)))) (aCons (mVarE 4) aNil))) (mCall F__law_matches (aCons (mFz (mCall F_judge_word (aCons (mVarE 1) (aCons (mVarE 5) aNil)))) (aCons (mVarE 4) aNil))))))))))
def F__law_judged : MF := fnM 8 B__law_judged
theorem d__law_judged {c : Cg} {P : Program} {w : World} {base : Heap} {k : Nat} {X : Cx} {W : WX} (C : Cc c P w base N__law_judged (defScope st__law_judged) (k + 1) X W) (Fn : ∀ y, X.fn y = true) (St : X.stack = X.env :: X.outer) (Fr : X.env.frame = some X.env.locals) (B : NoG c BL) (G__law_word_fault : Gd c P w base (k + 1) "_law_word_fault" 2 F__law_word_fault) (G__law_matches : Gd c P w base (k + 1) "_law_matches" 2 F__law_matches) (G_judge_word : Gd c P w base (k + 1) "judge_word" 2 F_judge_word) : PSs X (defBody st__law_judged) (tS c W B__law_judged) :=
  (ss_cons (g_set (pu := false) C Fn 4 (eFz (g_call C G__law_word_fault (as_cons (e_var 2 (C.var 2)) (as_cons (e_var 3 (C.var 3)) as_nil)) (argN_cons (argN_cons argN_nil))))) (ss_cons (g_setComp (pu := false) C 5 (own := [("row", 6)]) (e_var 3 (C.var 3)) (by decide +kernel) (tgN 6) (tgwN (by decide)) (blkI C rfl fun _ Y46 => (Y46.pgL 6)) (blkI C rfl fun _ Y46 => ts_nil) (blkI C rfl fun _ Y46 => (g_list Y46 B (bC (b_var 6 (Y46.var 6)))))) (ss_gh (gFz_ok 5) (ss_cons (s_if (pu := false) (PW.pt (w_or (t_not (t_tru C.eK (bC (g_call C G__law_matches (as_cons (eFz (g_call C G_judge_word (as_cons (e_var 1 (C.var 1)) (as_cons (e_var 5 (C.var 5)) as_nil)) (argN_cons (argN_cons argN_nil)))) (as_cons (e_var 4 (C.var 4)) as_nil)) (argN_cons (argN_cons argN_nil)))) (by intro _; rfl))) (w_or1 (t_not (t_tru C.eK (bC (g_call C G__law_matches (as_cons (e_var 5 (C.var 5)) (as_cons (eFz (g_comp C (own := [("row", 6)]) (e_var 3 (C.var 3)) (by decide +kernel) (tgN 6) (tgwN (by decide)) (blkI C rfl fun _ Y47 => (Y47.pgL 6)) (blkI C rfl fun _ Y47 => ts_nil) (blkI C rfl fun _ Y47 => (g_list Y47 B (bC (b_var 6 (Y47.var 6))))))) as_nil)) (argN_cons (argN_cons argN_nil)))) (by intro _; rfl)))))) (ss_one (s_ret (pu := false) e_bl)) ss_nil) (ss_cons (g_set (pu := false) C Fn 7 (g_tuple C B (bC (g_comp C (own := [("row", 6)]) (e_var 3 (C.var 3)) (by decide +kernel) (tgN 6) (tgwN (by decide)) (blkI C rfl fun _ Y48 => (Y48.pgL 6)) (blkI C rfl fun _ Y48 => ts_nil) (blkI C rfl fun _ Y48 => (g_tuple Y48 B (bC (b_var 6 (Y48.var 6))))))))) (ss_one (s_ret (pu := false) (e_and C.eK (g_call C G__law_matches (as_cons (eFz (g_call C G_judge_word (as_cons (e_var 1 (C.var 1)) (as_cons (e_var 7 (C.var 7)) as_nil)) (argN_cons (argN_cons argN_nil)))) (as_cons (e_var 4 (C.var 4)) as_nil)) (argN_cons (argN_cons argN_nil))) (e_one (g_call C G__law_matches (as_cons (eFz (g_call C G_judge_word (as_cons (e_var 1 (C.var 1)) (as_cons (e_var 5 (C.var 5)) as_nil)) (argN_cons (argN_cons argN_nil)))) (as_cons (e_var 4 (C.var 4)) as_nil)) (argN_cons (argN_cons argN_nil))))))))))))
def B_law : MS := (sSeq (sForR (mK (.int 0)) (mK (.int 3)) (tdN 1) (sSeq (sSet 2 (mCel (mCall F__law_stock (aCons (mVarE 0) (aCons (mVarE 1) aNil))))) (sSeq (sSet 3 (mFz (mCall F__law_judge_world (aCons (mVarE 2) aNil)))) (sSeq (sSet 4 (mFz (mCall F__law_as_kitchen (aCons (mVarE 3) aNil)))) (sSeq (sSet 5 (mFz (mCall F__law_right_word (aCons (mVarE 2) (aCons (mVarE 3) (aCons (mBin oAdd (mK (.int 6)) (mCall F__law_draw (aCons (mVarE 2) (aCons (mK (.int 9)) aNil)))) aNil)))))) (sSeq (sIf (mNot (mTru (mCall F__law_judged (aCons (mVarE 2) (aCons (mVarE 4) (aCons (mVarE 3) (aCons (mFz (mLst aNil)) aNil))))))) (sRet (mK (.bl false))) sPass) (sFor (mFz (mCall F__law_bent_words (aCons (mVarE 2) (aCons (mVarE 3) (aCons (mVarE 5) aNil))))) (tdN 6) (sIf (mNot (mTru (mCall F__law_judged (aCons (mVarE 2) (aCons (mVarE 4) (aCons (mVarE 3) (aCons (mVarE 6) aNil))))))) (sRet (mK (.bl false))) sPass)))))))) (sSeq (sSet 2 (mCel (mCall F__law_stock (aCons (mVarE 0) (aCons (mK (.int 3)) aNil))))) (sSeq (sAsg (tdT 2 (tdCons (tdN 3) (tdCons (tdN 7) tdNil))) (mCall F__law_far_words (aCons (mVarE 2) aNil))) (sSeq (sSet 4 (mFz (mCall F__law_as_kitchen (aCons (mVarE 3) aNil)))) (sSeq (sFor (mVarE 7) (tdN 6) (sIf (mNot (mTru (mCall F__law_judged (aCons (mVarE 2) (aCons (mVarE 4) (aCons (mVarE 3) (aCons (mVarE 6) aNil))))))) (sRet (mK (.bl false))) sPass)) (sRet (mAndV (mBin oIsNot (mCall F__law_word_fault (aCons (mVarE 3) (aCons (mBin oItem (mVar 7) (mK (.int 0))) aNil))) (mK .non)) (mBin oIs (mCall F__law_word_fault (aCons (mVarE 3) (aCons (mBin oItem (mVar 7) (mK (.int 1))) aNil))) (mK .non)))))))))
def F_law : MF := fnM 8 B_law
theorem d_law {c : Cg} {P : Program} {w : World} {base : Heap} {k : Nat} {X : Cx} {W : WX} (C : Cc c P w base N_law (defScope st_law) (k + 1) X W) (Fn : ∀ y, X.fn y = true) (St : X.stack = X.env :: X.outer) (Fr : X.env.frame = some X.env.locals) (B : NoG c BL) (G__law_stock : Gd c P w base (k + 1) "_law_stock" 2 F__law_stock) (G__law_judge_world : Gd c P w base (k + 1) "_law_judge_world" 1 F__law_judge_world) (G__law_as_kitchen : Gd c P w base (k + 1) "_law_as_kitchen" 1 F__law_as_kitchen) (G__law_right_word : Gd c P w base (k + 1) "_law_right_word" 3 F__law_right_word) (G__law_draw : Gd c P w base (k + 1) "_law_draw" 2 F__law_draw) (G__law_judged : Gd c P w base (k + 1) "_law_judged" 4 F__law_judged) (G__law_bent_words : Gd c P w base (k + 1) "_law_bent_words" 3 F__law_bent_words) (G__law_far_words : Gd c P w base (k + 1) "_law_far_words" 1 F__law_far_words) (G__law_word_fault : Gd c P w base (k + 1) "_law_word_fault" 2 F__law_word_fault) : PSs X (defBody st_law) (tS c W B_law) :=
  (ss_cons (g_forR1 (pu := false) C B (bC e_int) (C.pgN Fn 1) (tgN 1) (ss_cons (g_set (pu := false) C Fn 2 (eCel (g_call C G__law_stock (as_cons (e_var 0 (C.var 0)) (as_cons (e_var 1 (C.var 1)) as_nil)) (argN_cons (argN_cons argN_nil))))) (ss_cons (g_set (pu := false) C Fn 3 (eFz (g_call C G__law_judge_world (as_cons (e_var 2 (C.var 2)) as_nil) (argN_cons argN_nil)))) (ss_cons (g_set (pu := false) C Fn 4 (eFz (g_call C G__law_as_kitchen (as_cons (e_var 3 (C.var 3)) as_nil) (argN_cons argN_nil)))) (ss_cons (g_set (pu := false) C Fn 5 (eFz (g_call C G__law_right_word (as_cons (e_var 2 (C.var 2)) (as_cons (e_var 3 (C.var 3)) (as_cons (e_op C.addR oAdd_ok (eB e_int) (bC (g_call C G__law_draw (as_cons (e_var 2 (C.var 2)) (as_cons e_int as_nil)) (argN_cons (argN_cons argN_nil))))) as_nil))) (argN_cons (argN_cons (argN_cons argN_nil)))))) (ss_cons (s_if (pu := false) (t_not (t_tru C.eK (bC (g_call C G__law_judged (as_cons (e_var 2 (C.var 2)) (as_cons (e_var 4 (C.var 4)) (as_cons (e_var 3 (C.var 3)) (as_cons (eFz (e_lst as_nil)) as_nil)))) (argN_cons (argN_cons (argN_cons (argN_cons argN_nil)))))) (by intro _; rfl))) (ss_one (s_ret (pu := false) e_bl)) ss_nil) (ss_one (g_for (pu := false) C (eFz (g_call C G__law_bent_words (as_cons (e_var 2 (C.var 2)) (as_cons (e_var 3 (C.var 3)) (as_cons (e_var 5 (C.var 5)) as_nil))) (argN_cons (argN_cons (argN_cons argN_nil))))) (C.pgN Fn 6) (tgN 6) (ss_one (s_if (pu := false) (t_not (t_tru C.eK (bC (g_call C G__law_judged (as_cons (e_var 2 (C.var 2)) (as_cons (e_var 4 (C.var 4)) (as_cons (e_var 3 (C.var 3)) (as_cons (e_var 6 (C.var 6)) as_nil)))) (argN_cons (argN_cons (argN_cons (argN_cons argN_nil)))))) (by intro _; rfl))) (ss_one (s_ret (pu := false) e_bl)) ss_nil)))))))))) (ss_cons (g_set (pu := false) C Fn 2 (eCel (g_call C G__law_stock (as_cons (e_var 0 (C.var 0)) (as_cons e_int as_nil)) (argN_cons (argN_cons argN_nil))))) (ss_cons (g_asgT (pu := false) C (C.pgT (pgs_cons (C.pgN Fn 3) (pgs_cons (C.pgN Fn 7) pgs_nil))) (tgT (n := 2) (tgsCons (tgN 3) (tgsCons (tgN 7) tgsNil))) (g_call C G__law_far_words (as_cons (e_var 2 (C.var 2)) as_nil) (argN_cons argN_nil))) (ss_cons (g_set (pu := false) C Fn 4 (eFz (g_call C G__law_as_kitchen (as_cons (e_var 3 (C.var 3)) as_nil) (argN_cons argN_nil)))) (ss_cons (g_for (pu := false) C (e_var 7 (C.var 7)) (C.pgN Fn 6) (tgN 6) (ss_one (s_if (pu := false) (t_not (t_tru C.eK (bC (g_call C G__law_judged (as_cons (e_var 2 (C.var 2)) (as_cons (e_var 4 (C.var 4)) (as_cons (e_var 3 (C.var 3)) (as_cons (e_var 6 (C.var 6)) as_nil)))) (argN_cons (argN_cons (argN_cons (argN_cons argN_nil)))))) (by intro _; rfl))) (ss_one (s_ret (pu := false) e_bl)) ss_nil))) (ss_one (s_ret (pu := false) (e_and C.eK (e_cmp op_notN oIsNot_ok (eB (g_call C G__law_word_fault (as_cons (e_var 3 (C.var 3)) (as_cons (e_ix C.eK (b_var 7 (C.var 7)) (bC e_int) (fun _ _ => rfl)) as_nil)) (argN_cons (argN_cons argN_nil)))) (bC e_non) (nomark _)) (e_one (e_cmp op_isN oIs_ok (eB (g_call C G__law_word_fault (as_cons (e_var 3 (C.var 3)) (as_cons (e_ix C.eK (b_var 7 (C.var 7)) (bC e_int) (fun _ _ => rfl)) as_nil)) (argN_cons (argN_cons argN_nil)))) (bC e_non) (nomark _)))))))))))
abbrev in_BadKitchen : Stmt := inCls (topOf pw 10) 0
theorem inS_BadKitchen : FnScope ["self", "what", "station"] ["self", "what", "station"] (defScope in_BadKitchen) := ⟨rfl, rfl, rfl, by decide +kernel, rfl, by decide +kernel, by decide +kernel⟩
abbrev in_TooMany : Stmt := inCls (topOf pw 9) 0
theorem inS_TooMany : FnScope ["self", "what"] ["self", "what"] (defScope in_TooMany) := ⟨rfl, rfl, rfl, by decide +kernel, rfl, by decide +kernel, by decide +kernel⟩
abbrev tabs0 : List (Addr × Str) := []
theorem all_mk {l : PySem.W.OpenLaw} {w : World} {K : PySem.W.Frag} {h : Heap} {mg : Str → Option Value} {fa : Addr} (X : K.In h) (G : h.Ns mainGlobals mg) (hfa : mg "law" = some (.ref fa)) (TT : ∀ P ∈ ([] : List Addr), h.get? P = some { cls := .none, data := .fields #[] })
    (law_true : ∀ ns : List Int, ns.length ≤ 63 → (∀ z ∈ ns, Builtin.Int.intBits z ≤ 1048576) → ∃ h2, F_law [.d (.rol (ns.map .int))] (tabs0.map fun p => .tab p.1 p.2) = .ok (.d (.bl true)) h2)
    {C_Kitchen : Addr} (a_Kitchen : PySem.W.nsIn K mainGlobals "Kitchen" = some (some (.ref C_Kitchen)))
    (p1_Kitchen : PySem.W.plainGet K C_Kitchen Str.empty = true)
    (p2_Kitchen : PySem.W.hasDictIn K C_Kitchen = true)
    (p3_Kitchen : PySem.W.plainOver K C_Kitchen = true)
    (p4_Kitchen : PySem.W.findIn K (.ref C_Kitchen) "__setattr__" = some (some (.builtin "object.__setattr__")))
    (p5_Kitchen : PySem.W.keepIn K (.ref C_Kitchen) = true)
    (p6_Kitchen : PySem.W.makesIn K C_Kitchen = true)
    (na_Kitchen_pace_number : PySem.W.findIn K (.ref C_Kitchen) "pace_number" = some none)
    (na_Kitchen_row_list : PySem.W.findIn K (.ref C_Kitchen) "row_list" = some none)
    {f__law_stock : Addr} {oc__law_stock kV__law_stock dc__law_stock pm__law_stock ct__law_stock : Value} {od__law_stock an__law_stock : Option Addr} {sl__law_stock : Array (Option Value)} {cd__law_stock : Value} (a__law_stock : PySem.W.nsIn K mainGlobals "_law_stock" = some (some (.ref f__law_stock)))
    (l__law_stock : K.lookup f__law_stock = some ⟨oc__law_stock, od__law_stock, .func (PySem.W.fnOf "_law_stock" "_law_stock" (defArgs st__law_stock) (defBody st__law_stock) (defScope st__law_stock) .none kV__law_stock dc__law_stock pm__law_stock an__law_stock cd__law_stock ct__law_stock), sl__law_stock⟩)
    (c__law_stock : PySem.W.codeIn K cd__law_stock "_law_stock" = true)
    (k__law_stock : PySem.W.keepIn K (.ref f__law_stock) = true)
    {f__law_draw : Addr} {oc__law_draw kV__law_draw dc__law_draw pm__law_draw ct__law_draw : Value} {od__law_draw an__law_draw : Option Addr} {sl__law_draw : Array (Option Value)} {cd__law_draw : Value} (a__law_draw : PySem.W.nsIn K mainGlobals "_law_draw" = some (some (.ref f__law_draw)))
    (l__law_draw : K.lookup f__law_draw = some ⟨oc__law_draw, od__law_draw, .func (PySem.W.fnOf "_law_draw" "_law_draw" (defArgs st__law_draw) (defBody st__law_draw) (defScope st__law_draw) .none kV__law_draw dc__law_draw pm__law_draw an__law_draw cd__law_draw ct__law_draw), sl__law_draw⟩)
    (c__law_draw : PySem.W.codeIn K cd__law_draw "_law_draw" = true)
    (k__law_draw : PySem.W.keepIn K (.ref f__law_draw) = true)
    {f__law_built : Addr} {oc__law_built kV__law_built dc__law_built pm__law_built ct__law_built : Value} {od__law_built an__law_built : Option Addr} {sl__law_built : Array (Option Value)} {cd__law_built : Value} (a__law_built : PySem.W.nsIn K mainGlobals "_law_built" = some (some (.ref f__law_built)))
    (l__law_built : K.lookup f__law_built = some ⟨oc__law_built, od__law_built, .func (PySem.W.fnOf "_law_built" "_law_built" (defArgs st__law_built) (defBody st__law_built) (defScope st__law_built) .none kV__law_built dc__law_built pm__law_built an__law_built cd__law_built ct__law_built), sl__law_built⟩)
    (c__law_built : PySem.W.codeIn K cd__law_built "_law_built" = true)
    (k__law_built : PySem.W.keepIn K (.ref f__law_built) = true)
    {f__law_far_words : Addr} {oc__law_far_words kV__law_far_words dc__law_far_words pm__law_far_words ct__law_far_words : Value} {od__law_far_words an__law_far_words : Option Addr} {sl__law_far_words : Array (Option Value)} {cd__law_far_words : Value} (a__law_far_words : PySem.W.nsIn K mainGlobals "_law_far_words" = some (some (.ref f__law_far_words)))
    (l__law_far_words : K.lookup f__law_far_words = some ⟨oc__law_far_words, od__law_far_words, .func (PySem.W.fnOf "_law_far_words" "_law_far_words" (defArgs st__law_far_words) (defBody st__law_far_words) (defScope st__law_far_words) .none kV__law_far_words dc__law_far_words pm__law_far_words an__law_far_words cd__law_far_words ct__law_far_words), sl__law_far_words⟩)
    (c__law_far_words : PySem.W.codeIn K cd__law_far_words "_law_far_words" = true)
    (k__law_far_words : PySem.W.keepIn K (.ref f__law_far_words) = true)
    {f_full_rows : Addr} {oc_full_rows kV_full_rows dc_full_rows pm_full_rows ct_full_rows : Value} {od_full_rows an_full_rows : Option Addr} {sl_full_rows : Array (Option Value)} {cd_full_rows : Value} (a_full_rows : PySem.W.nsIn K mainGlobals "full_rows" = some (some (.ref f_full_rows)))
    (l_full_rows : K.lookup f_full_rows = some ⟨oc_full_rows, od_full_rows, .func (PySem.W.fnOf "full_rows" "full_rows" (defArgs st_full_rows) (defBody st_full_rows) (defScope st_full_rows) .none kV_full_rows dc_full_rows pm_full_rows an_full_rows cd_full_rows ct_full_rows), sl_full_rows⟩)
    (c_full_rows : PySem.W.codeIn K cd_full_rows "full_rows" = true)
    (k_full_rows : PySem.W.keepIn K (.ref f_full_rows) = true)
    {f_check : Addr} {oc_check kV_check dc_check pm_check ct_check : Value} {od_check an_check : Option Addr} {sl_check : Array (Option Value)} {cd_check : Value} (a_check : PySem.W.nsIn K mainGlobals "check" = some (some (.ref f_check)))
    (l_check : K.lookup f_check = some ⟨oc_check, od_check, .func (PySem.W.fnOf "check" "check" (defArgs st_check) (defBody st_check) (defScope st_check) .none kV_check dc_check pm_check an_check cd_check ct_check), sl_check⟩)
    (c_check : PySem.W.codeIn K cd_check "check" = true)
    (k_check : PySem.W.keepIn K (.ref f_check) = true)
    {f_check_each : Addr} {oc_check_each kV_check_each dc_check_each pm_check_each ct_check_each : Value} {od_check_each an_check_each : Option Addr} {sl_check_each : Array (Option Value)} {cd_check_each : Value} (a_check_each : PySem.W.nsIn K mainGlobals "check_each" = some (some (.ref f_check_each)))
    (l_check_each : K.lookup f_check_each = some ⟨oc_check_each, od_check_each, .func (PySem.W.fnOf "check_each" "check_each" (defArgs st_check_each) (defBody st_check_each) (defScope st_check_each) .none kV_check_each dc_check_each pm_check_each an_check_each cd_check_each ct_check_each), sl_check_each⟩)
    (c_check_each : PySem.W.codeIn K cd_check_each "check_each" = true)
    (k_check_each : PySem.W.keepIn K (.ref f_check_each) = true)
    {f_check_rows : Addr} {oc_check_rows kV_check_rows dc_check_rows pm_check_rows ct_check_rows : Value} {od_check_rows an_check_rows : Option Addr} {sl_check_rows : Array (Option Value)} {cd_check_rows : Value} (a_check_rows : PySem.W.nsIn K mainGlobals "check_rows" = some (some (.ref f_check_rows)))
    (l_check_rows : K.lookup f_check_rows = some ⟨oc_check_rows, od_check_rows, .func (PySem.W.fnOf "check_rows" "check_rows" (defArgs st_check_rows) (defBody st_check_rows) (defScope st_check_rows) .none kV_check_rows dc_check_rows pm_check_rows an_check_rows cd_check_rows ct_check_rows), sl_check_rows⟩)
    (c_check_rows : PySem.W.codeIn K cd_check_rows "check_rows" = true)
    (k_check_rows : PySem.W.keepIn K (.ref f_check_rows) = true)
    {f_Kitchen____init__ : Addr} {oc_Kitchen____init__ kV_Kitchen____init__ dc_Kitchen____init__ pm_Kitchen____init__ ct_Kitchen____init__ : Value} {od_Kitchen____init__ an_Kitchen____init__ : Option Addr} {sl_Kitchen____init__ : Array (Option Value)} {cd_Kitchen____init__ : Value} (a_Kitchen____init__ : PySem.W.findIn K (.ref C_Kitchen) "__init__" = some (some (.ref f_Kitchen____init__)))
    (fn_Kitchen____init__ : PySem.W.isFn K (.ref f_Kitchen____init__) = true)
    (l_Kitchen____init__ : K.lookup f_Kitchen____init__ = some ⟨oc_Kitchen____init__, od_Kitchen____init__, .func (PySem.W.fnOf "__init__" "Kitchen.__init__" (defArgs st_Kitchen____init__) (defBody st_Kitchen____init__) (defScope st_Kitchen____init__) .none kV_Kitchen____init__ dc_Kitchen____init__ pm_Kitchen____init__ an_Kitchen____init__ cd_Kitchen____init__ ct_Kitchen____init__), sl_Kitchen____init__⟩)
    (c_Kitchen____init__ : PySem.W.codeIn K cd_Kitchen____init__ "Kitchen.__init__" = true)
    (k_Kitchen____init__ : PySem.W.keepIn K (.ref f_Kitchen____init__) = true)
    {f__law_as_kitchen : Addr} {oc__law_as_kitchen kV__law_as_kitchen dc__law_as_kitchen pm__law_as_kitchen ct__law_as_kitchen : Value} {od__law_as_kitchen an__law_as_kitchen : Option Addr} {sl__law_as_kitchen : Array (Option Value)} {cd__law_as_kitchen : Value} (a__law_as_kitchen : PySem.W.nsIn K mainGlobals "_law_as_kitchen" = some (some (.ref f__law_as_kitchen)))
    (l__law_as_kitchen : K.lookup f__law_as_kitchen = some ⟨oc__law_as_kitchen, od__law_as_kitchen, .func (PySem.W.fnOf "_law_as_kitchen" "_law_as_kitchen" (defArgs st__law_as_kitchen) (defBody st__law_as_kitchen) (defScope st__law_as_kitchen) .none kV__law_as_kitchen dc__law_as_kitchen pm__law_as_kitchen an__law_as_kitchen cd__law_as_kitchen ct__law_as_kitchen), sl__law_as_kitchen⟩)
    (c__law_as_kitchen : PySem.W.codeIn K cd__law_as_kitchen "_law_as_kitchen" = true)
    (k__law_as_kitchen : PySem.W.keepIn K (.ref f__law_as_kitchen) = true)
    {f__law_judge_world : Addr} {oc__law_judge_world kV__law_judge_world dc__law_judge_world pm__law_judge_world ct__law_judge_world : Value} {od__law_judge_world an__law_judge_world : Option Addr} {sl__law_judge_world : Array (Option Value)} {cd__law_judge_world : Value} (a__law_judge_world : PySem.W.nsIn K mainGlobals "_law_judge_world" = some (some (.ref f__law_judge_world)))
    (l__law_judge_world : K.lookup f__law_judge_world = some ⟨oc__law_judge_world, od__law_judge_world, .func (PySem.W.fnOf "_law_judge_world" "_law_judge_world" (defArgs st__law_judge_world) (defBody st__law_judge_world) (defScope st__law_judge_world) .none kV__law_judge_world dc__law_judge_world pm__law_judge_world an__law_judge_world cd__law_judge_world ct__law_judge_world), sl__law_judge_world⟩)
    (c__law_judge_world : PySem.W.codeIn K cd__law_judge_world "_law_judge_world" = true)
    (k__law_judge_world : PySem.W.keepIn K (.ref f__law_judge_world) = true)
    {f__law_all_rows : Addr} {oc__law_all_rows kV__law_all_rows dc__law_all_rows pm__law_all_rows ct__law_all_rows : Value} {od__law_all_rows an__law_all_rows : Option Addr} {sl__law_all_rows : Array (Option Value)} {cd__law_all_rows : Value} (a__law_all_rows : PySem.W.nsIn K mainGlobals "_law_all_rows" = some (some (.ref f__law_all_rows)))
    (l__law_all_rows : K.lookup f__law_all_rows = some ⟨oc__law_all_rows, od__law_all_rows, .func (PySem.W.fnOf "_law_all_rows" "_law_all_rows" (defArgs st__law_all_rows) (defBody st__law_all_rows) (defScope st__law_all_rows) .none kV__law_all_rows dc__law_all_rows pm__law_all_rows an__law_all_rows cd__law_all_rows ct__law_all_rows), sl__law_all_rows⟩)
    (c__law_all_rows : PySem.W.codeIn K cd__law_all_rows "_law_all_rows" = true)
    (k__law_all_rows : PySem.W.keepIn K (.ref f__law_all_rows) = true)
    {f__law_spares : Addr} {oc__law_spares kV__law_spares dc__law_spares pm__law_spares ct__law_spares : Value} {od__law_spares an__law_spares : Option Addr} {sl__law_spares : Array (Option Value)} {cd__law_spares : Value} (a__law_spares : PySem.W.nsIn K mainGlobals "_law_spares" = some (some (.ref f__law_spares)))
    (l__law_spares : K.lookup f__law_spares = some ⟨oc__law_spares, od__law_spares, .func (PySem.W.fnOf "_law_spares" "_law_spares" (defArgs st__law_spares) (defBody st__law_spares) (defScope st__law_spares) .none kV__law_spares dc__law_spares pm__law_spares an__law_spares cd__law_spares ct__law_spares), sl__law_spares⟩)
    (c__law_spares : PySem.W.codeIn K cd__law_spares "_law_spares" = true)
    (k__law_spares : PySem.W.keepIn K (.ref f__law_spares) = true)
    {f__law_windows : Addr} {oc__law_windows kV__law_windows dc__law_windows pm__law_windows ct__law_windows : Value} {od__law_windows an__law_windows : Option Addr} {sl__law_windows : Array (Option Value)} {cd__law_windows : Value} (a__law_windows : PySem.W.nsIn K mainGlobals "_law_windows" = some (some (.ref f__law_windows)))
    (l__law_windows : K.lookup f__law_windows = some ⟨oc__law_windows, od__law_windows, .func (PySem.W.fnOf "_law_windows" "_law_windows" (defArgs st__law_windows) (defBody st__law_windows) (defScope st__law_windows) .none kV__law_windows dc__law_windows pm__law_windows an__law_windows cd__law_windows ct__law_windows), sl__law_windows⟩)
    (c__law_windows : PySem.W.codeIn K cd__law_windows "_law_windows" = true)
    (k__law_windows : PySem.W.keepIn K (.ref f__law_windows) = true)
    {f__law_row_after : Addr} {oc__law_row_after kV__law_row_after dc__law_row_after pm__law_row_after ct__law_row_after : Value} {od__law_row_after an__law_row_after : Option Addr} {sl__law_row_after : Array (Option Value)} {cd__law_row_after : Value} (a__law_row_after : PySem.W.nsIn K mainGlobals "_law_row_after" = some (some (.ref f__law_row_after)))
    (l__law_row_after : K.lookup f__law_row_after = some ⟨oc__law_row_after, od__law_row_after, .func (PySem.W.fnOf "_law_row_after" "_law_row_after" (defArgs st__law_row_after) (defBody st__law_row_after) (defScope st__law_row_after) .none kV__law_row_after dc__law_row_after pm__law_row_after an__law_row_after cd__law_row_after ct__law_row_after), sl__law_row_after⟩)
    (c__law_row_after : PySem.W.codeIn K cd__law_row_after "_law_row_after" = true)
    (k__law_row_after : PySem.W.keepIn K (.ref f__law_row_after) = true)
    {f__law_right_word : Addr} {oc__law_right_word kV__law_right_word dc__law_right_word pm__law_right_word ct__law_right_word : Value} {od__law_right_word an__law_right_word : Option Addr} {sl__law_right_word : Array (Option Value)} {cd__law_right_word : Value} (a__law_right_word : PySem.W.nsIn K mainGlobals "_law_right_word" = some (some (.ref f__law_right_word)))
    (l__law_right_word : K.lookup f__law_right_word = some ⟨oc__law_right_word, od__law_right_word, .func (PySem.W.fnOf "_law_right_word" "_law_right_word" (defArgs st__law_right_word) (defBody st__law_right_word) (defScope st__law_right_word) .none kV__law_right_word dc__law_right_word pm__law_right_word an__law_right_word cd__law_right_word ct__law_right_word), sl__law_right_word⟩)
    (c__law_right_word : PySem.W.codeIn K cd__law_right_word "_law_right_word" = true)
    (k__law_right_word : PySem.W.keepIn K (.ref f__law_right_word) = true)
    {f__law_too_much : Addr} {oc__law_too_much kV__law_too_much dc__law_too_much pm__law_too_much ct__law_too_much : Value} {od__law_too_much an__law_too_much : Option Addr} {sl__law_too_much : Array (Option Value)} {cd__law_too_much : Value} (a__law_too_much : PySem.W.nsIn K mainGlobals "_law_too_much" = some (some (.ref f__law_too_much)))
    (l__law_too_much : K.lookup f__law_too_much = some ⟨oc__law_too_much, od__law_too_much, .func (PySem.W.fnOf "_law_too_much" "_law_too_much" (defArgs st__law_too_much) (defBody st__law_too_much) (defScope st__law_too_much) .none kV__law_too_much dc__law_too_much pm__law_too_much an__law_too_much cd__law_too_much ct__law_too_much), sl__law_too_much⟩)
    (c__law_too_much : PySem.W.codeIn K cd__law_too_much "_law_too_much" = true)
    (k__law_too_much : PySem.W.keepIn K (.ref f__law_too_much) = true)
    {f__law_wrong_form : Addr} {oc__law_wrong_form kV__law_wrong_form dc__law_wrong_form pm__law_wrong_form ct__law_wrong_form : Value} {od__law_wrong_form an__law_wrong_form : Option Addr} {sl__law_wrong_form : Array (Option Value)} {cd__law_wrong_form : Value} (a__law_wrong_form : PySem.W.nsIn K mainGlobals "_law_wrong_form" = some (some (.ref f__law_wrong_form)))
    (l__law_wrong_form : K.lookup f__law_wrong_form = some ⟨oc__law_wrong_form, od__law_wrong_form, .func (PySem.W.fnOf "_law_wrong_form" "_law_wrong_form" (defArgs st__law_wrong_form) (defBody st__law_wrong_form) (defScope st__law_wrong_form) .none kV__law_wrong_form dc__law_wrong_form pm__law_wrong_form an__law_wrong_form cd__law_wrong_form ct__law_wrong_form), sl__law_wrong_form⟩)
    (c__law_wrong_form : PySem.W.codeIn K cd__law_wrong_form "_law_wrong_form" = true)
    (k__law_wrong_form : PySem.W.keepIn K (.ref f__law_wrong_form) = true)
    {f__law_bent_words : Addr} {oc__law_bent_words kV__law_bent_words dc__law_bent_words pm__law_bent_words ct__law_bent_words : Value} {od__law_bent_words an__law_bent_words : Option Addr} {sl__law_bent_words : Array (Option Value)} {cd__law_bent_words : Value} (a__law_bent_words : PySem.W.nsIn K mainGlobals "_law_bent_words" = some (some (.ref f__law_bent_words)))
    (l__law_bent_words : K.lookup f__law_bent_words = some ⟨oc__law_bent_words, od__law_bent_words, .func (PySem.W.fnOf "_law_bent_words" "_law_bent_words" (defArgs st__law_bent_words) (defBody st__law_bent_words) (defScope st__law_bent_words) .none kV__law_bent_words dc__law_bent_words pm__law_bent_words an__law_bent_words cd__law_bent_words ct__law_bent_words), sl__law_bent_words⟩)
    (c__law_bent_words : PySem.W.codeIn K cd__law_bent_words "_law_bent_words" = true)
    (k__law_bent_words : PySem.W.keepIn K (.ref f__law_bent_words) = true)
    {f__law_entries : Addr} {oc__law_entries kV__law_entries dc__law_entries pm__law_entries ct__law_entries : Value} {od__law_entries an__law_entries : Option Addr} {sl__law_entries : Array (Option Value)} {cd__law_entries : Value} (a__law_entries : PySem.W.nsIn K mainGlobals "_law_entries" = some (some (.ref f__law_entries)))
    (l__law_entries : K.lookup f__law_entries = some ⟨oc__law_entries, od__law_entries, .func (PySem.W.fnOf "_law_entries" "_law_entries" (defArgs st__law_entries) (defBody st__law_entries) (defScope st__law_entries) .none kV__law_entries dc__law_entries pm__law_entries an__law_entries cd__law_entries ct__law_entries), sl__law_entries⟩)
    (c__law_entries : PySem.W.codeIn K cd__law_entries "_law_entries" = true)
    (k__law_entries : PySem.W.keepIn K (.ref f__law_entries) = true)
    {f__law_wrong_row : Addr} {oc__law_wrong_row kV__law_wrong_row dc__law_wrong_row pm__law_wrong_row ct__law_wrong_row : Value} {od__law_wrong_row an__law_wrong_row : Option Addr} {sl__law_wrong_row : Array (Option Value)} {cd__law_wrong_row : Value} (a__law_wrong_row : PySem.W.nsIn K mainGlobals "_law_wrong_row" = some (some (.ref f__law_wrong_row)))
    (l__law_wrong_row : K.lookup f__law_wrong_row = some ⟨oc__law_wrong_row, od__law_wrong_row, .func (PySem.W.fnOf "_law_wrong_row" "_law_wrong_row" (defArgs st__law_wrong_row) (defBody st__law_wrong_row) (defScope st__law_wrong_row) .none kV__law_wrong_row dc__law_wrong_row pm__law_wrong_row an__law_wrong_row cd__law_wrong_row ct__law_wrong_row), sl__law_wrong_row⟩)
    (c__law_wrong_row : PySem.W.codeIn K cd__law_wrong_row "_law_wrong_row" = true)
    (k__law_wrong_row : PySem.W.keepIn K (.ref f__law_wrong_row) = true)
    {f__law_word_fault : Addr} {oc__law_word_fault kV__law_word_fault dc__law_word_fault pm__law_word_fault ct__law_word_fault : Value} {od__law_word_fault an__law_word_fault : Option Addr} {sl__law_word_fault : Array (Option Value)} {cd__law_word_fault : Value} (a__law_word_fault : PySem.W.nsIn K mainGlobals "_law_word_fault" = some (some (.ref f__law_word_fault)))
    (l__law_word_fault : K.lookup f__law_word_fault = some ⟨oc__law_word_fault, od__law_word_fault, .func (PySem.W.fnOf "_law_word_fault" "_law_word_fault" (defArgs st__law_word_fault) (defBody st__law_word_fault) (defScope st__law_word_fault) .none kV__law_word_fault dc__law_word_fault pm__law_word_fault an__law_word_fault cd__law_word_fault ct__law_word_fault), sl__law_word_fault⟩)
    (c__law_word_fault : PySem.W.codeIn K cd__law_word_fault "_law_word_fault" = true)
    (k__law_word_fault : PySem.W.keepIn K (.ref f__law_word_fault) = true)
    {f__law_matches : Addr} {oc__law_matches kV__law_matches dc__law_matches pm__law_matches ct__law_matches : Value} {od__law_matches an__law_matches : Option Addr} {sl__law_matches : Array (Option Value)} {cd__law_matches : Value} (a__law_matches : PySem.W.nsIn K mainGlobals "_law_matches" = some (some (.ref f__law_matches)))
    (l__law_matches : K.lookup f__law_matches = some ⟨oc__law_matches, od__law_matches, .func (PySem.W.fnOf "_law_matches" "_law_matches" (defArgs st__law_matches) (defBody st__law_matches) (defScope st__law_matches) .none kV__law_matches dc__law_matches pm__law_matches an__law_matches cd__law_matches ct__law_matches), sl__law_matches⟩)
    (c__law_matches : PySem.W.codeIn K cd__law_matches "_law_matches" = true)
    (k__law_matches : PySem.W.keepIn K (.ref f__law_matches) = true)
    {f_Kitchen__many : Addr} {oc_Kitchen__many kV_Kitchen__many dc_Kitchen__many pm_Kitchen__many ct_Kitchen__many : Value} {od_Kitchen__many an_Kitchen__many : Option Addr} {sl_Kitchen__many : Array (Option Value)} {cd_Kitchen__many : Value} (a_Kitchen__many : PySem.W.findIn K (.ref C_Kitchen) "many" = some (some (.ref f_Kitchen__many)))
    (fn_Kitchen__many : PySem.W.isFn K (.ref f_Kitchen__many) = true)
    (l_Kitchen__many : K.lookup f_Kitchen__many = some ⟨oc_Kitchen__many, od_Kitchen__many, .func (PySem.W.fnOf "many" "Kitchen.many" (defArgs st_Kitchen__many) (defBody st_Kitchen__many) (defScope st_Kitchen__many) .none kV_Kitchen__many dc_Kitchen__many pm_Kitchen__many an_Kitchen__many cd_Kitchen__many ct_Kitchen__many), sl_Kitchen__many⟩)
    (c_Kitchen__many : PySem.W.codeIn K cd_Kitchen__many "Kitchen.many" = true)
    (k_Kitchen__many : PySem.W.keepIn K (.ref f_Kitchen__many) = true)
    {f_Kitchen__check_station : Addr} {oc_Kitchen__check_station kV_Kitchen__check_station dc_Kitchen__check_station pm_Kitchen__check_station ct_Kitchen__check_station : Value} {od_Kitchen__check_station an_Kitchen__check_station : Option Addr} {sl_Kitchen__check_station : Array (Option Value)} {cd_Kitchen__check_station : Value} (a_Kitchen__check_station : PySem.W.findIn K (.ref C_Kitchen) "check_station" = some (some (.ref f_Kitchen__check_station)))
    (fn_Kitchen__check_station : PySem.W.isFn K (.ref f_Kitchen__check_station) = true)
    (l_Kitchen__check_station : K.lookup f_Kitchen__check_station = some ⟨oc_Kitchen__check_station, od_Kitchen__check_station, .func (PySem.W.fnOf "check_station" "Kitchen.check_station" (defArgs st_Kitchen__check_station) (defBody st_Kitchen__check_station) (defScope st_Kitchen__check_station) .none kV_Kitchen__check_station dc_Kitchen__check_station pm_Kitchen__check_station an_Kitchen__check_station cd_Kitchen__check_station ct_Kitchen__check_station), sl_Kitchen__check_station⟩)
    (c_Kitchen__check_station : PySem.W.codeIn K cd_Kitchen__check_station "Kitchen.check_station" = true)
    (k_Kitchen__check_station : PySem.W.keepIn K (.ref f_Kitchen__check_station) = true)
    {f_Kitchen__window : Addr} {oc_Kitchen__window kV_Kitchen__window dc_Kitchen__window pm_Kitchen__window ct_Kitchen__window : Value} {od_Kitchen__window an_Kitchen__window : Option Addr} {sl_Kitchen__window : Array (Option Value)} {cd_Kitchen__window : Value} (a_Kitchen__window : PySem.W.findIn K (.ref C_Kitchen) "window" = some (some (.ref f_Kitchen__window)))
    (fn_Kitchen__window : PySem.W.isFn K (.ref f_Kitchen__window) = true)
    (l_Kitchen__window : K.lookup f_Kitchen__window = some ⟨oc_Kitchen__window, od_Kitchen__window, .func (PySem.W.fnOf "window" "Kitchen.window" (defArgs st_Kitchen__window) (defBody st_Kitchen__window) (defScope st_Kitchen__window) .none kV_Kitchen__window dc_Kitchen__window pm_Kitchen__window an_Kitchen__window cd_Kitchen__window ct_Kitchen__window), sl_Kitchen__window⟩)
    (c_Kitchen__window : PySem.W.codeIn K cd_Kitchen__window "Kitchen.window" = true)
    (k_Kitchen__window : PySem.W.keepIn K (.ref f_Kitchen__window) = true)
    {f_Kitchen__spare : Addr} {oc_Kitchen__spare kV_Kitchen__spare dc_Kitchen__spare pm_Kitchen__spare ct_Kitchen__spare : Value} {od_Kitchen__spare an_Kitchen__spare : Option Addr} {sl_Kitchen__spare : Array (Option Value)} {cd_Kitchen__spare : Value} (a_Kitchen__spare : PySem.W.findIn K (.ref C_Kitchen) "spare" = some (some (.ref f_Kitchen__spare)))
    (fn_Kitchen__spare : PySem.W.isFn K (.ref f_Kitchen__spare) = true)
    (l_Kitchen__spare : K.lookup f_Kitchen__spare = some ⟨oc_Kitchen__spare, od_Kitchen__spare, .func (PySem.W.fnOf "spare" "Kitchen.spare" (defArgs st_Kitchen__spare) (defBody st_Kitchen__spare) (defScope st_Kitchen__spare) .none kV_Kitchen__spare dc_Kitchen__spare pm_Kitchen__spare an_Kitchen__spare cd_Kitchen__spare ct_Kitchen__spare), sl_Kitchen__spare⟩)
    (c_Kitchen__spare : PySem.W.codeIn K cd_Kitchen__spare "Kitchen.spare" = true)
    (k_Kitchen__spare : PySem.W.keepIn K (.ref f_Kitchen__spare) = true)
    {f_windows_of : Addr} {oc_windows_of kV_windows_of dc_windows_of pm_windows_of ct_windows_of : Value} {od_windows_of an_windows_of : Option Addr} {sl_windows_of : Array (Option Value)} {cd_windows_of : Value} (a_windows_of : PySem.W.nsIn K mainGlobals "windows_of" = some (some (.ref f_windows_of)))
    (l_windows_of : K.lookup f_windows_of = some ⟨oc_windows_of, od_windows_of, .func (PySem.W.fnOf "windows_of" "windows_of" (defArgs st_windows_of) (defBody st_windows_of) (defScope st_windows_of) .none kV_windows_of dc_windows_of pm_windows_of an_windows_of cd_windows_of ct_windows_of), sl_windows_of⟩)
    (c_windows_of : PySem.W.codeIn K cd_windows_of "windows_of" = true)
    (k_windows_of : PySem.W.keepIn K (.ref f_windows_of) = true)
    {f_full_station : Addr} {oc_full_station kV_full_station dc_full_station pm_full_station ct_full_station : Value} {od_full_station an_full_station : Option Addr} {sl_full_station : Array (Option Value)} {cd_full_station : Value} (a_full_station : PySem.W.nsIn K mainGlobals "full_station" = some (some (.ref f_full_station)))
    (l_full_station : K.lookup f_full_station = some ⟨oc_full_station, od_full_station, .func (PySem.W.fnOf "full_station" "full_station" (defArgs st_full_station) (defBody st_full_station) (defScope st_full_station) .none kV_full_station dc_full_station pm_full_station an_full_station cd_full_station ct_full_station), sl_full_station⟩)
    (c_full_station : PySem.W.codeIn K cd_full_station "full_station" = true)
    (k_full_station : PySem.W.keepIn K (.ref f_full_station) = true)
    {f_is_row : Addr} {oc_is_row kV_is_row dc_is_row pm_is_row ct_is_row : Value} {od_is_row an_is_row : Option Addr} {sl_is_row : Array (Option Value)} {cd_is_row : Value} (a_is_row : PySem.W.nsIn K mainGlobals "is_row" = some (some (.ref f_is_row)))
    (l_is_row : K.lookup f_is_row = some ⟨oc_is_row, od_is_row, .func (PySem.W.fnOf "is_row" "is_row" (defArgs st_is_row) (defBody st_is_row) (defScope st_is_row) .none kV_is_row dc_is_row pm_is_row an_is_row cd_is_row ct_is_row), sl_is_row⟩)
    (c_is_row : PySem.W.codeIn K cd_is_row "is_row" = true)
    (k_is_row : PySem.W.keepIn K (.ref f_is_row) = true)
    {f_Kitchen__pace : Addr} {oc_Kitchen__pace kV_Kitchen__pace dc_Kitchen__pace pm_Kitchen__pace ct_Kitchen__pace : Value} {od_Kitchen__pace an_Kitchen__pace : Option Addr} {sl_Kitchen__pace : Array (Option Value)} {cd_Kitchen__pace : Value} (a_Kitchen__pace : PySem.W.findIn K (.ref C_Kitchen) "pace" = some (some (.ref f_Kitchen__pace)))
    (fn_Kitchen__pace : PySem.W.isFn K (.ref f_Kitchen__pace) = true)
    (l_Kitchen__pace : K.lookup f_Kitchen__pace = some ⟨oc_Kitchen__pace, od_Kitchen__pace, .func (PySem.W.fnOf "pace" "Kitchen.pace" (defArgs st_Kitchen__pace) (defBody st_Kitchen__pace) (defScope st_Kitchen__pace) .none kV_Kitchen__pace dc_Kitchen__pace pm_Kitchen__pace an_Kitchen__pace cd_Kitchen__pace ct_Kitchen__pace), sl_Kitchen__pace⟩)
    (c_Kitchen__pace : PySem.W.codeIn K cd_Kitchen__pace "Kitchen.pace" = true)
    (k_Kitchen__pace : PySem.W.keepIn K (.ref f_Kitchen__pace) = true)
    {f_judge_word : Addr} {oc_judge_word kV_judge_word dc_judge_word pm_judge_word ct_judge_word : Value} {od_judge_word an_judge_word : Option Addr} {sl_judge_word : Array (Option Value)} {cd_judge_word : Value} (a_judge_word : PySem.W.nsIn K mainGlobals "judge_word" = some (some (.ref f_judge_word)))
    (l_judge_word : K.lookup f_judge_word = some ⟨oc_judge_word, od_judge_word, .func (PySem.W.fnOf "judge_word" "judge_word" (defArgs st_judge_word) (defBody st_judge_word) (defScope st_judge_word) .none kV_judge_word dc_judge_word pm_judge_word an_judge_word cd_judge_word ct_judge_word), sl_judge_word⟩)
    (c_judge_word : PySem.W.codeIn K cd_judge_word "judge_word" = true)
    (k_judge_word : PySem.W.keepIn K (.ref f_judge_word) = true)
    {f__law_judged : Addr} {oc__law_judged kV__law_judged dc__law_judged pm__law_judged ct__law_judged : Value} {od__law_judged an__law_judged : Option Addr} {sl__law_judged : Array (Option Value)} {cd__law_judged : Value} (a__law_judged : PySem.W.nsIn K mainGlobals "_law_judged" = some (some (.ref f__law_judged)))
    (l__law_judged : K.lookup f__law_judged = some ⟨oc__law_judged, od__law_judged, .func (PySem.W.fnOf "_law_judged" "_law_judged" (defArgs st__law_judged) (defBody st__law_judged) (defScope st__law_judged) .none kV__law_judged dc__law_judged pm__law_judged an__law_judged cd__law_judged ct__law_judged), sl__law_judged⟩)
    (c__law_judged : PySem.W.codeIn K cd__law_judged "_law_judged" = true)
    (k__law_judged : PySem.W.keepIn K (.ref f__law_judged) = true)
    {f_law : Addr} {oc_law kV_law dc_law pm_law ct_law : Value} {od_law an_law : Option Addr} {sl_law : Array (Option Value)} {cd_law : Value} (a_law : PySem.W.nsIn K mainGlobals "law" = some (some (.ref f_law)))
    (l_law : K.lookup f_law = some ⟨oc_law, od_law, .func (PySem.W.fnOf "law" "law" (defArgs st_law) (defBody st_law) (defScope st_law) .none kV_law dc_law pm_law an_law cd_law ct_law), sl_law⟩)
    (c_law : PySem.W.codeIn K cd_law "law" = true)
    (k_law : PySem.W.keepIn K (.ref f_law) = true)
    {C_LiftedError : Addr} (a_LiftedError : PySem.W.nsIn K mainGlobals "LiftedError" = some (some (.ref C_LiftedError)))
    {nm_LiftedError q_LiftedError N_LiftedError bs_LiftedError bm_LiftedError sn_LiftedError sub_LiftedError ab_LiftedError col_LiftedError dd_LiftedError k0_LiftedError k1_LiftedError k2_LiftedError k3_LiftedError k5_LiftedError} (e_LiftedError : K.lookup C_LiftedError = some (excClassObj nm_LiftedError q_LiftedError C_LiftedError N_LiftedError bs_LiftedError bm_LiftedError true sn_LiftedError sub_LiftedError ab_LiftedError col_LiftedError dd_LiftedError k0_LiftedError k1_LiftedError k2_LiftedError k3_LiftedError k5_LiftedError "ValueError.__new__"))
    (eb_LiftedError : PySem.HandSPX.refsVE bm_LiftedError = true)
    (es_LiftedError : PySem.W.findIn K (.ref C_LiftedError) "__setattr__" = some (some (.builtin "object.__setattr__")))
    (ex_LiftedError : PySem.W.subIn K (.ref C_LiftedError) (.type "BaseException") = some true)
    (et_LiftedError : PySem.W.typeIn K (.ref C_LiftedError) = some (.type "type"))
    (ek_LiftedError : PySem.W.keepIn K (.ref C_LiftedError) = true)
    (eg_LiftedError : PySem.W.findIn K (.ref C_LiftedError) "__getattribute__" = some (some (.builtin "BaseException.__getattribute__")))
    (ea_LiftedError : PySem.W.findIn K (.ref C_LiftedError) "__getattr__" = some none)
    (ed_LiftedError : PySem.W.hasDictIn K C_LiftedError = true)
    (ec_LiftedError : PySem.W.findIn K (.ref C_LiftedError) "__class__" = some (some (.builtin "object.__class__")))
    (em_LiftedError : PySem.W.mroIn K C_LiftedError (.type "object") = some true)
    {C_BadKitchen : Addr} (a_BadKitchen : PySem.W.nsIn K mainGlobals "BadKitchen" = some (some (.ref C_BadKitchen)))
    {nm_BadKitchen q_BadKitchen N_BadKitchen bs_BadKitchen bm_BadKitchen sn_BadKitchen sub_BadKitchen ab_BadKitchen col_BadKitchen dd_BadKitchen k0_BadKitchen k1_BadKitchen k2_BadKitchen k3_BadKitchen k5_BadKitchen} (e_BadKitchen : K.lookup C_BadKitchen = some (excClassObj nm_BadKitchen q_BadKitchen C_BadKitchen N_BadKitchen bs_BadKitchen bm_BadKitchen true sn_BadKitchen sub_BadKitchen ab_BadKitchen col_BadKitchen dd_BadKitchen k0_BadKitchen k1_BadKitchen k2_BadKitchen k3_BadKitchen k5_BadKitchen "ValueError.__new__"))
    (eb_BadKitchen : PySem.HandSPX.refsVE bm_BadKitchen = true)
    (es_BadKitchen : PySem.W.findIn K (.ref C_BadKitchen) "__setattr__" = some (some (.builtin "object.__setattr__")))
    (ex_BadKitchen : PySem.W.subIn K (.ref C_BadKitchen) (.type "BaseException") = some true)
    (et_BadKitchen : PySem.W.typeIn K (.ref C_BadKitchen) = some (.type "type"))
    (ek_BadKitchen : PySem.W.keepIn K (.ref C_BadKitchen) = true)
    (eg_BadKitchen : PySem.W.findIn K (.ref C_BadKitchen) "__getattribute__" = some (some (.builtin "BaseException.__getattribute__")))
    (ea_BadKitchen : PySem.W.findIn K (.ref C_BadKitchen) "__getattr__" = some none)
    (ed_BadKitchen : PySem.W.hasDictIn K C_BadKitchen = true)
    (ec_BadKitchen : PySem.W.findIn K (.ref C_BadKitchen) "__class__" = some (some (.builtin "object.__class__")))
    (em_BadKitchen : PySem.W.mroIn K C_BadKitchen (.type "object") = some true)
    {C_TooMany : Addr} (a_TooMany : PySem.W.nsIn K mainGlobals "TooMany" = some (some (.ref C_TooMany)))
    {nm_TooMany q_TooMany N_TooMany bs_TooMany bm_TooMany sn_TooMany sub_TooMany ab_TooMany col_TooMany dd_TooMany k0_TooMany k1_TooMany k2_TooMany k3_TooMany k5_TooMany} (e_TooMany : K.lookup C_TooMany = some (excClassObj nm_TooMany q_TooMany C_TooMany N_TooMany bs_TooMany bm_TooMany true sn_TooMany sub_TooMany ab_TooMany col_TooMany dd_TooMany k0_TooMany k1_TooMany k2_TooMany k3_TooMany k5_TooMany "ValueError.__new__"))
    (eb_TooMany : PySem.HandSPX.refsVE bm_TooMany = true)
    (es_TooMany : PySem.W.findIn K (.ref C_TooMany) "__setattr__" = some (some (.builtin "object.__setattr__")))
    (ex_TooMany : PySem.W.subIn K (.ref C_TooMany) (.type "BaseException") = some true)
    (et_TooMany : PySem.W.typeIn K (.ref C_TooMany) = some (.type "type"))
    (ek_TooMany : PySem.W.keepIn K (.ref C_TooMany) = true)
    (eg_TooMany : PySem.W.findIn K (.ref C_TooMany) "__getattribute__" = some (some (.builtin "BaseException.__getattribute__")))
    (ea_TooMany : PySem.W.findIn K (.ref C_TooMany) "__getattr__" = some none)
    (ed_TooMany : PySem.W.hasDictIn K C_TooMany = true)
    (ec_TooMany : PySem.W.findIn K (.ref C_TooMany) "__class__" = some (some (.builtin "object.__class__")))
    (em_TooMany : PySem.W.mroIn K C_TooMany (.type "object") = some true)
    (cn : PySem.W.specialIn K (.builtin "object.__class__") "__get__" = some (some (.builtin "getset_descriptor.__get__")))
    (ct : PySem.W.takesIn K (.builtin "object.__class__") = some true)
    (lg : PySem.W.specialIn K (.ref C_LiftedError) "__getattribute__" = some (some (.builtin "type.__getattribute__")))
    (lr : PySem.W.readsIn K C_LiftedError (.type "type") = true)
    (li : PySem.W.findCls K (.ref C_LiftedError) (.type "type") "__init__" = some (.val (.builtin "ValueError.__init__")))
    {i_BadKitchen : Addr} {ioc_BadKitchen ikV_BadKitchen idc_BadKitchen ipm_BadKitchen ict_BadKitchen icd_BadKitchen : Value} {iod_BadKitchen ian_BadKitchen : Option Addr} {isl_BadKitchen : Array (Option Value)} (ia_BadKitchen : PySem.W.findIn K (.ref C_BadKitchen) "__init__" = some (some (.ref i_BadKitchen)))
    (it_BadKitchen : PySem.W.typeIn K (.ref i_BadKitchen) = some (.type "function"))
    (il_BadKitchen : K.lookup i_BadKitchen = some ⟨ioc_BadKitchen, iod_BadKitchen, .func (PySem.W.fnOf "__init__" "BadKitchen.__init__" (defArgs in_BadKitchen) (defBody in_BadKitchen) (defScope in_BadKitchen) .none ikV_BadKitchen idc_BadKitchen ipm_BadKitchen ian_BadKitchen icd_BadKitchen ict_BadKitchen), isl_BadKitchen⟩)
    (ic_BadKitchen : PySem.W.codeIn K icd_BadKitchen "BadKitchen.__init__" = true)
    (ik_BadKitchen : PySem.W.keepIn K (.ref i_BadKitchen) = true)
    (if_BadKitchen_what : PySem.W.findIn K (.ref C_BadKitchen) "what" = some none)
    (if_BadKitchen_station : PySem.W.findIn K (.ref C_BadKitchen) "station" = some none)
    {i_TooMany : Addr} {ioc_TooMany ikV_TooMany idc_TooMany ipm_TooMany ict_TooMany icd_TooMany : Value} {iod_TooMany ian_TooMany : Option Addr} {isl_TooMany : Array (Option Value)} (ia_TooMany : PySem.W.findIn K (.ref C_TooMany) "__init__" = some (some (.ref i_TooMany)))
    (it_TooMany : PySem.W.typeIn K (.ref i_TooMany) = some (.type "function"))
    (il_TooMany : K.lookup i_TooMany = some ⟨ioc_TooMany, iod_TooMany, .func (PySem.W.fnOf "__init__" "TooMany.__init__" (defArgs in_TooMany) (defBody in_TooMany) (defScope in_TooMany) .none ikV_TooMany idc_TooMany ipm_TooMany ian_TooMany icd_TooMany ict_TooMany), isl_TooMany⟩)
    (ic_TooMany : PySem.W.codeIn K icd_TooMany "TooMany.__init__" = true)
    (ik_TooMany : PySem.W.keepIn K (.ref i_TooMany) = true)
    (if_TooMany_what : PySem.W.findIn K (.ref C_TooMany) "what" = some none)
    {b_LIMITS : Addr} {es_LIMITS : Array DictEntry} {en_LIMITS : Nat} (a_LIMITS : PySem.W.nsIn K mainGlobals "LIMITS" = some (some (.ref b_LIMITS)))
    (l_LIMITS : K.lookup b_LIMITS = some ⟨.type "dict", none, .dict es_LIMITS en_LIMITS, #[]⟩)
    (kl_LIMITS : PySem.W.KeysLit w.params es_LIMITS.toList)
    {tk_LIMITS_0 : Tok} (d_LIMITS_0 : PySem.W.nsIn K b_LIMITS "stations" = some (some (.int 6 tk_LIMITS_0)))
    {tk_LIMITS_1 : Tok} (d_LIMITS_1 : PySem.W.nsIn K b_LIMITS "burners" = some (some (.int 200 tk_LIMITS_1)))
    {tk_LIMITS_2 : Tok} (d_LIMITS_2 : PySem.W.nsIn K b_LIMITS "stays" = some (some (.int 60 tk_LIMITS_2)))
    {tk_LIMITS_3 : Tok} (d_LIMITS_3 : PySem.W.nsIn K b_LIMITS "pace" = some (some (.int 12 tk_LIMITS_3)))
    (b_ValueError : PySem.W.nsIn K mainGlobals "ValueError" = some none)
    (b_abs : PySem.W.nsIn K mainGlobals "abs" = some none)
    (b_bool : PySem.W.nsIn K mainGlobals "bool" = some none)
    (b_dict : PySem.W.nsIn K mainGlobals "dict" = some none)
    (b_int : PySem.W.nsIn K mainGlobals "int" = some none)
    (b_isinstance : PySem.W.nsIn K mainGlobals "isinstance" = some none)
    (b_len : PySem.W.nsIn K mainGlobals "len" = some none)
    (b_list : PySem.W.nsIn K mainGlobals "list" = some none)
    (b_max : PySem.W.nsIn K mainGlobals "max" = some none)
    (b_min : PySem.W.nsIn K mainGlobals "min" = some none)
    (b_range : PySem.W.nsIn K mainGlobals "range" = some none)
    (b_sorted : PySem.W.nsIn K mainGlobals "sorted" = some none)
    (b_str : PySem.W.nsIn K mainGlobals "str" = some none)
    (b_sum : PySem.W.nsIn K mainGlobals "sum" = some none)
    (b_tuple : PySem.W.nsIn K mainGlobals "tuple" = some none)
    : LamX.LawAtS l w K (L2.CX l.prog w) 9 63 "script" mg fa h := by
  let c : Cg := ⟨K, mg, ciT⟩
  have m_Kitchen : c.mg "Kitchen" = some (.ref C_Kitchen) := PySem.W.mg_of X G a_Kitchen
  have cl_Kitchen : L2.Cls c.K C_Kitchen := ⟨p1_Kitchen, p2_Kitchen, p3_Kitchen, p4_Kitchen⟩
  have D__law_stock := defF_mk (c := c) (ps := p__law_stock) X G a__law_stock l__law_stock c__law_stock k__law_stock fun _ _ _ _ _ _ us hl => match us, hl with | [_, _], _ => rfl
  have D__law_draw := defF_mk (c := c) (ps := p__law_draw) X G a__law_draw l__law_draw c__law_draw k__law_draw fun _ _ _ _ _ _ us hl => match us, hl with | [_, _], _ => rfl
  have D__law_built := defF_mk (c := c) (ps := p__law_built) X G a__law_built l__law_built c__law_built k__law_built fun _ _ _ _ _ _ us hl => match us, hl with | [_, _, _, _], _ => rfl
  have D__law_far_words := defF_mk (c := c) (ps := p__law_far_words) X G a__law_far_words l__law_far_words c__law_far_words k__law_far_words fun _ _ _ _ _ _ us hl => match us, hl with | [_], _ => rfl
  have D_full_rows := defF_mk (c := c) (ps := p_full_rows) X G a_full_rows l_full_rows c_full_rows k_full_rows fun _ _ _ _ _ _ us hl => match us, hl with | [_], _ => rfl
  have D_check := defF_mk (c := c) (ps := p_check) X G a_check l_check c_check k_check fun _ _ _ _ _ _ us hl => match us, hl with | [_, _], _ => rfl
  have D_check_each := defF_mk (c := c) (ps := p_check_each) X G a_check_each l_check_each c_check_each k_check_each fun _ _ _ _ _ _ us hl => match us, hl with | [_, _], _ => rfl
  have D_check_rows := defF_mk (c := c) (ps := p_check_rows) X G a_check_rows l_check_rows c_check_rows k_check_rows fun _ _ _ _ _ _ us hl => match us, hl with | [_], _ => rfl
  have D_Kitchen____init__ := fun_mk l_Kitchen____init__ c_Kitchen____init__ k_Kitchen____init__
  have D__law_as_kitchen := defF_mk (c := c) (ps := p__law_as_kitchen) X G a__law_as_kitchen l__law_as_kitchen c__law_as_kitchen k__law_as_kitchen fun _ _ _ _ _ _ us hl => match us, hl with | [_], _ => rfl
  have D__law_judge_world := defF_mk (c := c) (ps := p__law_judge_world) X G a__law_judge_world l__law_judge_world c__law_judge_world k__law_judge_world fun _ _ _ _ _ _ us hl => match us, hl with | [_], _ => rfl
  have D__law_all_rows := defF_mk (c := c) (ps := p__law_all_rows) X G a__law_all_rows l__law_all_rows c__law_all_rows k__law_all_rows fun _ _ _ _ _ _ us hl => match us, hl with | [_, _], _ => rfl
  have D__law_spares := defF_mk (c := c) (ps := p__law_spares) X G a__law_spares l__law_spares c__law_spares k__law_spares fun _ _ _ _ _ _ us hl => match us, hl with | [_], _ => rfl
  have D__law_windows := defF_mk (c := c) (ps := p__law_windows) X G a__law_windows l__law_windows c__law_windows k__law_windows fun _ _ _ _ _ _ us hl => match us, hl with | [_], _ => rfl
  have D__law_row_after := defF_mk (c := c) (ps := p__law_row_after) X G a__law_row_after l__law_row_after c__law_row_after k__law_row_after fun _ _ _ _ _ _ us hl => match us, hl with | [_, _, _, _], _ => rfl
  have D__law_right_word := defF_mk (c := c) (ps := p__law_right_word) X G a__law_right_word l__law_right_word c__law_right_word k__law_right_word fun _ _ _ _ _ _ us hl => match us, hl with | [_, _, _], _ => rfl
  have D__law_too_much := defF_mk (c := c) (ps := p__law_too_much) X G a__law_too_much l__law_too_much c__law_too_much k__law_too_much fun _ _ _ _ _ _ us hl => match us, hl with | [_, _], _ => rfl
  have D__law_wrong_form := defF_mk (c := c) (ps := p__law_wrong_form) X G a__law_wrong_form l__law_wrong_form c__law_wrong_form k__law_wrong_form fun _ _ _ _ _ _ us hl => match us, hl with | [_, _, _], _ => rfl
  have D__law_bent_words := defF_mk (c := c) (ps := p__law_bent_words) X G a__law_bent_words l__law_bent_words c__law_bent_words k__law_bent_words fun _ _ _ _ _ _ us hl => match us, hl with | [_, _, _], _ => rfl
  have D__law_entries := defF_mk (c := c) (ps := p__law_entries) X G a__law_entries l__law_entries c__law_entries k__law_entries fun _ _ _ _ _ _ us hl => match us, hl with | [_, _, _, _], _ => rfl
  have D__law_wrong_row := defF_mk (c := c) (ps := p__law_wrong_row) X G a__law_wrong_row l__law_wrong_row c__law_wrong_row k__law_wrong_row fun _ _ _ _ _ _ us hl => match us, hl with | [_, _], _ => rfl
  have D__law_word_fault := defF_mk (c := c) (ps := p__law_word_fault) X G a__law_word_fault l__law_word_fault c__law_word_fault k__law_word_fault fun _ _ _ _ _ _ us hl => match us, hl with | [_, _], _ => rfl
  have D__law_matches := defF_mk (c := c) (ps := p__law_matches) X G a__law_matches l__law_matches c__law_matches k__law_matches fun _ _ _ _ _ _ us hl => match us, hl with | [_, _], _ => rfl
  have D_Kitchen__many := fun_mk l_Kitchen__many c_Kitchen__many k_Kitchen__many
  have D_Kitchen__check_station := fun_mk l_Kitchen__check_station c_Kitchen__check_station k_Kitchen__check_station
  have D_Kitchen__window := fun_mk l_Kitchen__window c_Kitchen__window k_Kitchen__window
  have D_Kitchen__spare := fun_mk l_Kitchen__spare c_Kitchen__spare k_Kitchen__spare
  have D_windows_of := defF_mk (c := c) (ps := p_windows_of) X G a_windows_of l_windows_of c_windows_of k_windows_of fun _ _ _ _ _ _ us hl => match us, hl with | [_], _ => rfl
  have D_full_station := defF_mk (c := c) (ps := p_full_station) X G a_full_station l_full_station c_full_station k_full_station fun _ _ _ _ _ _ us hl => match us, hl with | [_, _, _], _ => rfl
  have D_is_row := defF_mk (c := c) (ps := p_is_row) X G a_is_row l_is_row c_is_row k_is_row fun _ _ _ _ _ _ us hl => match us, hl with | [_, _, _], _ => rfl
  have D_Kitchen__pace := fun_mk l_Kitchen__pace c_Kitchen__pace k_Kitchen__pace
  have D_judge_word := defF_mk (c := c) (ps := p_judge_word) X G a_judge_word l_judge_word c_judge_word k_judge_word fun _ _ _ _ _ _ us hl => match us, hl with | [_, _], _ => rfl
  have D__law_judged := defF_mk (c := c) (ps := p__law_judged) X G a__law_judged l__law_judged c__law_judged k__law_judged fun _ _ _ _ _ _ us hl => match us, hl with | [_, _, _, _], _ => rfl
  have D_law := defF_mk (c := c) (ps := p_law) X G a_law l_law c_law k_law fun _ _ _ _ _ _ us hl => match us, hl with | [_], _ => rfl
  have m_LiftedError : c.mg "LiftedError" = some (.ref C_LiftedError) := PySem.W.mg_of X G a_LiftedError
  have E_LiftedError : ExcF c.K C_LiftedError := excF_mk e_LiftedError eb_LiftedError es_LiftedError ex_LiftedError et_LiftedError ek_LiftedError eg_LiftedError ea_LiftedError ed_LiftedError ec_LiftedError cn ct em_LiftedError
  have m_BadKitchen : c.mg "BadKitchen" = some (.ref C_BadKitchen) := PySem.W.mg_of X G a_BadKitchen
  have E_BadKitchen : ExcF c.K C_BadKitchen := excF_mk e_BadKitchen eb_BadKitchen es_BadKitchen ex_BadKitchen et_BadKitchen ek_BadKitchen eg_BadKitchen ea_BadKitchen ed_BadKitchen ec_BadKitchen cn ct em_BadKitchen
  have m_TooMany : c.mg "TooMany" = some (.ref C_TooMany) := PySem.W.mg_of X G a_TooMany
  have E_TooMany : ExcF c.K C_TooMany := excF_mk e_TooMany eb_TooMany es_TooMany ex_TooMany et_TooMany ek_TooMany eg_TooMany ea_TooMany ed_TooMany ec_TooMany cn ct em_TooMany
  have m_LIMITS : c.mg "LIMITS" = some (.ref b_LIMITS) := PySem.W.mg_of X G a_LIMITS
  have AA : AtOk c AT := (List.forall_mem_cons.mpr ⟨⟨C_Kitchen, m_Kitchen, cl_Kitchen, na_Kitchen_pace_number⟩, (List.forall_mem_cons.mpr ⟨⟨C_Kitchen, m_Kitchen, cl_Kitchen, na_Kitchen_row_list⟩, (fun _ z => nomatch z)⟩)⟩)
  have B : NoG c BL := (List.forall_mem_cons.mpr ⟨PySem.W.mg_none_of X G b_ValueError, (List.forall_mem_cons.mpr ⟨PySem.W.mg_none_of X G b_abs, (List.forall_mem_cons.mpr ⟨PySem.W.mg_none_of X G b_bool, (List.forall_mem_cons.mpr ⟨PySem.W.mg_none_of X G b_dict, (List.forall_mem_cons.mpr ⟨PySem.W.mg_none_of X G b_int, (List.forall_mem_cons.mpr ⟨PySem.W.mg_none_of X G b_isinstance, (List.forall_mem_cons.mpr ⟨PySem.W.mg_none_of X G b_len, (List.forall_mem_cons.mpr ⟨PySem.W.mg_none_of X G b_list, (List.forall_mem_cons.mpr ⟨PySem.W.mg_none_of X G b_max, (List.forall_mem_cons.mpr ⟨PySem.W.mg_none_of X G b_min, (List.forall_mem_cons.mpr ⟨PySem.W.mg_none_of X G b_range, (List.forall_mem_cons.mpr ⟨PySem.W.mg_none_of X G b_sorted, (List.forall_mem_cons.mpr ⟨PySem.W.mg_none_of X G b_str, (List.forall_mem_cons.mpr ⟨PySem.W.mg_none_of X G b_sum, (List.forall_mem_cons.mpr ⟨PySem.W.mg_none_of X G b_tuple, (fun _ z => nomatch z)⟩)⟩)⟩)⟩)⟩)⟩)⟩)⟩)⟩)⟩)⟩)⟩)⟩)⟩)⟩)
  have hT : ExOk c.K c.mg exT := exOk_by (fun _ z => nomatch z) (fun _ z => nomatch z) (List.forall_mem_cons.mpr ⟨⟨C_BadKitchen, m_BadKitchen, E_BadKitchen.xf, if_BadKitchen_what⟩, (List.forall_mem_cons.mpr ⟨⟨C_BadKitchen, m_BadKitchen, E_BadKitchen.xf, if_BadKitchen_station⟩, (List.forall_mem_cons.mpr ⟨⟨C_TooMany, m_TooMany, E_TooMany.xf, if_TooMany_what⟩, (fun _ z => nomatch z)⟩)⟩)⟩)
  have LB : IniB c.K C_LiftedError := ⟨lg, lr, li⟩
  have t_LIMITS : TabOk c w b_LIMITS tab_LIMITS := tabOk_by l_LIMITS kl_LIMITS (List.forall_mem_cons.mpr ⟨⟨_, _, rfl, d_LIMITS_0⟩, (List.forall_mem_cons.mpr ⟨⟨_, _, rfl, d_LIMITS_1⟩, (List.forall_mem_cons.mpr ⟨⟨_, _, rfl, d_LIMITS_2⟩, (List.forall_mem_cons.mpr ⟨⟨_, _, rfl, d_LIMITS_3⟩, (fun _ z => nomatch z)⟩)⟩)⟩)⟩)
  refine ⟨PySem.W.fnOf "law" "law" (defArgs st_law) (defBody st_law) (defScope st_law) .none kV_law dc_law pm_law an_law cd_law ct_law, [], spM c 1 F_law, (fun _ z => nomatch z), (fun _ z => nomatch z), (fun _ z => nomatch z), fun s v => .of_eq rfl, fun H a ns hn hbits hT0 hS => ?_, fun base KB GB TB => ?_⟩
  · obtain ⟨h2, e⟩ := law_true ns hn hbits
    exact law_sp (tabs := tabs0) (fun _ z => nomatch z) (by decide) hS e
  · have R_BadKitchen : Ra c l.prog w base 1 "BadKitchen" ["what", "station"] := ra_mk E_BadKitchen m_BadKitchen ia_BadKitchen it_BadKitchen (ini2 (k := 0) (inF_mk il_BadKitchen ic_BadKitchen ik_BadKitchen) rfl inS_BadKitchen E_BadKitchen.o LB if_BadKitchen_what if_BadKitchen_station rfl (fun _ => ⟨_, rfl⟩) rfl m_LiftedError rfl rfl rfl) ((inF_mk il_BadKitchen ic_BadKitchen ik_BadKitchen).binds fun _ _ _ _ _ _ us hl => match us, hl with | [_, _, _], _ => rfl)
    have R_TooMany : Ra c l.prog w base 1 "TooMany" ["what"] := ra_mk E_TooMany m_TooMany ia_TooMany it_TooMany (ini1 (k := 0) (inF_mk il_TooMany ic_TooMany ik_TooMany) rfl inS_TooMany E_TooMany.o LB if_TooMany_what rfl (fun _ => ⟨_, rfl⟩) rfl m_LiftedError rfl rfl) ((inF_mk il_TooMany ic_TooMany ik_TooMany).binds fun _ _ _ _ _ _ us hl => match us, hl with | [_, _], _ => rfl)
    have G__law_stock : Gd c l.prog w base 2 "_law_stock" 2 F__law_stock := gd_of D__law_stock S__law_stock rfl rfl fun X W C Fn St Fr => d__law_stock (k := 0) C Fn St Fr B
    have G__law_draw : Gd c l.prog w base 2 "_law_draw" 2 F__law_draw := gd_of D__law_draw S__law_draw rfl rfl fun X W C Fn St Fr => d__law_draw (k := 0) C Fn St Fr B
    have G__law_built : Gd c l.prog w base 3 "_law_built" 4 F__law_built := gd_of D__law_built S__law_built rfl rfl fun X W C Fn St Fr => d__law_built (k := 1) C Fn St Fr B (G__law_draw.mono (by decide))
    have G__law_far_words : Gd c l.prog w base 4 "_law_far_words" 1 F__law_far_words := gd_of D__law_far_words S__law_far_words rfl rfl fun X W C Fn St Fr => d__law_far_words (k := 2) C Fn St Fr B (G__law_draw.mono (by decide)) (G__law_built.mono (by decide))
    have G_full_rows : Gd c l.prog w base 2 "full_rows" 1 F_full_rows := gd_of D_full_rows S_full_rows rfl rfl fun X W C Fn St Fr => d_full_rows (k := 0) C Fn St Fr B
    have G_check : Gd c l.prog w base 3 "check" 2 F_check := gd_of D_check S_check rfl rfl fun X W C Fn St Fr => d_check (k := 1) C Fn St Fr B (R_TooMany.mono (by decide)) m_LIMITS t_LIMITS
    have G_check_each : Gd c l.prog w base 4 "check_each" 2 F_check_each := gd_of D_check_each S_check_each rfl rfl fun X W C Fn St Fr => d_check_each (k := 2) C Fn St Fr B (G_check.mono (by decide))
    have G_check_rows : Gd c l.prog w base 3 "check_rows" 1 F_check_rows := gd_of D_check_rows S_check_rows rfl rfl fun X W C Fn St Fr => d_check_rows (k := 1) C Fn St Fr B (G_full_rows.mono (by decide)) (R_BadKitchen.mono (by decide))
    have N_Kitchen : Gn c l.prog w base 5 "Kitchen" 2 F_Kitchen____init__ := gn_of m_Kitchen ⟨p6_Kitchen, a_Kitchen____init__, fn_Kitchen____init__, p5_Kitchen⟩ D_Kitchen____init__ S_Kitchen____init__ (D_Kitchen____init__.binds fun _ _ _ _ _ _ us hl => match us, hl with | [_, _, _], _ => rfl) rfl rfl fun X W C Fn St Fr => d_Kitchen____init__ (k := 3) C Fn St Fr B AA (G_full_rows.mono (by decide)) (G_check.mono (by decide)) (G_check_each.mono (by decide)) (G_check_rows.mono (by decide)) (R_BadKitchen.mono (by decide))
    have G__law_as_kitchen : Gd c l.prog w base 7 "_law_as_kitchen" 1 F__law_as_kitchen := gd_of D__law_as_kitchen S__law_as_kitchen rfl rfl fun X W C Fn St Fr => d__law_as_kitchen (k := 5) C Fn St Fr B (N_Kitchen.mono (by decide))
    have G__law_judge_world : Gd c l.prog w base 4 "_law_judge_world" 1 F__law_judge_world := gd_of D__law_judge_world S__law_judge_world rfl rfl fun X W C Fn St Fr => d__law_judge_world (k := 2) C Fn St Fr B (G__law_draw.mono (by decide)) (G__law_built.mono (by decide))
    have G__law_all_rows : Gd c l.prog w base 2 "_law_all_rows" 2 F__law_all_rows := gd_of D__law_all_rows S__law_all_rows rfl rfl fun X W C Fn St Fr => d__law_all_rows (k := 0) C Fn St Fr B
    have G__law_spares : Gd c l.prog w base 2 "_law_spares" 1 F__law_spares := gd_of D__law_spares S__law_spares rfl rfl fun X W C Fn St Fr => d__law_spares (k := 0) C Fn St Fr B
    have G__law_windows : Gd c l.prog w base 2 "_law_windows" 1 F__law_windows := gd_of D__law_windows S__law_windows rfl rfl fun X W C Fn St Fr => d__law_windows (k := 0) C Fn St Fr B
    have G__law_row_after : Gd c l.prog w base 3 "_law_row_after" 4 F__law_row_after := gd_of D__law_row_after S__law_row_after rfl rfl fun X W C Fn St Fr => d__law_row_after (k := 1) C Fn St Fr B (G__law_spares.mono (by decide)) (G__law_windows.mono (by decide))
    have G__law_right_word : Gd c l.prog w base 4 "_law_right_word" 3 F__law_right_word := gd_of D__law_right_word S__law_right_word rfl rfl fun X W C Fn St Fr => d__law_right_word (k := 2) C Fn St Fr B (G__law_all_rows.mono (by decide)) (G__law_row_after.mono (by decide)) (G__law_draw.mono (by decide))
    have G__law_too_much : Gd c l.prog w base 4 "_law_too_much" 2 F__law_too_much := gd_of D__law_too_much S__law_too_much rfl rfl fun X W C Fn St Fr => d__law_too_much (k := 2) C Fn St Fr B (G__law_all_rows.mono (by decide)) (G__law_row_after.mono (by decide))
    have G__law_wrong_form : Gd c l.prog w base 3 "_law_wrong_form" 3 F__law_wrong_form := gd_of D__law_wrong_form S__law_wrong_form rfl rfl fun X W C Fn St Fr => d__law_wrong_form (k := 1) C Fn St Fr B (G__law_draw.mono (by decide))
    have G__law_bent_words : Gd c l.prog w base 5 "_law_bent_words" 3 F__law_bent_words := gd_of D__law_bent_words S__law_bent_words rfl rfl fun X W C Fn St Fr => d__law_bent_words (k := 3) C Fn St Fr B (G__law_draw.mono (by decide)) (G__law_too_much.mono (by decide)) (G__law_wrong_form.mono (by decide)) (G__law_all_rows.mono (by decide))
    have G__law_entries : Gd c l.prog w base 2 "_law_entries" 4 F__law_entries := gd_of D__law_entries S__law_entries rfl rfl fun X W C Fn St Fr => d__law_entries (k := 0) C Fn St Fr B
    have G__law_wrong_row : Gd c l.prog w base 3 "_law_wrong_row" 2 F__law_wrong_row := gd_of D__law_wrong_row S__law_wrong_row rfl rfl fun X W C Fn St Fr => d__law_wrong_row (k := 1) C Fn St Fr B (G__law_spares.mono (by decide)) (G__law_windows.mono (by decide)) (G__law_entries.mono (by decide))
    have G__law_word_fault : Gd c l.prog w base 4 "_law_word_fault" 2 F__law_word_fault := gd_of D__law_word_fault S__law_word_fault rfl rfl fun X W C Fn St Fr => d__law_word_fault (k := 2) C Fn St Fr B (G__law_wrong_row.mono (by decide))
    have G__law_matches : Gd c l.prog w base 7 "_law_matches" 2 F__law_matches := gd_rec2 (k := 0) D__law_matches rfl (fun _ _ => rfl) (fun j G__law_matches => gd_of D__law_matches S__law_matches rfl rfl fun X W C Fn St Fr => d__law_matches (k := j + 0) C Fn St Fr B hT G__law_matches) 6
    have M_Kitchen__many : Gm c l.prog w base 2 "Kitchen" "many" 0 F_Kitchen__many := gm_of m_Kitchen cl_Kitchen ⟨a_Kitchen__many, fn_Kitchen__many, k_Kitchen__many⟩ D_Kitchen__many S_Kitchen__many (D_Kitchen__many.binds fun _ _ _ _ _ _ us hl => match us, hl with | [_], _ => rfl) rfl rfl fun X W C Fn St Fr => d_Kitchen__many (k := 0) C Fn St Fr B AA
    have M_Kitchen__check_station : Gm c l.prog w base 3 "Kitchen" "check_station" 1 F_Kitchen__check_station := gm_of m_Kitchen cl_Kitchen ⟨a_Kitchen__check_station, fn_Kitchen__check_station, k_Kitchen__check_station⟩ D_Kitchen__check_station S_Kitchen__check_station (D_Kitchen__check_station.binds fun _ _ _ _ _ _ us hl => match us, hl with | [_, _], _ => rfl) rfl rfl fun X W C Fn St Fr => d_Kitchen__check_station (k := 1) C Fn St Fr B AA (R_BadKitchen.mono (by decide))
    have M_Kitchen__window : Gm c l.prog w base 4 "Kitchen" "window" 1 F_Kitchen__window := gm_of m_Kitchen cl_Kitchen ⟨a_Kitchen__window, fn_Kitchen__window, k_Kitchen__window⟩ D_Kitchen__window S_Kitchen__window (D_Kitchen__window.binds fun _ _ _ _ _ _ us hl => match us, hl with | [_, _], _ => rfl) rfl rfl fun X W C Fn St Fr => d_Kitchen__window (k := 2) C Fn St Fr B AA (M_Kitchen__check_station.mono (by decide))
    have M_Kitchen__spare : Gm c l.prog w base 4 "Kitchen" "spare" 1 F_Kitchen__spare := gm_of m_Kitchen cl_Kitchen ⟨a_Kitchen__spare, fn_Kitchen__spare, k_Kitchen__spare⟩ D_Kitchen__spare S_Kitchen__spare (D_Kitchen__spare.binds fun _ _ _ _ _ _ us hl => match us, hl with | [_, _], _ => rfl) rfl rfl fun X W C Fn St Fr => d_Kitchen__spare (k := 2) C Fn St Fr B AA (M_Kitchen__check_station.mono (by decide))
    have G_windows_of : Gd c l.prog w base 5 "windows_of" 1 F_windows_of := gd_of D_windows_of S_windows_of rfl rfl fun X W C Fn St Fr => d_windows_of (k := 3) C Fn St Fr B (M_Kitchen__window.mono (by decide)) (M_Kitchen__spare.mono (by decide)) (M_Kitchen__many.mono (by decide))
    have G_full_station : Gd c l.prog w base 2 "full_station" 3 F_full_station := gd_of D_full_station S_full_station rfl rfl fun X W C Fn St Fr => d_full_station (k := 0) C Fn St Fr B
    have G_is_row : Gd c l.prog w base 2 "is_row" 3 F_is_row := gd_of D_is_row S_is_row rfl rfl fun X W C Fn St Fr => d_is_row (k := 0) C Fn St Fr B
    have M_Kitchen__pace : Gm c l.prog w base 2 "Kitchen" "pace" 0 F_Kitchen__pace := gm_of m_Kitchen cl_Kitchen ⟨a_Kitchen__pace, fn_Kitchen__pace, k_Kitchen__pace⟩ D_Kitchen__pace S_Kitchen__pace (D_Kitchen__pace.binds fun _ _ _ _ _ _ us hl => match us, hl with | [_], _ => rfl) rfl rfl fun X W C Fn St Fr => d_Kitchen__pace (k := 0) C Fn St Fr B AA
    have G_judge_word : Gd c l.prog w base 6 "judge_word" 2 F_judge_word := gd_of D_judge_word S_judge_word rfl rfl fun X W C Fn St Fr => d_judge_word (k := 4) C Fn St Fr B (M_Kitchen__pace.mono (by decide)) (M_Kitchen__many.mono (by decide)) (G_windows_of.mono (by decide)) (G_is_row.mono (by decide)) (G_full_station.mono (by decide))
    have G__law_judged : Gd c l.prog w base 8 "_law_judged" 4 F__law_judged := gd_of D__law_judged S__law_judged rfl rfl fun X W C Fn St Fr => d__law_judged (k := 6) C Fn St Fr B (G__law_word_fault.mono (by decide)) (G__law_matches.mono (by decide)) (G_judge_word.mono (by decide))
    have e := hfa.symm.trans (PySem.W.mg_of X G a_law)
    cases e
    exact fnD_of (c := c) (k := 8) D_law S_law rfl rfl fun X W C Fn St Fr => d_law (k := 7) C Fn St Fr B (G__law_stock.mono (by decide)) (G__law_judge_world.mono (by decide)) (G__law_as_kitchen.mono (by decide)) (G__law_right_word.mono (by decide)) (G__law_draw.mono (by decide)) (G__law_judged.mono (by decide)) (G__law_bent_words.mono (by decide)) (G__law_far_words.mono (by decide)) (G__law_word_fault.mono (by decide))
end MM.K04

namespace MM.K04
open PySem PySem.Spec PyProof.Rows L2
abbrev RW := Bool × List Int
def rowOf (w : RW) : DV := if w.1 then .tup (w.2.map .int) else .lst (w.2.map .int)
theorem rowSeq (w : RW) : SeqD (rowOf w) (w.2.map .int) := by
  unfold rowOf
  cases w.1
  · exact .inl rfl
  · exact .inr rfl
abbrev r3 (t : Int × Int × Int) : DV := .tup [.int t.1, .int t.2.1, .int t.2.2]
abbrev kD (p : Int) (rs : List (Int × Int × Int)) : DV := .tup [.int p, .lst (rs.map r3)]
abbrev insD (p : Int) (rs : List (Int × Int × Int)) : DV := .ins "Kitchen" [("pace_number", .int p), ("row_list", .lst (rs.map r3))]
structure KOk (p : Int) (rs : List (Int × Int × Int)) : Prop where
  p1 : 1 ≤ p ∧ p ≤ 12
  n1 : 1 ≤ rs.length ∧ rs.length ≤ 6
  r1 : ∀ t ∈ rs, (0 ≤ t.1 ∧ t.1 ≤ 200) ∧ (1 ≤ t.2.1 ∧ t.2.1 ≤ 60) ∧ (0 ≤ t.2.2 ∧ t.2.2 ≤ 60)
def sp (p : Int) (t : Int × Int × Int) : Int := t.1 - p * t.2.2
def wn (t : Int × Int × Int) : Int := t.2.1 - t.2.2
theorem k0 (p : Int) (rs) (h : HS) : oItem h (.d (kD p rs)) (.d (.int 0)) = some (.d (.int p)) := rfl
theorem k1 (p : Int) (rs) (h : HS) : oItem h (.d (kD p rs)) (.d (.int 1)) = some (.d (.lst (rs.map r3))) := rfl
theorem k1U (p : Int) (rs) (h : HS) : itemU h (.d (kD p rs)) (.d (.int 1)) = some (.d (.lst (rs.map r3))) := rfl
theorem k0U (p : Int) (rs) (h : HS) : itemU h (.d (kD p rs)) (.d (.int 0)) = some (.d (.int p)) := rfl
theorem t0 (t : Int × Int × Int) (h : HS) : oItem h (.d (r3 t)) (.d (.int 0)) = some (.d (.int t.1)) := rfl
theorem t1 (t : Int × Int × Int) (h : HS) : oItem h (.d (r3 t)) (.d (.int 1)) = some (.d (.int t.2.1)) := rfl
theorem t2 (t : Int × Int × Int) (h : HS) : oItem h (.d (r3 t)) (.d (.int 2)) = some (.d (.int t.2.2)) := rfl
theorem t2U (t : Int × Int × Int) (h : HS) : itemU h (.d (r3 t)) (.d (.int 2)) = some (.d (.int t.2.2)) := rfl
theorem frz_map {α} (f : α → DV) (xs : List α) : frzQ (.d (.lst (xs.map f))) = some (xs.map fun x => UV.d (f x)) := by
  simp only [frzQ, List.map_map]; rfl
theorem seq_frz {α} {x : DV} {f : α → DV} {xs : List α} (s : SeqD x (xs.map f)) : frzQ (.d x) = some (xs.map fun x => UV.d (f x)) := by
  have := s.frz
  rw [List.map_map] at this
  exact this
/-- a comprehension that maps -/
theorem comp_map {α : Type} {m me : ME} {td : Nat} {σ : SL} {h : HS} {x : UV} {f : α → UV} {g : α → UV} {xs : List α} (e0 : m σ h = .ok x h) (fq : frzQ x = some (xs.map f)) (hl : xs.length ≤ 1000) (hm : ∀ a ∈ xs, me ((wipeU σ [td]).set td (some (f a))) h = .ok (g a) h) : mComp m (tdN td) [td] mYes me σ h = .ok (.own (xs.map g)) h := by
  rw [mComp_at e0 fq, compE_fm (f := turnC (tdN td) [td] mYes me σ) f (fun a => some (g a)) (xs := xs) (by have := size1000; omega) fun a ha => turn_ok2 (hm a ha), List.filterMap_eq_map']
theorem oI_map {α} (g : α → Int) (xs : List α) : UV.own (xs.map fun a => .d (.int (g a))) = oI (xs.map g) := by
  unfold oI; rw [List.map_map]; rfl
section
variable {p : Int} {rs : List (Int × Int × Int)} (k : KOk p rs) (h : HS)
include k
theorem spares_ok : F__law_spares [.d (kD p rs)] h = .ok (oI (rs.map (sp p))) h := by
  have := k.n1
  have hp := k.p1
  refine fnM_rt (sRet_ok ?_)
  rw [← oI_map]
  refine comp_map (x := .d (.lst (rs.map r3))) (f := fun t => .d (r3 t)) (g := fun t => .d (.int (sp p t))) (mBin_ok (m := mVar 0) (n := mK (.int 1)) rfl rfl (k1 p rs h)) (frz_map r3 rs) (by omega) fun t ht => ?_
  exact mBin_ok (mBin_ok (m := mVar 1) (n := mK (.int 0)) rfl rfl (t0 t h)) (mBin_ok (mBin_ok (m := mVar 0) (n := mK (.int 0)) rfl rfl (k0 p rs h)) (mBin_ok (m := mVar 1) (n := mK (.int 2)) rfl rfl (t2U t h)) (oMul_int h _ _ (cmR _ _ (by omega) (by omega)))) (oSub_int h _ _)
theorem windows_ok : F__law_windows [.d (kD p rs)] h = .ok (oI (rs.map wn)) h := by
  have := k.n1
  refine fnM_rt (sRet_ok ?_)
  rw [← oI_map]
  refine comp_map (x := .d (.lst (rs.map r3))) (f := fun t => .d (r3 t)) (g := fun t => .d (.int (wn t))) (mBin_ok (m := mVar 0) (n := mK (.int 1)) rfl rfl (k1 p rs h)) (frz_map r3 rs) (by omega) fun t ht => ?_
  exact mBin_ok (mBin_ok (m := mVar 1) (n := mK (.int 1)) rfl rfl (t1 t h)) (mBin_ok (m := mVar 1) (n := mK (.int 2)) rfl rfl (t2U t h)) (oSub_int h _ _)
end
/-! ### is_row -/
def upOk (m : Int) : Int → List Int → Bool
  | _, [] => true
  | b, s :: r => (!(decide (s < b) || decide (m < s))) && upOk m s r
def isRow (p m : Int) (r : List Int) : Bool := ((r.length : Int) == p) && upOk m 1 r
abbrev irB : MS := sSeq (sIf (mOr (mTst (mBin cLt (mVar 4) (mVar 3))) (mTst (mBin cGt (mVar 4) (mVar 2)))) (sRet (mK (.bl false))) sPass) (sSet 3 (mVarE 4))
theorem ir_loop (x : DV) (p m : Int) (h : HS) : ∀ (r : List Int) (b : Int) (o4 : Option UV), (upOk m b r = true ∧ ∃ o3 o4', loopL (turnF (tdN 4) irB) (r.map fun i => .d (.int i)) [some (.d x), some (.d (.int p)), some (.d (.int m)), some (.d (.int b)), o4] h = .nx [some (.d x), some (.d (.int p)), some (.d (.int m)), o3, o4'] h) ∨ (upOk m b r = false ∧ loopL (turnF (tdN 4) irB) (r.map fun i => .d (.int i)) [some (.d x), some (.d (.int p)), some (.d (.int m)), some (.d (.int b)), o4] h = .rt (.d (.bl false)) h)
  | [], b, o4 => .inl ⟨rfl, _, _, rfl⟩
  | s :: r, b, o4 => by
    by_cases q : s < b ∨ m < s
    · refine .inr ⟨?_, ?_⟩
      · unfold upOk
        rcases q with q | q <;> simp [q]
      · rw [List.map_cons, loopL]
        have : turnF (tdN 4) irB (.d (.int s)) [some (.d x), some (.d (.int p)), some (.d (.int m)), some (.d (.int b)), o4] h = .rt (.d (.bl false)) h := by
          by_cases q1 : s < b
          · simp [turnF, tdN, q1]
          · have q2 : m < s := q.resolve_left q1
            simp [turnF, tdN, q1, q2]
        rw [this]
    · have q1 : ¬ s < b := fun z => q (.inl z)
      have q2 : ¬ m < s := fun z => q (.inr z)
      have e : turnF (tdN 4) irB (.d (.int s)) [some (.d x), some (.d (.int p)), some (.d (.int m)), some (.d (.int b)), o4] h = .nx [some (.d x), some (.d (.int p)), some (.d (.int m)), some (.d (.int s)), some (.d (.int s))] h := by
        simp [turnF, tdN, q1, q2]
      rw [List.map_cons, loopL_nx e]
      have u : upOk m b (s :: r) = upOk m s r := by
        rw [upOk]; simp [q1, q2]
      rw [u]
      exact ir_loop x p m h r s (some (.d (.int s)))
theorem is_row (w : RW) (p m : Int) (h : HS) : F_is_row [.d (rowOf w), .d (.int p), .d (.int m)] h = .ok (.d (.bl (isRow p m w.2))) h := by
  have s := rowSeq w
  have l := s.len h
  rw [List.length_map] at l
  refine fnM_rt ?_
  by_cases q : (w.2.length : Int) = p
  · refine Eq.trans (sSeq_nx (σ1 := [some (.d (rowOf w)), some (.d (.int p)), some (.d (.int m)), none, none]) (h1 := h) ?_) ?_
    · simp [l, oEq_int, q]
    refine Eq.trans (sSeq_nx (σ1 := [some (.d (rowOf w)), some (.d (.int p)), some (.d (.int m)), some (.d (.int 1)), none]) (h1 := h) rfl) ?_
    have fq := sFor_at (m := mVarE 0) (td := tdN 4) (b := irB) (σ := [some (.d (rowOf w)), some (.d (.int p)), some (.d (.int m)), some (.d (.int 1)), none]) (h := h) (h1 := h) (u := .d (rowOf w)) rfl (seq_frz s)
    have ei : isRow p m w.2 = upOk m 1 w.2 := by unfold isRow; simp [q]
    rw [ei]
    rcases ir_loop (rowOf w) p m h w.2 1 none with ⟨u, o3, o4, e⟩ | ⟨u, e⟩
    · rw [u]
      exact (sSeq_nx (fq.trans e)).trans rfl
    · rw [u, sSeq_at, fq, e]
      rfl
  · rw [show isRow p m w.2 = false from by unfold isRow; simp [q]]
    have q' : ((w.2.length : Int) == p) = false := by simp [q]
    unfold B_is_row
    rw [sSeq_at]
    simp [l, oEq_int, q, q']
end MM.K04

namespace MM.K04
open PySem PySem.Spec PyProof.Rows L2
/-! ### the instance -/
theorem at1 : AT.contains ((("Kitchen" : Str), ("pace_number" : Str))) = true := by decide +kernel
theorem at2 : AT.contains ((("Kitchen" : Str), ("row_list" : Str))) = true := by decide +kernel
theorem fP (p : Int) (rs) (h : HS) : fFld AT "pace_number" h (.d (insD p rs)) = some (.d (.int p)) := by
  unfold fFld
  simp only [at1, if_true]
  rfl
theorem fR (p : Int) (rs) (h : HS) : fFld AT "row_list" h (.d (insD p rs)) = some (.d (.lst (rs.map r3))) := by
  unfold fFld
  simp only [at2, if_true]
  rfl
theorem meth_ok {nm x : Str} {F : MF} {mo : ME} {ms : MAs} {σ : SL} {h : HS} {u : UV} {us : List UV} {r : MR UV} (e0 : mo σ h = .ok u h) (hi : insOf nm x u = true) (e1 : ms σ h = .ok us h) (hn : us.all noOwn = true) (e : F (u :: us) h = r) : mMeth nm x F mo ms σ h = r := by
  unfold mMeth
  rw [e0, bindM_ok, if_pos hi, e1, bindM_ok, if_pos hn, e]
theorem ins_ok (p : Int) (rs) (m : Str) (hm : (([(("pace_number" : Str), DV.int p), (("row_list" : Str), DV.lst (rs.map r3))] : List (Str × DV)).lookup m).isNone = true) : insOf "Kitchen" m (.d (insD p rs)) = true := by
  unfold insOf
  simp only [hm, Bool.and_true]
  decide +kernel
section
variable {p : Int} {rs : List (Int × Int × Int)} (k : KOk p rs) (h : HS)
theorem many_ok : F_Kitchen__many [.d (insD p rs)] h = .ok (.d (.int rs.length)) h :=
  fnM_rt (sRet_ok (mUn_ok (mUn_ok (m := mVar 0) rfl (fR p rs h)) (by simp)))
theorem pace_ok : F_Kitchen__pace [.d (insD p rs)] h = .ok (.d (.int p)) h := fnM_rt (sRet_ok (mUn_ok (m := mVar 0) rfl (fP p rs h)))
theorem check_st (s : Nat) (hs : s < rs.length) : F_Kitchen__check_station [.d (insD p rs), .d (.int ((s + 1 : Nat) : Int))] h = .ok (.d .non) h := by
  have e1 : mTst (mBin cLt (mVar 1) (mK (.int 1))) [some (.d (insD p rs)), some (.d (.int ((s + 1 : Nat) : Int)))] h = .ok false h := by
    have := mTst_ok (mBin_ok (g := cLt) (m := mVar 1) (n := mK (.int 1)) (σ := [some (.d (insD p rs)), some (.d (.int ((s + 1 : Nat) : Int)))]) (h := h) rfl rfl (cLt_int h _ _))
    rw [this, decide_eq_false (by omega)]
  have e2 : mTst (mBin cGt (mVar 1) (mUn fLen (mUn (fFld AT "row_list") (mVar 0)))) [some (.d (insD p rs)), some (.d (.int ((s + 1 : Nat) : Int)))] h = .ok false h := by
    have := mTst_ok (mBin_ok (g := cGt) (m := mVar 1) (σ := [some (.d (insD p rs)), some (.d (.int ((s + 1 : Nat) : Int)))]) (h := h) rfl (mUn_ok (mUn_ok (m := mVar 0) rfl (fR p rs h)) (fLen_lst h _)) (cGt_int h _ _))
    rw [this, List.length_map, decide_eq_false (by omega)]
  have e3 : B_Kitchen__check_station [some (.d (insD p rs)), some (.d (.int ((s + 1 : Nat) : Int)))] h = .nx [some (.d (insD p rs)), some (.d (.int ((s + 1 : Nat) : Int)))] h := by
    refine Eq.trans (sIf_ok (k := false) ?_) rfl
    rw [mOr_at, e1, bindM_ok]
    exact e2
  unfold F_Kitchen__check_station
  rw [fnM_at]
  show (match B_Kitchen__check_station [some (.d (insD p rs)), some (.d (.int ((s + 1 : Nat) : Int)))] h with
    | .nx _ h' => _
    | .rt u h' => _
    | .ex e _ h' => _
    | _ => _) = _
  rw [e3]
theorem row_at (s : Nat) (hs : s < rs.length) {σ : SL} (e0 : σ[0]? = some (some (.d (insD p rs)))) (e1 : σ[1]? = some (some (.d (.int ((s + 1 : Nat) : Int))))) : mBin oItem (mUn (fFld AT "row_list") (mVar 0)) (mBin oSub (mVar 1) (mK (.int 1))) σ h = .ok (.d (r3 rs[s])) h := by
  have v0 : mVar 0 σ h = .ok (.d (insD p rs)) h := by rw [mVar_at, e0]
  have v1 : mVar 1 σ h = .ok (.d (.int ((s + 1 : Nat) : Int))) h := by rw [mVar_at, e1]
  have it := item_seqO (u := .d (.lst (rs.map r3))) (h := h) (xs := rs.map r3) rfl s (by rw [List.length_map]; exact hs)
  rw [List.getElem_map] at it
  have sb := mBin_ok (g := oSub) (n := mK (.int 1)) v1 rfl (oSub_int h _ _)
  rw [show (((s + 1 : Nat) : Int) - 1) = (s : Int) from by omega] at sb
  exact mBin_ok (mUn_ok v0 (fR p rs h)) sb it
theorem drop_check (s : Nat) (hs : s < rs.length) {σ : SL} (e0 : σ[0]? = some (some (.d (insD p rs)))) (e1 : σ[1]? = some (some (.d (.int ((s + 1 : Nat) : Int))))) : sDrop (mMeth "Kitchen" "check_station" F_Kitchen__check_station (mVarE 0) (aCons (mVarE 1) aNil)) σ h = .nx σ h := by
  have v0 : mVarE 0 σ h = .ok (.d (insD p rs)) h := by rw [mVarE_at, e0]; rfl
  have a1 : aCons (mVarE 1) aNil σ h = .ok [.d (.int ((s + 1 : Nat) : Int))] h := by rw [aCons_at, mVarE_at, e1]; rfl
  rw [sDrop_at, meth_ok v0 (ins_ok p rs _ rfl) a1 rfl (check_st h s hs)]
  rfl
theorem window_ok (s : Nat) (hs : s < rs.length) : F_Kitchen__window [.d (insD p rs), .d (.int ((s + 1 : Nat) : Int))] h = .ok (.d (.int (wn rs[s]))) h := by
  refine fnM_rt (Eq.trans (sSeq_nx (drop_check h s hs rfl rfl)) (Eq.trans (sSeq_nx (sSet_ok (row_at h s hs rfl rfl))) (sRet_ok ?_)))
  exact mBin_ok (mBin_ok (m := mVar 2) (n := mK (.int 1)) rfl rfl (t1 rs[s] h)) (mBin_ok (m := mVar 2) (n := mK (.int 2)) rfl rfl (t2U rs[s] h)) (oSub_int h _ _)
include k
theorem spare_ok (s : Nat) (hs : s < rs.length) : F_Kitchen__spare [.d (insD p rs), .d (.int ((s + 1 : Nat) : Int))] h = .ok (.d (.int (sp p rs[s]))) h := by
  have hp := k.p1
  refine fnM_rt (Eq.trans (sSeq_nx (drop_check h s hs rfl rfl)) (Eq.trans (sSeq_nx (sSet_ok (row_at h s hs rfl rfl))) (sRet_ok ?_)))
  exact mBin_ok (mBin_ok (m := mVar 2) (n := mK (.int 0)) rfl rfl (t0 rs[s] h)) (mBin_ok (mUn_ok (m := mVar 0) rfl (fP p rs h)) (mBin_ok (m := mVar 2) (n := mK (.int 2)) rfl rfl (t2U rs[s] h)) (oMul_int h _ _ (cmR _ _ (by omega) (by omega)))) (oSub_int h _ _)
end
/-- station, window, spare, of those with a window -/
def wl1 (p : Int) (s : Nat) (t : Int × Int × Int) : List (Int × Int × Int) := if 1 ≤ wn t then [(((s + 1 : Nat) : Int), wn t, sp p t)] else []
def wlF (p : Int) : Nat → List (Int × Int × Int) → List (Int × Int × Int)
  | _, [] => []
  | s, t :: rs => wl1 p s t ++ wlF p (s + 1) rs
theorem wlF_app (p : Int) : ∀ (s : Nat) (a b : List (Int × Int × Int)), wlF p s (a ++ b) = wlF p s a ++ wlF p (s + a.length) b
  | s, [], b => rfl
  | s, t :: a, b => by rw [List.cons_append, wlF, wlF, wlF_app p (s + 1) a b, List.append_assoc, List.length_cons, show s + (a.length + 1) = s + 1 + a.length from by omega]
theorem wlF_len (p : Int) : ∀ (s : Nat) (rs : List (Int × Int × Int)), (wlF p s rs).length ≤ rs.length
  | s, [] => Nat.le_refl _
  | s, t :: rs => by
    have := wlF_len p (s + 1) rs
    rw [wlF, List.length_append, List.length_cons]
    unfold wl1
    split <;> simp <;> omega
theorem wlF_take (p : Int) (rs : List (Int × Int × Int)) (i : Nat) (hi : i < rs.length) : wlF p 0 (rs.take (i + 1)) = wlF p 0 (rs.take i) ++ wl1 p i rs[i] := by
  rw [List.take_succ, List.getElem?_eq_getElem hi, Option.toList_some, wlF_app, List.length_take, Nat.min_eq_left (by omega), Nat.zero_add]
  simp [wlF]
theorem fun_range1 {f : UV → SL → HS → RS'} (n : Nat) (Pv : Nat → SL → HS → Prop) (σ : SL) (h : HS) (h0 : Pv 0 σ h) (hs : ∀ i, i < n → ∀ σ h, Pv i σ h → ∃ σ' h', f (.d (.int ((i + 1 : Nat) : Int))) σ h = .nx σ' h' ∧ Pv (i + 1) σ' h') : ∃ σ' h', loopL f (rangeU 1 n) σ h = .nx σ' h' ∧ Pv n σ' h' := by
  have := loop_steps (f := f) (rangeU 1 n) Pv σ h h0 fun i hi σ h p => by
    rw [rangeU_len] at hi
    have e : (rangeU 1 n)[i]'(by rw [rangeU_len]; exact hi) = .d (.int ((i + 1 : Nat) : Int)) := by
      simp [rangeU]; omega
    rw [e]
    exact hs i hi σ h p
  rw [rangeU_len] at this
  exact this
theorem mTup3 {m n q : ME} {σ : SL} {h : HS} {A B C : DV} (e1 : m σ h = .ok (.d A) h) (e2 : n σ h = .ok (.d B) h) (e3 : q σ h = .ok (.d C) h) : mTup (aCons m (aCons n (aCons q aNil))) σ h = .ok (.d (.tup [A, B, C])) h := by
  rw [mTup_at, aCons_at, e1, bindM_ok, aCons_at, e2, bindM_ok, aCons_at, e3]
  simp [ofO]
theorem windows_of {p : Int} {rs : List (Int × Int × Int)} (k : KOk p rs) (h : HS) : F_windows_of [.d (insD p rs)] h = .ok (.own ((wlF p 0 rs).map fun t => .d (r3 t))) h := by
  have n1 := k.n1
  have sz := size1000
  obtain ⟨σ', h', e, o2, rfl, rfl⟩ := fun_range1 (f := turnF (tdN 2) (sIf (mTst (mBin cGe (mMeth "Kitchen" "window" F_Kitchen__window (mVarE 0) (aCons (mVarE 2) aNil)) (mK (.int 1)))) (sApp true (pVar 1) (mTup (aCons (mVarE 2) (aCons (mMeth "Kitchen" "window" F_Kitchen__window (mVarE 0) (aCons (mVarE 2) aNil)) (aCons (mMeth "Kitchen" "spare" F_Kitchen__spare (mVarE 0) (aCons (mVarE 2) aNil)) aNil))))) sPass)) rs.length
    (fun i σ h' => ∃ o2, σ = [some (.d (insD p rs)), some (.own ((wlF p 0 (rs.take i)).map fun t => .d (r3 t))), o2] ∧ h' = h) [some (.d (insD p rs)), some (.own []), none] h ⟨none, by simp [wlF], rfl⟩ fun i hi σ h' ⟨o2, e1, e2⟩ => by
      subst e1 e2
      let σ1 : SL := [some (.d (insD p rs)), some (.own ((wlF p 0 (rs.take i)).map fun t => .d (r3 t))), some (.d (.int ((i + 1 : Nat) : Int)))]
      have w1 : mMeth "Kitchen" "window" F_Kitchen__window (mVarE 0) (aCons (mVarE 2) aNil) σ1 h' = .ok (.d (.int (wn rs[i]))) h' := meth_ok rfl (ins_ok p rs _ rfl) (us := [.d (.int ((i + 1 : Nat) : Int))]) rfl rfl (window_ok h' i hi)
      have w2 : mMeth "Kitchen" "spare" F_Kitchen__spare (mVarE 0) (aCons (mVarE 2) aNil) σ1 h' = .ok (.d (.int (sp p rs[i]))) h' := meth_ok rfl (ins_ok p rs _ rfl) (us := [.d (.int ((i + 1 : Nat) : Int))]) rfl rfl (spare_ok k h' i hi)
      have tt := mTst_ok (mBin_ok (g := cGe) (n := mK (.int 1)) w1 rfl (cGe_int h' _ _))
      refine ⟨[some (.d (insD p rs)), some (.own ((wlF p 0 (rs.take (i + 1))).map fun t => .d (r3 t))), some (.d (.int ((i + 1 : Nat) : Int)))], h', ?_, _, rfl, rfl⟩
      refine Eq.trans (sIf_ok tt) ?_
      rw [wlF_take p rs i hi]
      by_cases q : 1 ≤ wn rs[i]
      · rw [decide_eq_true q, if_pos rfl]
        have hl := wlF_len p 0 (rs.take i)
        rw [List.length_take] at hl
        have := sApp_slot (i := 1) (σ := σ1) (h := h') (xs := (wlF p 0 (rs.take i)).map fun t => .d (r3 t)) rfl (mTup3 (m := mVarE 2) rfl w1 w2) (by rw [List.length_map]; omega)
        refine Eq.trans this ?_
        rw [List.map_append]
        unfold wl1
        rw [if_pos q]
        rfl
      · rw [decide_eq_false q, if_neg Bool.false_ne_true]
        unfold wl1
        rw [if_neg q, List.append_nil]
        rfl
  have er := sForR_at (lo := mK (.int 1)) (hi := mBin oAdd (mMeth "Kitchen" "many" F_Kitchen__many (mVarE 0) aNil) (mK (.int 1))) (td := tdN 2) (b := sIf (mTst (mBin cGe (mMeth "Kitchen" "window" F_Kitchen__window (mVarE 0) (aCons (mVarE 2) aNil)) (mK (.int 1)))) (sApp true (pVar 1) (mTup (aCons (mVarE 2) (aCons (mMeth "Kitchen" "window" F_Kitchen__window (mVarE 0) (aCons (mVarE 2) aNil)) (aCons (mMeth "Kitchen" "spare" F_Kitchen__spare (mVarE 0) (aCons (mVarE 2) aNil)) aNil))))) sPass) (σ := [some (.d (insD p rs)), some (.own []), none]) (h := h') (h1 := h') (h2 := h') (i := 1) (j := (rs.length : Int) + 1) rfl (mBin_ok (n := mK (.int 1)) (meth_ok (mo := mVarE 0) (ms := aNil) (us := []) rfl (ins_ok p rs _ rfl) rfl rfl (many_ok h')) rfl (oAdd_int h' _ _)) (by omega)
  rw [show ((rs.length : Int) + 1 - 1).toNat = rs.length from by omega, e, List.take_length] at er
  refine fnM_rt (Eq.trans (sSeq_nx (σ1 := [some (.d (insD p rs)), some (.own []), none]) (h1 := h') rfl) (Eq.trans (sSeq_nx er) rfl))
end MM.K04

namespace MM.K04
open PySem PySem.Spec PyProof.Rows L2
theorem sSeq_rt {a b : MS} {σ : SL} {h h1 : HS} {u : UV} (e : a σ h = .rt u h1) : sSeq a b σ h = .rt u h1 := by
  rw [sSeq_at, e]; rfl
/-! ### near rows -/
theorem slice_seq {x : DV} {xs : List DV} (s : SeqD x xs) (h : HS) (a b : Nat) : ∃ u y, sliceU h (.d x) (some (a : Int)) (some (b : Int)) = some u ∧ fz u = some (.d y) ∧ SeqD y ((xs.take b).drop a) := by
  have cut : ∀ {α : Type} (l : List α), cutL l (some (a : Int)) (some (b : Int)) = (l.take b).drop a := fun {α} l => by
    unfold cutL
    rw [HT.sIx_nat, HT.sIx_nat, List.drop_take]
    by_cases q : a ≤ l.length
    · rw [Nat.min_eq_left q]
      by_cases q2 : b ≤ l.length
      · rw [Nat.min_eq_left q2]
      · rw [Nat.min_eq_right (by omega), List.take_of_length_le (by rw [List.length_drop]; omega), List.take_of_length_le (by rw [List.length_drop]; omega)]
    · rw [List.drop_eq_nil_of_le (as := l) (i := min a l.length) (by omega), List.drop_eq_nil_of_le (as := l) (i := a) (by omega)]
      simp
  rcases s with rfl | rfl
  · refine ⟨.own (((xs.take b).drop a).map .d), .lst ((xs.take b).drop a), ?_, fz_own _, .inl rfl⟩
    unfold sliceU
    simp only [asL]
    rw [cut, if_pos (by simp)]
    rw [List.map_drop, List.map_take]
  · refine ⟨.d (.tup ((xs.take b).drop a)), .tup ((xs.take b).drop a), ?_, rfl, .inr rfl⟩
    show some (UV.d (.tup (cutL xs (some (a : Int)) (some (b : Int))))) = _
    rw [cut]
theorem fList_row (w : RW) (h : HS) : fList h (.d (rowOf w)) = some (oI w.2) := by
  have := (rowSeq w).q h
  unfold fList
  rw [this]
  simp only [List.map_map]
  rw [if_pos (by simp)]
  rfl
def cntN (st : Int) (rows : List (List Int)) : Int := (rows.map fun r => ((r.count st : Nat) : Int)).sum
theorem cnt_ok {x : DV} {W : List RW} (s : SeqD x (W.map rowOf)) (hl : W.length ≤ 1000) {σ : SL} {h : HS} {td i j : Nat} {st : Int} (e0 : σ[i]? = some (some (.d x))) (e1 : ∀ u, ((wipeU σ [td]).set td (some u))[td]? = some (some u)) (e2 : ∀ u, ((wipeU σ [td]).set td u)[j]? = some (some (.d (.int st)))) :
    mUn fSum (mComp (mVarE i) (tdN td) [td] mYes (mCnt (mUn fList (mVar td)) (mVar j))) σ h = .ok (.d (.int (cntN st (W.map (·.2))))) h := by
  have v0 : mVarE i σ h = .ok (.d x) h := by rw [mVarE_at, e0]; rfl
  have ec := comp_map (m := mVarE i) (me := mCnt (mUn fList (mVar td)) (mVar j)) (td := td) (σ := σ) (h := h) (x := .d x) (f := fun w => .d (rowOf w)) (g := fun w => .d (.int ((w.2.count st : Nat) : Int))) (xs := W) v0 (seq_frz s) hl fun w _ => by
    have a1 : mUn fList (mVar td) ((wipeU σ [td]).set td (some (.d (rowOf w)))) h = .ok (oI w.2) h := mUn_ok (u := .d (rowOf w)) (by rw [mVar_at, e1]) (fList_row w h)
    have a2 : mVar j ((wipeU σ [td]).set td (some (.d (rowOf w)))) h = .ok (.d (.int st)) h := by rw [mVar_at, e2]
    unfold mCnt
    rw [a1, bindM_ok, if_pos (by rfl), a2, bindM_ok]
    have : fCnt h (oI w.2) (.d (.int st)) = some (.d (.int ((w.2.count st : Nat) : Int))) := by
      unfold fCnt
      show (match (some (w.2.map fun i => UV.d (.int i))).bind (mapO uInt), some st with
        | some ns, some k => _
        | _, _ => _) = _
      rw [Option.bind_some, mapO_ints]
    rw [this]
    rfl
  have : UV.own (W.map fun w => .d (.int ((w.2.count st : Nat) : Int))) = oI (W.map fun w => ((w.2.count st : Nat) : Int)) := oI_map _ _
  rw [this] at ec
  refine mUn_ok ec ?_
  rw [fSum_own]
  unfold cntN
  rw [List.map_map]
  rfl
/-- the first station that is too full at the beat -/
def full (W : List (List Int)) (beat : Nat) : List (Int × Int × Int) → Int
  | [] => 0
  | t :: l => if cntN t.1 ((W.take beat).drop ((beat : Int) - t.2.1).toNat) > t.2.2 then t.1 else full W beat l
abbrev fsB : MS := sSeq (sSet 6 (mFz (mSlice (mVar 1) (oYes (mBin fMax2 (mK (.int 0)) (mBin oSub (mVar 2) (mVar 4)))) (oYes (mVar 2))))) (sIf (mTst (mBin cGt (mUn fSum (mComp (mVarE 6) (tdN 7) [7] mYes (mCnt (mUn fList (mVar 7)) (mVar 3)))) (mVar 5))) (sMove 3) sPass)
theorem mSl12 {m n q : ME} {σ : SL} {h : HS} {u v : UV} {i j : Int} (e : m σ h = .ok u h) (e1 : n σ h = .ok (.d (.int i)) h) (e2 : q σ h = .ok (.d (.int j)) h) (e3 : sliceU h u (some i) (some j) = some v) : mSlice m (oYes n) (oYes q) σ h = .ok v h := by
  rw [mSlice_at, e]
  simp [e1, e2, e3]
theorem fMax2_0 (h : HS) (i : Int) : fMax2 h (.d (.int 0)) (.d (.int i)) = some (.d (.int ((i.toNat : Nat) : Int))) := by
  show some (UV.d (.int (if i > 0 then i else 0))) = _
  by_cases q : i > 0
  · rw [if_pos q, Int.toNat_of_nonneg (by omega)]
  · rw [if_neg q, show i.toNat = 0 from by omega]; rfl
theorem fs_loop {x : DV} {W : List RW} (s : SeqD x (W.map rowOf)) (hl : W.length ≤ 1000) (y : DV) (beat : Nat) (h : HS) : ∀ (l : List (Int × Int × Int)) (o3 o4 o5 o6 o7 : Option UV), (∀ t ∈ l, 0 < t.1) →
    (full (W.map (·.2)) beat l = 0 ∧ ∃ σ', loopL (turnF (tdT 3 (tdCons (tdN 3) (tdCons (tdN 4) (tdCons (tdN 5) tdNil)))) fsB) (l.map fun t => .d (r3 t)) [some (.d y), some (.d x), some (.d (.int (beat : Int))), o3, o4, o5, o6, o7] h = .nx σ' h) ∨
    (0 < full (W.map (·.2)) beat l ∧ loopL (turnF (tdT 3 (tdCons (tdN 3) (tdCons (tdN 4) (tdCons (tdN 5) tdNil)))) fsB) (l.map fun t => .d (r3 t)) [some (.d y), some (.d x), some (.d (.int (beat : Int))), o3, o4, o5, o6, o7] h = .rt (.d (.int (full (W.map (·.2)) beat l))) h)
  | [], o3, o4, o5, o6, o7, _ => .inl ⟨rfl, _, rfl⟩
  | t :: l, o3, o4, o5, o6, o7, hp => by
    have tp := hp t List.mem_cons_self
    obtain ⟨u, z, e1, e2, e3⟩ := slice_seq s h ((beat : Int) - t.2.1).toNat beat
    rw [← List.map_take, ← List.map_drop] at e3
    let σ1 : SL := [some (.d y), some (.d x), some (.d (.int (beat : Int))), some (.d (.int t.1)), some (.d (.int t.2.1)), some (.d (.int t.2.2)), o6, o7]
    let σ2 : SL := [some (.d y), some (.d x), some (.d (.int (beat : Int))), some (.d (.int t.1)), some (.d (.int t.2.1)), some (.d (.int t.2.2)), some (.d z), o7]
    have a1 := mFz_ok (mSl12 (m := mVar 1) (n := mBin fMax2 (mK (.int 0)) (mBin oSub (mVar 2) (mVar 4))) (q := mVar 2) (σ := σ1) (h := h) rfl (mBin_ok (m := mK (.int 0)) rfl (mBin_ok (m := mVar 2) (n := mVar 4) rfl rfl (oSub_int h _ _)) (fMax2_0 h _)) rfl e1) e2
    have a2 := cnt_ok e3 (by rw [List.length_drop, List.length_take]; omega) (σ := σ2) (h := h) (td := 7) (i := 6) (j := 3) (st := t.1) rfl (fun _ => rfl) (fun _ => rfl)
    have ew : (((W.take beat).drop ((beat : Int) - t.2.1).toNat).map (·.2)) = (((W.map (·.2)).take beat).drop ((beat : Int) - t.2.1).toNat) := by rw [List.map_drop, List.map_take]
    rw [ew] at a2
    have tt := mTst_ok (mBin_ok (g := cGt) (n := mVar 5) a2 rfl (cGt_int h _ _))
    have turn : turnF (tdT 3 (tdCons (tdN 3) (tdCons (tdN 4) (tdCons (tdN 5) tdNil)))) fsB (.d (r3 t)) [some (.d y), some (.d x), some (.d (.int (beat : Int))), o3, o4, o5, o6, o7] h = if cntN t.1 (((W.map (·.2)).take beat).drop ((beat : Int) - t.2.1).toNat) > t.2.2 then .rt (.d (.int t.1)) h else .nx σ2 h := by
      show fsB σ1 h = _
      refine Eq.trans (sSeq_nx (sSet_ok a1)) ?_
      refine Eq.trans (sIf_ok tt) ?_
      by_cases q : cntN t.1 (((W.map (·.2)).take beat).drop ((beat : Int) - t.2.1).toNat) > t.2.2
      · rw [if_pos q, decide_eq_true q]; rfl
      · rw [if_neg q, decide_eq_false q]; rfl
    rw [List.map_cons, full]
    by_cases q : cntN t.1 (((W.map (·.2)).take beat).drop ((beat : Int) - t.2.1).toNat) > t.2.2
    · rw [if_pos q] at turn ⊢
      refine .inr ⟨tp, ?_⟩
      rw [loopL, turn]
    · rw [if_neg q] at turn ⊢
      rw [loopL_nx turn]
      exact fs_loop s hl y beat h l _ _ _ _ _ fun t' ht' => hp t' (List.mem_cons_of_mem _ ht')
theorem full_ok {x : DV} {W : List RW} (s : SeqD x (W.map rowOf)) (hl : W.length ≤ 1000) (beat : Nat) (h : HS) (l : List (Int × Int × Int)) (hp : ∀ t ∈ l, 0 < t.1) : F_full_station [.d (.lst (l.map r3)), .d x, .d (.int (beat : Int))] h = .ok (.d (.int (full (W.map (·.2)) beat l))) h := by
  have fq := sFor_at (m := mVarE 0) (td := tdT 3 (tdCons (tdN 3) (tdCons (tdN 4) (tdCons (tdN 5) tdNil)))) (b := fsB) (σ := [some (.d (.lst (l.map r3))), some (.d x), some (.d (.int (beat : Int))), none, none, none, none, none]) (h := h) (h1 := h) (u := .d (.lst (l.map r3))) rfl (frz_map r3 l)
  refine fnM_rt ?_
  rcases fs_loop s hl (.lst (l.map r3)) beat h l none none none none none hp with ⟨a, σ', e⟩ | ⟨a, e⟩
  · rw [a]
    exact Eq.trans (sSeq_nx (fq.trans e)) rfl
  · exact sSeq_rt (fq.trans e)
end MM.K04

namespace MM.K04
open PySem PySem.Spec PyProof.Rows L2
def jw (p m : Int) (wl : List (Int × Int × Int)) (V : List (List Int)) : Nat → Nat → DV
  | _, 0 => .non
  | b, k + 1 => match V[b]? with
    | none => .non
    | some r => if isRow p m r = true then (if 0 < full V (b + 1) wl then .tup [.int ((b + 1 : Nat) : Int), .int (full V (b + 1) wl)] else jw p m wl V (b + 1) k) else .tup [.int ((b + 1 : Nat) : Int), .int 0]
abbrev jB : MS := sSeq (sIf (mNot (mTru (mCall F_is_row (aCons (mBin oItem (mVar 1) (mBin oSub (mVar 3) (mK (.int 1)))) (aCons (mMeth "Kitchen" "pace" F_Kitchen__pace (mVarE 0) aNil) (aCons (mMeth "Kitchen" "many" F_Kitchen__many (mVarE 0) aNil) aNil)))))) (sRet (mTup (aCons (mVarE 3) (aCons (mK (.int 0)) aNil)))) sPass) (sSeq (sSet 4 (mCall F_full_station (aCons (mVarE 2) (aCons (mVarE 1) (aCons (mVarE 3) aNil))))) (sIf (mTst (mBin cGt (mVar 4) (mK (.int 0)))) (sRet (mTup (aCons (mVarE 3) (aCons (mVarE 4) aNil)))) sPass))
theorem full_nn (V : List (List Int)) (b : Nat) : ∀ (l : List (Int × Int × Int)), (∀ t ∈ l, 0 < t.1) → 0 ≤ full V b l
  | [], _ => by simp [full]
  | t :: l, h => by
    have := h t List.mem_cons_self
    unfold full
    split
    · omega
    · exact full_nn V b l fun t' ht' => h t' (List.mem_cons_of_mem _ ht')
theorem wl_pos (p : Int) : ∀ (s : Nat) (rs : List (Int × Int × Int)), ∀ t ∈ wlF p s rs, 0 < t.1
  | _, [], t, h => by cases h
  | s, x :: rs, t, h => by
    rcases List.mem_append.mp h with z | z
    · unfold wl1 at z
      split at z
      · rw [List.mem_singleton.mp z]
        show (0 : Int) < ((s + 1 : Nat) : Int)
        omega
      · cases z
    · exact wl_pos p (s + 1) rs t z
section
variable {p : Int} {rs : List (Int × Int × Int)} {x : DV} {W : List RW} (s : SeqD x (W.map rowOf)) (hl : W.length ≤ 1000) (h : HS)
include s hl
theorem j_turn (b : Nat) (hb : b < W.length) (o3 o4 : Option UV) : turnF (tdN 3) jB (.d (.int ((b + 1 : Nat) : Int))) [some (.d (insD p rs)), some (.d x), some (.d (.lst ((wlF p 0 rs).map r3))), o3, o4] h = if isRow p rs.length (W[b]).2 = true then (if 0 < full (W.map (·.2)) (b + 1) (wlF p 0 rs) then .rt (.d (.tup [.int ((b + 1 : Nat) : Int), .int (full (W.map (·.2)) (b + 1) (wlF p 0 rs))])) h else .nx [some (.d (insD p rs)), some (.d x), some (.d (.lst ((wlF p 0 rs).map r3))), some (.d (.int ((b + 1 : Nat) : Int))), some (.d (.int (full (W.map (·.2)) (b + 1) (wlF p 0 rs))))] h) else .rt (.d (.tup [.int ((b + 1 : Nat) : Int), .int 0])) h := by
  let σ1 : SL := [some (.d (insD p rs)), some (.d x), some (.d (.lst ((wlF p 0 rs).map r3))), some (.d (.int ((b + 1 : Nat) : Int))), o4]
  show jB σ1 h = _
  have it := s.itO h b (by rw [List.length_map]; exact hb)
  rw [List.getElem_map] at it
  have sb := mBin_ok (g := oSub) (m := mVar 3) (n := mK (.int 1)) (σ := σ1) (h := h) rfl rfl (oSub_int h _ _)
  rw [show (((b + 1 : Nat) : Int) - 1) = (b : Int) from by omega] at sb
  have c1 := mCall3 (m := mBin oItem (mVar 1) (mBin oSub (mVar 3) (mK (.int 1)))) (n := mMeth "Kitchen" "pace" F_Kitchen__pace (mVarE 0) aNil) (p := mMeth "Kitchen" "many" F_Kitchen__many (mVarE 0) aNil) (σ := σ1) (h := h) (mBin_ok (m := mVar 1) rfl sb it) (meth_ok (mo := mVarE 0) (ms := aNil) (us := []) rfl (ins_ok p rs _ rfl) rfl rfl (pace_ok h)) (meth_ok (mo := mVarE 0) (ms := aNil) (us := []) rfl (ins_ok p rs _ rfl) rfl rfl (many_ok h)) ⟨rfl, rfl, rfl⟩ (is_row W[b] p rs.length h)
  have c2 := mCall3 (m := mVarE 2) (n := mVarE 1) (p := mVarE 3) (σ := σ1) (h := h) rfl rfl rfl ⟨rfl, rfl, rfl⟩ (full_ok s hl (b + 1) h (wlF p 0 rs) (wl_pos p 0 rs))
  by_cases q : isRow p rs.length (W[b]).2 = true
  · rw [if_pos q]
    rw [q] at c1
    refine Eq.trans (sSeq_nx (sIf_nt c1)) ?_
    refine Eq.trans (sSeq_nx (sSet_ok c2)) ?_
    refine Eq.trans (sIf_ok (mTst_ok (mBin_ok (g := cGt) (m := mVar 4) (n := mK (.int 0)) rfl rfl (cGt_int h _ _)))) ?_
    by_cases q2 : 0 < full (W.map (·.2)) (b + 1) (wlF p 0 rs)
    · rw [if_pos q2, decide_eq_true q2, if_pos rfl]
      exact sRet_ok (mTup2 (m := mVarE 3) (n := mVarE 4) rfl rfl)
    · rw [if_neg q2, decide_eq_false q2]; rfl
  · rw [if_neg q]
    have q' : isRow p rs.length (W[b]).2 = false := by simpa using q
    rw [q'] at c1
    refine sSeq_rt (Eq.trans (sIf_ok (mNot_ok (mTru_ok c1))) ?_)
    exact sRet_ok (mTup2 (m := mVarE 3) (n := mK (.int 0)) rfl rfl)
theorem j_loop : ∀ (k b : Nat) (o3 o4 : Option UV), b + k = W.length → (∃ σ', loopL (turnF (tdN 3) jB) ((List.range' b k).map fun (i : Nat) => .d (.int (1 + (i : Int)))) [some (.d (insD p rs)), some (.d x), some (.d (.lst ((wlF p 0 rs).map r3))), o3, o4] h = .nx σ' h ∧ jw p rs.length (wlF p 0 rs) (W.map (·.2)) b k = .non) ∨ loopL (turnF (tdN 3) jB) ((List.range' b k).map fun (i : Nat) => .d (.int (1 + (i : Int)))) [some (.d (insD p rs)), some (.d x), some (.d (.lst ((wlF p 0 rs).map r3))), o3, o4] h = .rt (.d (jw p rs.length (wlF p 0 rs) (W.map (·.2)) b k)) h
  | 0, b, o3, o4, _ => .inl ⟨_, rfl, rfl⟩
  | k + 1, b, o3, o4, hk => by
    have hb : b < W.length := by omega
    have e := j_turn (p := p) (rs := rs) s hl h b hb o3 o4
    have ge : (W.map (·.2))[b]? = some (W[b]).2 := by rw [List.getElem?_map, List.getElem?_eq_getElem hb]; rfl
    have i1 : (1 + (b : Int)) = ((b + 1 : Nat) : Int) := by omega
    rw [List.range'_succ, List.map_cons, jw, ge, i1]
    simp only
    by_cases q : isRow p rs.length (W[b]).2 = true
    · rw [if_pos q] at e ⊢
      by_cases q2 : 0 < full (W.map (·.2)) (b + 1) (wlF p 0 rs)
      · rw [if_pos q2] at e ⊢
        exact .inr (by rw [loopL, e])
      · rw [if_neg q2] at e ⊢
        rw [loopL_nx e]
        exact j_loop k (b + 1) _ _ (by omega)
    · rw [if_neg q] at e ⊢
      exact .inr (by rw [loopL, e])
theorem judge_ok (kk : KOk p rs) : F_judge_word [.d (insD p rs), .d x] h = .ok (.d (jw p rs.length (wlF p 0 rs) (W.map (·.2)) 0 W.length)) h := by
  have lx := s.len h
  rw [List.length_map] at lx
  have fzw : fz (.own ((wlF p 0 rs).map fun t => UV.d (r3 t))) = some (.d (.lst ((wlF p 0 rs).map r3))) := by
    have := fz_own ((wlF p 0 rs).map r3)
    rw [List.map_map] at this
    exact this
  have er := sForR_at (lo := mK (.int 1)) (hi := mBin oAdd (mUn fLen (mVar 1)) (mK (.int 1))) (td := tdN 3) (b := jB) (σ := [some (.d (insD p rs)), some (.d x), some (.d (.lst ((wlF p 0 rs).map r3))), none, none]) (h := h) (h1 := h) (h2 := h) (i := 1) (j := (W.length : Int) + 1) rfl (mBin_ok (n := mK (.int 1)) (mUn_ok (m := mVar 1) rfl lx) rfl (oAdd_int h _ _)) (by omega)
  rw [show ((W.length : Int) + 1 - 1).toNat = W.length from by omega] at er
  unfold rangeU at er
  rw [List.range_eq_range'] at er
  refine fnM_rt (Eq.trans (sSeq_nx (sSet_ok (mFz_ok (mCall1 (m := mVarE 0) rfl rfl (windows_of kk h)) fzw))) ?_)
  rcases j_loop (p := p) (rs := rs) s hl h W.length 0 none none (by omega) with ⟨σ', e, q⟩ | e
  · rw [q]
    exact Eq.trans (sSeq_nx (er.trans e)) rfl
  · exact sSeq_rt (er.trans e)
end
end MM.K04

namespace MM.K04
open PySem PySem.Spec PyProof.Rows L2
theorem seqR (r : List Int) : frzQ (.d (rowD r)) = some (r.map fun i => UV.d (.int i)) := frz_map DV.int r
theorem fm_count (r : List Int) (st : Int) : (r.filterMap fun i => if (i == st) = true then some (UV.d (.int i)) else none).length = r.count st := by
  induction r with
  | nil => rfl
  | cons i r ih =>
    rw [List.filterMap_cons, List.count_cons]
    by_cases q : (i == st) = true
    · rw [if_pos q, if_pos q, List.length_cons, ih]
    · rw [if_neg q, if_neg q, ih]; rfl
theorem fMax2_1 (h : HS) (f : Int) : fMax2 h (.d (.int 1)) (.d (.int f)) = some (.d (.int ((((f - 1).toNat + 1 : Nat)) : Int))) := by
  show some (UV.d (.int (if f > 1 then f else 1))) = _
  by_cases q : f > 1
  · rw [if_pos q, show ((((f - 1).toNat + 1 : Nat)) : Int) = f from by omega]
  · rw [if_neg q, show ((((f - 1).toNat + 1 : Nat)) : Int) = 1 from by omega]
/-- the law's own count of entries; rows as lists -/
theorem entries_ok (V : List (List Int)) (hv : V.length ≤ 500) (hr : ∀ r ∈ V, r.length ≤ 500) (st f : Int) (last : Nat) (hl : last ≤ V.length) (hf : -1000 ≤ f ∧ f ≤ 1000) (h : HS) : F__law_entries [.d (.lst (V.map rowD)), .d (.int st), .d (.int f), .d (.int (last : Int))] h = .ok (.d (.int (cntN st ((V.take last).drop (f - 1).toNat)))) h := by
  have sz := size1000
  let σ : SL := [some (.d (.lst (V.map rowD))), some (.d (.int st)), some (.d (.int f)), some (.d (.int (last : Int))), none, none]
  have lo := mBin_ok (g := fMax2) (m := mK (.int 1)) (n := mVar 2) (σ := σ) (h := h) rfl rfl (fMax2_1 h f)
  have hi := mBin_ok (g := oAdd) (m := mVar 3) (n := mK (.int 1)) (σ := σ) (h := h) rfl rfl (oAdd_int h _ _)
  have er := mCompR_at (td := tdN 5) (vs := [5]) (mt := mYes) (me := mUn fLen (mComp (mBin oItem (mVar 0) (mBin oSub (mVar 5) (mK (.int 1)))) (tdN 4) [4] (mTst (mBin (oEq false) (mVar 4) (mVar 1))) (mVarE 4))) lo hi (by omega)
  generalize hc : (f - 1).toNat = c at er
  have hn : ((last : Int) + 1 - ((c + 1 : Nat) : Int)).toNat = last - c := by omega
  rw [hn] at er
  have me_ok : ∀ i, i < last - c → (mUn fLen (mComp (mBin oItem (mVar 0) (mBin oSub (mVar 5) (mK (.int 1)))) (tdN 4) [4] (mTst (mBin (oEq false) (mVar 4) (mVar 1))) (mVarE 4))) ((wipeU σ [5]).set 5 (some (.d (.int (((c + 1 : Nat) : Int) + (i : Int)))))) h = .ok (.d (.int (((V[c + i]?.getD []).count st : Nat) : Int))) h := fun i hi => by
    have hci : c + i < V.length := by omega
    let σ1 : SL := [some (.d (.lst (V.map rowD))), some (.d (.int st)), some (.d (.int f)), some (.d (.int (last : Int))), none, some (.d (.int (((c + 1 : Nat) : Int) + (i : Int))))]
    have it := item_seqO (u := .d (.lst (V.map rowD))) (h := h) (xs := V.map rowD) rfl (c + i) (by rw [List.length_map]; exact hci)
    rw [List.getElem_map] at it
    have sb := mBin_ok (g := oSub) (m := mVar 5) (n := mK (.int 1)) (σ := σ1) (h := h) rfl rfl (oSub_int h _ _)
    rw [show (((c + 1 : Nat) : Int) + (i : Int) - 1) = ((c + i : Nat) : Int) from by omega] at sb
    have rl := hr _ (List.getElem_mem hci)
    have ec := compE_fm (f := turnC (tdN 4) [4] (mTst (mBin (oEq false) (mVar 4) (mVar 1))) (mVarE 4) σ1) (h := h) (fun i : Int => UV.d (.int i)) (fun i => if (i == st) = true then some (.d (.int i)) else none) (xs := V[c + i]) (by omega) fun a _ => by
      by_cases q : (a == st) = true
      · simp [turnC, tdN, wipeU, oEq_int, q, σ1]
      · have q' : (a == st) = false := by simpa using q
        simp [turnC, tdN, wipeU, oEq_int, q', σ1]
    have ec2 := (mComp_at (td := tdN 4) (ss := [4]) (cond := mTst (mBin (oEq false) (mVar 4) (mVar 1))) (me := mVarE 4) (mBin_ok (m := mVar 0) (σ := σ1) rfl sb it) (seqR V[c + i])).trans ec
    have := mUn_ok ec2 (fLen_own h _)
    rw [fm_count] at this
    rw [List.getElem?_eq_getElem hci]
    exact this
  have ecR := compE_fm (f := turnC (tdN 5) [5] mYes (mUn fLen (mComp (mBin oItem (mVar 0) (mBin oSub (mVar 5) (mK (.int 1)))) (tdN 4) [4] (mTst (mBin (oEq false) (mVar 4) (mVar 1))) (mVarE 4))) σ) (h := h) (fun i : Nat => UV.d (.int (((c + 1 : Nat) : Int) + (i : Int)))) (fun i => some (.d (.int (((V[c + i]?.getD []).count st : Nat) : Int)))) (xs := List.range (last - c)) (by rw [List.length_range]; omega) fun i hi => turn_ok2 (me_ok i (List.mem_range.mp hi))
  unfold rangeU at er
  rw [ecR, List.filterMap_eq_map', oI_map] at er
  refine fnM_rt (sRet_ok (mUn_ok er ?_))
  rw [fSum_own]
  have el : (List.range (last - c)).map (fun i => (((V[c + i]?.getD []).count st : Nat) : Int)) = ((V.take last).drop c).map fun r => ((r.count st : Nat) : Int) := by
    refine List.ext_getElem (by simp; omega) fun i h1 h2 => ?_
    have hi : i < last - c := by simpa using h1
    simp only [List.getElem_map, List.getElem_range, List.getElem_drop, List.getElem_take]
    rw [List.getElem?_eq_getElem (by omega)]
    rfl
  rw [el]
  rfl
/-! ### wrong_row -/
def jr (wl : List (Int × Int × Int)) (G : List (List Int)) : Nat → Nat → DV
  | _, 0 => .non
  | b, k + 1 => if 0 < full G (b + 1) wl then .tup [.int ((b + 1 : Nat) : Int), .int (full G (b + 1) wl)] else jr wl G (b + 1) k
abbrev wrI : MS := sIf (mAnd (mTst (mBin cGe (mBin oItem (mVar 3) (mVar 5)) (mK (.int 1)))) (mTst (mBin cGt (mCall F__law_entries (aCons (mVarE 1) (aCons (mBin oAdd (mVar 5) (mK (.int 1))) (aCons (mBin oAdd (mBin oSub (mVar 4) (mBin itemU (mVar 3) (mVar 5))) (mK (.int 1))) (aCons (mVarE 4) aNil))))) (mBin itemU (mVar 2) (mVar 5))))) (sRet (mTup (aCons (mVarE 4) (aCons (mBin oAdd (mVar 5) (mK (.int 1))) aNil)))) sPass
abbrev S6 (p : Int) (rs : List (Int × Int × Int)) (V : List (List Int)) (o4 o5 : Option UV) : SL := [some (.d (kD p rs)), some (.d (.lst (V.map rowD))), some (dI (rs.map (sp p))), some (dI (rs.map wn)), o4, o5]
theorem mCall4 {f : MF} {m n p q : ME} {σ : SL} {h h2 : HS} {u v w x z : UV} (e1 : m σ h = .ok u h) (e2 : n σ h = .ok v h) (e3 : p σ h = .ok w h) (e4 : q σ h = .ok x h) (ho : noOwn u = true ∧ noOwn v = true ∧ noOwn w = true ∧ noOwn x = true) (e : f [u, v, w, x] h = .ok z h2) : mCall f (aCons m (aCons n (aCons p (aCons q aNil)))) σ h = .ok z h2 := by
  rw [mCall_at, aCons_at, e1, bindM_ok, aCons_at, e2, bindM_ok, aCons_at, e3, bindM_ok, aCons_at, e4]
  simp [ho.1, ho.2.1, ho.2.2.1, ho.2.2.2, e]
section
variable {p : Int} {rs : List (Int × Int × Int)} (k : KOk p rs) (V : List (List Int)) (hv : V.length ≤ 500) (hr : ∀ r ∈ V, r.length ≤ 500) (h : HS)
include k hv hr
theorem wrI_turn (b : Nat) (hb : b < V.length) (s : Nat) (hs : s < rs.length) (o5 : Option UV) : turnF (tdN 5) wrI (.d (.int (s : Int))) (S6 p rs V (some (.d (.int ((b + 1 : Nat) : Int)))) o5) h = if 1 ≤ wn rs[s] ∧ cntN ((s + 1 : Nat) : Int) ((V.take (b + 1)).drop (((b + 1 : Nat) : Int) - wn rs[s]).toNat) > sp p rs[s] then .rt (.d (.tup [.int ((b + 1 : Nat) : Int), .int ((s + 1 : Nat) : Int)])) h else .nx (S6 p rs V (some (.d (.int ((b + 1 : Nat) : Int)))) (some (.d (.int (s : Int))))) h := by
  let σ1 : SL := S6 p rs V (some (.d (.int ((b + 1 : Nat) : Int)))) (some (.d (.int (s : Int))))
  show wrI σ1 h = _
  have rr := k.r1 _ (List.getElem_mem hs)
  have wnb : -100 ≤ wn rs[s] ∧ wn rs[s] ≤ 100 := by unfold wn; omega
  have iw : oItem h (dI (rs.map wn)) (.d (.int (s : Int))) = some (.d (.int (wn rs[s]))) := by
    have := item_seqO (u := dI (rs.map wn)) (h := h) (xs := (rs.map wn).map .int) rfl s (by simpa using hs)
    simpa using this
  have iwU : itemU h (dI (rs.map wn)) (.d (.int (s : Int))) = some (.d (.int (wn rs[s]))) := by
    have := item_seq (u := dI (rs.map wn)) (h := h) (xs := (rs.map wn).map .int) rfl s (by simpa using hs)
    simpa using this
  have isU : itemU h (dI (rs.map (sp p))) (.d (.int (s : Int))) = some (.d (.int (sp p rs[s]))) := by
    have := item_seq (u := dI (rs.map (sp p))) (h := h) (xs := (rs.map (sp p)).map .int) rfl s (by simpa using hs)
    simpa using this
  have c1 := mTst_ok (mBin_ok (g := cGe) (n := mK (.int 1)) (mBin_ok (g := oItem) (m := mVar 3) (n := mVar 5) (σ := σ1) (h := h) rfl rfl iw) rfl (cGe_int h _ _))
  by_cases q1 : 1 ≤ wn rs[s]
  · have en := entries_ok V hv hr ((s : Int) + 1) (((b + 1 : Nat) : Int) - wn rs[s] + 1) (b + 1) (by omega) (by omega) h
    rw [show ((((b + 1 : Nat) : Int) - wn rs[s] + 1) - 1).toNat = (((b + 1 : Nat) : Int) - wn rs[s]).toNat from by omega] at en
    have c2 := mTst_ok (mBin_ok (g := cGt) (mCall4 (m := mVarE 1) (n := mBin oAdd (mVar 5) (mK (.int 1))) (p := mBin oAdd (mBin oSub (mVar 4) (mBin itemU (mVar 3) (mVar 5))) (mK (.int 1))) (q := mVarE 4) (σ := σ1) (h := h) rfl (mBin_ok (m := mVar 5) (n := mK (.int 1)) rfl rfl (oAdd_int h _ _)) (mBin_ok (n := mK (.int 1)) (mBin_ok (m := mVar 4) rfl (mBin_ok (g := itemU) (m := mVar 3) (n := mVar 5) rfl rfl iwU) (oSub_int h _ _)) rfl (oAdd_int h _ _)) rfl ⟨rfl, rfl, rfl, rfl⟩ en) (mBin_ok (g := itemU) (m := mVar 2) (n := mVar 5) rfl rfl isU) (cGt_int h _ _))
    have es : ((s : Int) + 1) = ((s + 1 : Nat) : Int) := by omega
    rw [es] at c2
    rw [decide_eq_true q1] at c1
    have c3 : mAnd (mTst (mBin cGe (mBin oItem (mVar 3) (mVar 5)) (mK (.int 1)))) (mTst (mBin cGt (mCall F__law_entries (aCons (mVarE 1) (aCons (mBin oAdd (mVar 5) (mK (.int 1))) (aCons (mBin oAdd (mBin oSub (mVar 4) (mBin itemU (mVar 3) (mVar 5))) (mK (.int 1))) (aCons (mVarE 4) aNil))))) (mBin itemU (mVar 2) (mVar 5)))) σ1 h = .ok (decide (sp p rs[s] < cntN ((s + 1 : Nat) : Int) ((V.take (b + 1)).drop (((b + 1 : Nat) : Int) - wn rs[s]).toNat))) h := by
      rw [mAnd_at, c1, bindM_ok, if_pos rfl]
      exact c2
    refine Eq.trans (sIf_ok c3) ?_
    by_cases q2 : cntN ((s + 1 : Nat) : Int) ((V.take (b + 1)).drop (((b + 1 : Nat) : Int) - wn rs[s]).toNat) > sp p rs[s]
    · have q2' : sp p rs[s] < cntN ((s + 1 : Nat) : Int) ((V.take (b + 1)).drop (((b + 1 : Nat) : Int) - wn rs[s]).toNat) := q2
      rw [decide_eq_true q2', if_pos rfl, if_pos ⟨q1, q2⟩]
      have := mBin_ok (g := oAdd) (m := mVar 5) (n := mK (.int 1)) (σ := σ1) (h := h) rfl rfl (oAdd_int h _ _)
      rw [es] at this
      exact sRet_ok (mTup2 (m := mVarE 4) rfl this)
    · have q2' : ¬ sp p rs[s] < cntN ((s + 1 : Nat) : Int) ((V.take (b + 1)).drop (((b + 1 : Nat) : Int) - wn rs[s]).toNat) := q2
      rw [decide_eq_false q2', if_neg Bool.false_ne_true, if_neg (fun z => q2 z.2)]; rfl
  · rw [decide_eq_false q1] at c1
    rw [if_neg (fun z => q1 z.1)]
    refine Eq.trans (sIf_ok (k := false) ?_) rfl
    rw [mAnd_at, c1]
    rfl
theorem wrI_loop (b : Nat) (hb : b < V.length) : ∀ (n s : Nat) (o5 : Option UV), s + n = rs.length → (full V (b + 1) (wlF p s (rs.drop s)) = 0 ∧ ∃ o5', loopL (turnF (tdN 5) wrI) ((List.range' s n).map fun (i : Nat) => .d (.int (0 + (i : Int)))) (S6 p rs V (some (.d (.int ((b + 1 : Nat) : Int)))) o5) h = .nx (S6 p rs V (some (.d (.int ((b + 1 : Nat) : Int)))) o5') h) ∨ (0 < full V (b + 1) (wlF p s (rs.drop s)) ∧ loopL (turnF (tdN 5) wrI) ((List.range' s n).map fun (i : Nat) => .d (.int (0 + (i : Int)))) (S6 p rs V (some (.d (.int ((b + 1 : Nat) : Int)))) o5) h = .rt (.d (.tup [.int ((b + 1 : Nat) : Int), .int (full V (b + 1) (wlF p s (rs.drop s)))])) h)
  | 0, s, o5, hn => .inl ⟨by rw [List.drop_of_length_le (by omega)]; rfl, o5, rfl⟩
  | n + 1, s, o5, hn => by
    have hs : s < rs.length := by omega
    have e := wrI_turn k V hv hr h b hb s hs o5
    rw [List.range'_succ, List.map_cons, Int.zero_add, List.drop_eq_getElem_cons hs, wlF]
    unfold wl1
    by_cases q1 : 1 ≤ wn rs[s]
    · rw [if_pos q1, List.cons_append, List.nil_append, full]
      simp only
      by_cases q2 : cntN ((s + 1 : Nat) : Int) ((V.take (b + 1)).drop (((b + 1 : Nat) : Int) - wn rs[s]).toNat) > sp p rs[s]
      · rw [if_pos ⟨q1, q2⟩] at e
        rw [if_pos q2]
        exact .inr ⟨by omega, by rw [loopL, e]⟩
      · rw [if_neg (fun z => q2 z.2)] at e
        rw [if_neg q2, loopL_nx e]
        exact wrI_loop b hb n (s + 1) _ (by omega)
    · rw [if_neg (fun z => q1 z.1)] at e
      rw [if_neg q1, List.nil_append, loopL_nx e]
      exact wrI_loop b hb n (s + 1) _ (by omega)
omit k hv hr in
theorem turn_at (b : MS) (i : Nat) (u : UV) (σ σ' : SL) (h : HS) (e : σ.set i (some u) = σ') : turnF (tdN i) b u σ h = b σ' h := by subst e; rfl
abbrev wrO : MS := sForR (mK (.int 0)) (mUn fLen (mVar 2)) (tdN 5) wrI
theorem wr_loop : ∀ (n b : Nat) (o4 o5 : Option UV), b + n = V.length → (∃ σ', loopL (turnF (tdN 4) wrO) ((List.range' b n).map fun (i : Nat) => .d (.int (1 + (i : Int)))) (S6 p rs V o4 o5) h = .nx σ' h ∧ jr (wlF p 0 rs) V b n = .non) ∨ (loopL (turnF (tdN 4) wrO) ((List.range' b n).map fun (i : Nat) => .d (.int (1 + (i : Int)))) (S6 p rs V o4 o5) h = .rt (.d (jr (wlF p 0 rs) V b n)) h)
  | 0, b, o4, o5, _ => .inl ⟨_, rfl, rfl⟩
  | n + 1, b, o4, o5, hn => by
    have hb : b < V.length := by omega
    have n1 := k.n1
    have i1 : (1 + (b : Int)) = ((b + 1 : Nat) : Int) := by omega
    have er := sForR_at (lo := mK (.int 0)) (hi := mUn fLen (mVar 2)) (td := tdN 5) (b := wrI) (σ := S6 p rs V (some (.d (.int ((b + 1 : Nat) : Int)))) o5) (h := h) (h1 := h) (h2 := h) (i := 0) (j := (rs.length : Int)) rfl (mUn_ok (m := mVar 2) (u := dI (rs.map (sp p))) rfl (by rw [fLen_lst, List.length_map, List.length_map])) (by omega)
    rw [show ((rs.length : Int) - 0).toNat = rs.length from by omega] at er
    unfold rangeU at er
    rw [List.range_eq_range'] at er
    rw [List.range'_succ, List.map_cons, i1, jr]
    rcases wrI_loop k V hv hr h b hb rs.length 0 o5 (by omega) with ⟨q, o5', e⟩ | ⟨q, e⟩
    · rw [List.drop_zero] at q
      have e0 := turn_at wrO 4 (.d (.int ((b + 1 : Nat) : Int))) (S6 p rs V o4 o5) _ h rfl
      rw [if_neg (by omega), loopL_nx (e0.trans (er.trans e))]
      exact wr_loop n (b + 1) _ _ (by omega)
    · rw [List.drop_zero] at q e
      rw [if_pos q]
      refine .inr ?_
      have e2 := (turn_at wrO 4 (.d (.int ((b + 1 : Nat) : Int))) (S6 p rs V o4 o5) _ h rfl).trans (er.trans e)
      rw [loopL, e2]
theorem wrong_row : F__law_wrong_row [.d (kD p rs), .d (.lst (V.map rowD))] h = .ok (.d (jr (wlF p 0 rs) V 0 V.length)) h := by
  have er := sForR_at (lo := mK (.int 1)) (hi := mBin oAdd (mUn fLen (mVar 1)) (mK (.int 1))) (td := tdN 4) (b := wrO) (σ := S6 p rs V none none) (h := h) (h1 := h) (h2 := h) (i := 1) (j := (V.length : Int) + 1) rfl (mBin_ok (n := mK (.int 1)) (mUn_ok (m := mVar 1) (u := .d (.lst (V.map rowD))) rfl (by rw [fLen_lst, List.length_map])) rfl (oAdd_int h _ _)) (by omega)
  rw [show ((V.length : Int) + 1 - 1).toNat = V.length from by omega] at er
  unfold rangeU at er
  rw [List.range_eq_range'] at er
  refine fnM_rt (Eq.trans (sSeq_nx (sSet_ok (mFz_ok (mCall1 (m := mVarE 0) rfl rfl (spares_ok k h)) (fz_oI _)))) (Eq.trans (sSeq_nx (sSet_ok (mFz_ok (mCall1 (m := mVarE 0) rfl rfl (windows_ok k h)) (fz_oI _)))) ?_))
  rcases wr_loop k V hv hr h V.length 0 none none (by omega) with ⟨σ', e, q⟩ | e
  · rw [q]
    exact Eq.trans (sSeq_nx (er.trans e)) rfl
  · exact sSeq_rt (er.trans e)
end
end MM.K04

namespace MM.K04
open PySem PySem.Spec PyProof.Rows L2
theorem slice_takeD (h : HS) (xs : List DV) (n : Nat) : sliceU h (.d (.lst xs)) none (some (n : Int)) = some (.own ((xs.take n).map .d)) := by
  unfold sliceU
  simp only [asL]
  have e : cutL (xs.map UV.d) none (some (n : Int)) = (xs.take n).map UV.d := by
    unfold cutL
    rw [HT.sIx_nat, HT.sIx_none, List.drop_zero, Nat.sub_zero, ← List.take_eq_take_min, List.map_take]
  rw [e]
  simp
def good (p m : Int) (V : List (List Int)) : Nat := (V.takeWhile (isRow p m)).length
def wf (p m : Int) (wl : List (Int × Int × Int)) (V : List (List Int)) : DV := match jr wl (V.take (good p m V)) 0 (good p m V) with
  | .non => if good p m V < V.length then .tup [.int ((good p m V + 1 : Nat) : Int), .int 0] else .non
  | t => t
theorem full_take (V : List (List Int)) (g b : Nat) (hb : b ≤ g) : ∀ l, full (V.take g) b l = full V b l
  | [] => rfl
  | t :: l => by rw [full, full, List.take_take, Nat.min_eq_left hb, full_take V g b hb l]
theorem good_row (p m : Int) : ∀ (V : List (List Int)) (b : Nat), b < good p m V → ∃ r, V[b]? = some r ∧ isRow p m r = true
  | [], b, h => by cases h
  | r :: V, b, h => by
    unfold good at h
    rw [List.takeWhile_cons] at h
    by_cases q : isRow p m r = true
    · rw [if_pos q] at h
      cases b with
      | zero => exact ⟨r, rfl, q⟩
      | succ b => exact good_row p m V b (by simpa [good] using h)
    · rw [if_neg q] at h; cases h
theorem good_end (p m : Int) : ∀ (V : List (List Int)), good p m V ≤ V.length ∧ (good p m V < V.length → ∃ r, V[good p m V]? = some r ∧ isRow p m r = false)
  | [] => ⟨Nat.le_refl _, fun h => by cases h⟩
  | r :: V => by
    have ih := good_end p m V
    by_cases q : isRow p m r = true
    · have e : good p m (r :: V) = good p m V + 1 := by unfold good; rw [List.takeWhile_cons, if_pos q]; rfl
      rw [e]
      refine ⟨by simp; exact ih.1, fun h => ?_⟩
      obtain ⟨r', e1, e2⟩ := ih.2 (by simpa using h)
      exact ⟨r', by simpa using e1, e2⟩
    · have e : good p m (r :: V) = 0 := by unfold good; rw [List.takeWhile_cons, if_neg q]; rfl
      rw [e]
      exact ⟨Nat.zero_le _, fun _ => ⟨r, rfl, by simpa using q⟩⟩
theorem jw_jr (p m : Int) (wl : List (Int × Int × Int)) (V : List (List Int)) : ∀ (n b : Nat), b + n = good p m V → jw p m wl V b (V.length - b) = match jr wl (V.take (good p m V)) b n with
    | .non => if good p m V < V.length then .tup [.int ((good p m V + 1 : Nat) : Int), .int 0] else .non
    | t => t
  | 0, b, hb => by
    obtain ⟨g1, g2⟩ := good_end p m V
    have eb : b = good p m V := by omega
    subst eb
    show _ = if good p m V < V.length then _ else _
    by_cases q : good p m V < V.length
    · rw [if_pos q]
      obtain ⟨r, e1, e2⟩ := g2 q
      rw [show V.length - good p m V = (V.length - good p m V - 1) + 1 from by omega, jw, e1]
      simp only
      rw [if_neg (by rw [e2]; exact Bool.false_ne_true)]
    · rw [if_neg q, show V.length - good p m V = 0 from by omega]
      rfl
  | n + 1, b, hb => by
    obtain ⟨g1, g2⟩ := good_end p m V
    obtain ⟨r, e1, e2⟩ := good_row p m V b (by omega)
    rw [show V.length - b = (V.length - (b + 1)) + 1 from by omega, jw, jr, e1, full_take V _ _ (by omega)]
    simp only
    rw [if_pos e2]
    by_cases q : 0 < full V (b + 1) wl
    · rw [if_pos q, if_pos q]
    · rw [if_neg q, if_neg q]
      exact jw_jr p m wl V n (b + 1) (by omega)
theorem jw_wf (p m : Int) (wl : List (Int × Int × Int)) (V : List (List Int)) : jw p m wl V 0 V.length = wf p m wl V := by
  have := jw_jr p m wl V (good p m V) 0 (by omega)
  rw [Nat.sub_zero] at this
  exact this
/-! ### word_fault -/
abbrev ftI : MS := sSeq (sSet 5 (mAndV (mVarE 5) (mChain (fun i j => decide (i ≤ j)) (fun i j => decide (i ≤ j)) (mVar 4) (mVar 6) (mUn fLen (mBin itemU (mVar 0) (mK (.int 1))))))) (sSet 4 (mVarE 6))
abbrev S8 (p : Int) (rs : List (Int × Int × Int)) (x : DV) (g : Int) (o3 o4 o5 o6 : Option UV) : SL := [some (.d (kD p rs)), some (.d x), some (.d (.int g)), o3, o4, o5, o6, none]
section
variable (p : Int) (rs : List (Int × Int × Int)) (x : DV) (h : HS)
theorem ft_turn (g : Int) (b s : Int) (k : Bool) (o3 o6 : Option UV) : turnF (tdN 6) ftI (.d (.int s)) (S8 p rs x g o3 (some (.d (.int b))) (some (.d (.bl k))) o6) h = .nx (S8 p rs x g o3 (some (.d (.int s))) (some (.d (.bl (k && (decide (b ≤ s) && decide (s ≤ (rs.length : Int))))))) (some (.d (.int s)))) h := by
  have e0 := turn_at ftI 6 (.d (.int s)) (S8 p rs x g o3 (some (.d (.int b))) (some (.d (.bl k))) o6) _ h rfl
  rw [e0]
  have l1 : mUn fLen (mBin itemU (mVar 0) (mK (.int 1))) (S8 p rs x g o3 (some (.d (.int b))) (some (.d (.bl k))) (some (.d (.int s)))) h = .ok (.d (.int (rs.length : Int))) h := mUn_ok (mBin_ok (m := mVar 0) (n := mK (.int 1)) rfl rfl (k1U p rs h)) (by rw [fLen_lst, List.length_map])
  have c : mChain (fun i j => decide (i ≤ j)) (fun i j => decide (i ≤ j)) (mVar 4) (mVar 6) (mUn fLen (mBin itemU (mVar 0) (mK (.int 1)))) (S8 p rs x g o3 (some (.d (.int b))) (some (.d (.bl k))) (some (.d (.int s)))) h = .ok (.d (.bl (decide (b ≤ s) && decide (s ≤ (rs.length : Int))))) h := by
    unfold mChain
    show bindM (.ok (UV.d (.int b)) h) _ = _
    rw [bindM_ok]
    show bindM (.ok (UV.d (.int s)) h) _ = _
    rw [bindM_ok]
    simp only [uInt_int]
    by_cases q : b ≤ s
    · rw [decide_eq_true q, if_pos rfl, l1, bindM_ok]
      simp
    · rw [decide_eq_false q, if_neg Bool.false_ne_true]
      simp
  have a : mAndV (mVarE 5) (mChain (fun i j => decide (i ≤ j)) (fun i j => decide (i ≤ j)) (mVar 4) (mVar 6) (mUn fLen (mBin itemU (mVar 0) (mK (.int 1))))) (S8 p rs x g o3 (some (.d (.int b))) (some (.d (.bl k))) (some (.d (.int s)))) h = .ok (.d (.bl (k && (decide (b ≤ s) && decide (s ≤ (rs.length : Int)))))) h := by
    rw [mAndV_at]
    show bindM (.ok (UV.d (.bl k)) h) _ = _
    rw [bindM_ok, truU_bl]
    show (if k = true then _ else _) = _
    cases k with
    | true => rw [if_pos rfl, c]; rfl
    | false => rfl
  exact Eq.trans (sSeq_nx (sSet_ok a)) rfl
theorem ft_loop (g : Int) (o3 : Option UV) : ∀ (r : List Int) (b : Int) (k : Bool) (o6 : Option UV), ∃ b' o6', loopL (turnF (tdN 6) ftI) (r.map fun i => .d (.int i)) (S8 p rs x g o3 (some (.d (.int b))) (some (.d (.bl k))) o6) h = .nx (S8 p rs x g o3 (some (.d (.int b'))) (some (.d (.bl (k && upOk rs.length b r)))) o6') h
  | [], b, k, o6 => ⟨b, o6, by rw [upOk, Bool.and_true]; rfl⟩
  | s :: r, b, k, o6 => by
    obtain ⟨b', o6', e⟩ := ft_loop g o3 r s (k && (decide (b ≤ s) && decide (s ≤ (rs.length : Int)))) (some (.d (.int s)))
    refine ⟨b', o6', ?_⟩
    rw [List.map_cons, loopL_nx (ft_turn p rs x h g b s k o3 o6), e]
    have : (k && (decide (b ≤ s) && decide (s ≤ (rs.length : Int))) && upOk rs.length s r) = (k && upOk rs.length b (s :: r)) := by
      rw [upOk, Bool.and_assoc]
      congr 1
      have e1 : (decide (b ≤ s) && decide (s ≤ (rs.length : Int))) = (!(decide (s < b) || decide ((rs.length : Int) < s))) := by
        by_cases q1 : b ≤ s <;> by_cases q2 : s ≤ (rs.length : Int) <;> simp [q1, q2] <;> omega
      rw [e1]
    rw [this]
abbrev ftO : MS := sSeq (sSet 4 (mK (.int 1))) (sSeq (sSet 5 (mBin (oEq false) (mUn fLen (mVar 3)) (mBin itemU (mVar 0) (mK (.int 0))))) (sSeq (sFor (mVarE 3) (tdN 6) ftI) (sSeq (sIf (mNot (mTru (mVar 5))) sBrk sPass) (sAug 2 (fun i j => i + j) (mK (.int 1))))))
theorem ft_row (w : RW) (g : Int) (o3 o4 o5 o6 : Option UV) : ∃ o4' o5' o6', turnF (tdN 3) ftO (.d (rowOf w)) (S8 p rs x g o3 o4 o5 o6) h = if isRow p rs.length w.2 = true then .nx (S8 p rs x (g + 1) (some (.d (rowOf w))) o4' o5' o6') h else .bk (S8 p rs x g (some (.d (rowOf w))) o4' o5' o6') h := by
  have s := rowSeq w
  have l := s.len h
  rw [List.length_map] at l
  obtain ⟨b', o6', e⟩ := ft_loop p rs x h g (some (.d (rowOf w))) w.2 1 ((w.2.length : Int) == p) o6
  have e0 := turn_at ftO 3 (.d (rowOf w)) (S8 p rs x g o3 o4 o5 o6) _ h rfl
  have ef := (sFor_at (m := mVarE 3) (td := tdN 6) (b := ftI) (σ := S8 p rs x g (some (.d (rowOf w))) (some (.d (.int 1))) (some (.d (.bl ((w.2.length : Int) == p)))) o6) (h := h) (h1 := h) (u := .d (rowOf w)) rfl (seq_frz s)).trans e
  refine ⟨some (.d (.int b')), some (.d (.bl (isRow p rs.length w.2))), o6', ?_⟩
  rw [e0]
  refine Eq.trans (sSeq_nx (σ1 := S8 p rs x g (some (.d (rowOf w))) (some (.d (.int 1))) o5 o6) (h1 := h) rfl) ?_
  refine Eq.trans (sSeq_nx (sSet_ok (mBin_ok (g := oEq false) (mUn_ok (m := mVar 3) rfl l) (mBin_ok (m := mVar 0) (n := mK (.int 0)) rfl rfl (k0U p rs h)) (oEq_int h false _ _)))) ?_
  refine Eq.trans (sSeq_nx ef) ?_
  have hr : ((w.2.length : Int) == p && upOk rs.length 1 w.2) = isRow p rs.length w.2 := rfl
  rw [hr]
  have tt := mNot_ok (mTru_ok (m := mVar 5) (σ := S8 p rs x g (some (.d (rowOf w))) (some (.d (.int b'))) (some (.d (.bl (isRow p rs.length w.2)))) o6') (h := h) (h1 := h) (b := isRow p rs.length w.2) rfl)
  cases q : isRow p rs.length w.2 with
  | true =>
    rw [q] at tt
    rw [if_pos rfl]
    refine Eq.trans (sSeq_nx (Eq.trans (sIf_ok tt) rfl)) ?_
    rw [sAug_int (a := g) (b := 1) rfl rfl]
    rfl
  | false =>
    rw [q] at tt
    rw [if_neg Bool.false_ne_true, sSeq_at, sIf_ok tt]
    rfl
theorem ft_rows : ∀ (W : List RW) (g : Int) (o3 o4 o5 o6 : Option UV), ∃ o3' o4' o5' o6', loopL (turnF (tdN 3) ftO) (W.map fun w => .d (rowOf w)) (S8 p rs x g o3 o4 o5 o6) h = .nx (S8 p rs x (g + (good p rs.length (W.map (·.2)) : Int)) o3' o4' o5' o6') h
  | [], g, o3, o4, o5, o6 => ⟨o3, o4, o5, o6, by rw [show good p rs.length (([] : List RW).map (·.2)) = 0 from rfl, Int.natCast_zero, Int.add_zero]; rfl⟩
  | w :: W, g, o3, o4, o5, o6 => by
    obtain ⟨a4, a5, a6, e⟩ := ft_row p rs x h w g o3 o4 o5 o6
    by_cases q : isRow p rs.length w.2 = true
    · rw [if_pos q] at e
      obtain ⟨b3, b4, b5, b6, e2⟩ := ft_rows W (g + 1) (some (.d (rowOf w))) a4 a5 a6
      refine ⟨b3, b4, b5, b6, ?_⟩
      rw [List.map_cons, loopL_nx e, e2]
      have eg : good p rs.length ((w :: W).map (·.2)) = good p rs.length (W.map (·.2)) + 1 := by
        unfold good; rw [List.map_cons, List.takeWhile_cons, if_pos q]; rfl
      rw [eg, show g + 1 + (good p rs.length (W.map (·.2)) : Int) = g + ((good p rs.length (W.map (·.2)) + 1 : Nat) : Int) from by omega]
    · rw [if_neg q] at e
      refine ⟨some (.d (rowOf w)), a4, a5, a6, ?_⟩
      have eg : good p rs.length ((w :: W).map (·.2)) = 0 := by
        unfold good; rw [List.map_cons, List.takeWhile_cons, if_neg q]; rfl
      rw [eg, Int.natCast_zero, Int.add_zero, List.map_cons, loopL, e]
end
theorem fz_tabR (t : List (List Int)) : fz (.own (t.map oI)) = some (.d (.lst (t.map rowD))) := by
  have key : toDl (t.map oI) = some (t.map rowD) := by
    induction t with
    | nil => rfl
    | cons r t ih =>
      rw [List.map_cons, List.map_cons]
      show (match toD (oI r), toDl (t.map oI) with
        | some y, some ys => some (y :: ys)
        | _, _ => none) = _
      rw [toD_oI, ih]
  unfold fz
  show (match (toDl (t.map oI)).map DV.lst with
    | some x => some (UV.d x)
    | none => _) = _
  rw [key]; rfl
theorem lists_ok {W : List RW} {m : ME} {td : Nat} {σ : SL} {h : HS} {x : DV} (s : SeqD x (W.map rowOf)) (hl : W.length ≤ 1000) (e0 : m σ h = .ok (.d x) h) (e1 : ∀ u, ((wipeU σ [td]).set td (some u))[td]? = some (some u)) : mComp m (tdN td) [td] mYes (mUn fList (mVar td)) σ h = .ok (.own ((W.map (·.2)).map oI)) h := by
  rw [List.map_map]
  exact comp_map (f := fun w => .d (rowOf w)) (g := fun w => oI w.2) e0 (seq_frz s) hl fun w _ => mUn_ok (u := .d (rowOf w)) (by rw [mVar_at, e1]) (fList_row w h)
theorem fault_ok {p : Int} {rs : List (Int × Int × Int)} (k : KOk p rs) (W : List RW) (hl : W.length ≤ 500) (hr : ∀ w ∈ W, w.2.length ≤ 500) (h : HS) : F__law_word_fault [.d (kD p rs), .d (.lst (W.map rowOf))] h = .ok (.d (wf p rs.length (wlF p 0 rs) (W.map (·.2)))) h := by
  have s : SeqD (.lst (W.map rowOf)) (W.map rowOf) := .inl rfl
  obtain ⟨o3, o4, o5, o6, e⟩ := ft_rows p rs (.lst (W.map rowOf)) h W 0 none none none none
  rw [Int.zero_add] at e
  generalize hg : good p rs.length (W.map (·.2)) = g at e
  have gl : g ≤ W.length := by have := (good_end p rs.length (W.map (·.2))).1; rw [List.length_map, hg] at this; exact this
  have ef := (sFor_at (m := mVarE 1) (td := tdN 3) (b := ftO) (σ := S8 p rs (.lst (W.map rowOf)) 0 none none none none) (h := h) (h1 := h) (u := .d (.lst (W.map rowOf))) rfl (seq_frz s)).trans e
  have sl := mSl1 (m := mVar 1) (n := mVar 2) (σ := S8 p rs (.lst (W.map rowOf)) (g : Int) o3 o4 o5 o6) (h := h) (u := .d (.lst (W.map rowOf))) (i := (g : Int)) rfl rfl (slice_takeD h _ g)
  have fz1 := mFz_ok sl (fz_own _)
  rw [← List.map_take] at fz1
  have cl := mFz_ok (lists_ok (W := W.take g) (td := 3) (.inl rfl) (by rw [List.length_take]; omega) fz1 (fun _ => rfl)) (fz_tabR _)
  have ev : (W.take g).map (·.2) = (W.map (·.2)).take g := by rw [List.map_take]
  rw [ev] at cl
  have wr := wrong_row k ((W.map (·.2)).take g) (by rw [List.length_take, List.length_map]; omega) (fun r hr' => by
    obtain ⟨w, hw, rfl⟩ := List.mem_map.mp (List.mem_of_mem_take hr')
    exact hr w hw) h
  rw [List.length_take, List.length_map, Nat.min_eq_left gl] at wr
  have c2 := mFz_ok (mCall2 (m := mVarE 0) (σ := S8 p rs (.lst (W.map rowOf)) (g : Int) o3 o4 o5 o6) (h := h) rfl cl ⟨rfl, rfl⟩ wr) (fz_d _)
  have ewf : wf p rs.length (wlF p 0 rs) (W.map (·.2)) = match jr (wlF p 0 rs) ((W.map (·.2)).take g) 0 g with
    | .non => if g < W.length then .tup [.int ((g + 1 : Nat) : Int), .int 0] else .non
    | t => t := by
    unfold wf
    rw [hg, List.length_map]
  have jt : ∀ n b, (jr (wlF p 0 rs) ((W.map (·.2)).take g) b n = .non) ∨ ∃ i j : Int, jr (wlF p 0 rs) ((W.map (·.2)).take g) b n = .tup [.int i, .int j] := fun n => by
    induction n with
    | zero => intro b; exact .inl rfl
    | succ n ih =>
      intro b
      rw [jr]
      split
      · exact .inr ⟨_, _, rfl⟩
      · exact ih (b + 1)
  refine fnM_rt ?_
  refine Eq.trans (sSeq_nx (σ1 := S8 p rs (.lst (W.map rowOf)) 0 none none none none) (h1 := h) rfl) ?_
  refine Eq.trans (sSeq_nx ef) ?_
  refine Eq.trans (sSeq_nx (sSet_ok c2)) ?_
  rcases jt g 0 with q | ⟨i, j, q⟩
  · rw [ewf, q]
    simp only
    refine Eq.trans (sSeq_nx (Eq.trans (sIf_ok (k := false) rfl) rfl)) ?_
    have lt := mTst_ok (mBin_ok (g := cLt) (m := mVar 2) (σ := [some (.d (kD p rs)), some (.d (.lst (W.map rowOf))), some (.d (.int (g : Int))), o3, o4, o5, o6, some (.d .non)]) (h := h) (h1 := h) rfl (mUn_ok (g := fLen) (m := mVar 1) (u := .d (.lst (W.map rowOf))) (v := .d (.int (W.length : Int))) rfl (by rw [fLen_lst, List.length_map])) (cLt_int h _ _))
    have mi := mIf_ok (m := mTup (aCons (mBin oAdd (mVar 2) (mK (.int 1))) (aCons (mK (.int 0)) aNil))) (n := mK .non) lt
    refine sRet_ok (Eq.trans mi ?_)
    by_cases q2 : g < W.length
    · rw [if_pos q2, decide_eq_true (by omega), if_pos rfl]
      have := mTup2 (m := mBin oAdd (mVar 2) (mK (.int 1))) (n := mK (.int 0)) (σ := [some (.d (kD p rs)), some (.d (.lst (W.map rowOf))), some (.d (.int (g : Int))), o3, o4, o5, o6, some (.d .non)]) (h := h) (mBin_ok (m := mVar 2) (n := mK (.int 1)) rfl rfl (oAdd_int h _ _)) rfl
      rw [this, show (g : Int) + 1 = ((g + 1 : Nat) : Int) from by omega]
    · rw [if_neg q2, decide_eq_false (by omega)]
      rfl
  · rw [ewf, q]
    exact sSeq_rt rfl
end MM.K04

namespace MM.K04
open PySem PySem.Spec PyProof.Rows L2
theorem matS (j : Nat) : F__law_matches_f (j + 1) = fnM 4 (matB exT (F__law_matches_f j)) := rfl
theorem matI (j : Nat) (a : Int) (h : HS) : F__law_matches_f (j + 1) [.d (.int a), .d (.int a)] h = .ok (.d (.bl true)) h := by
  rw [matS, mat_int]; simp
theorem matRow (j : Nat) (r : List Int) (hr : r.length ≤ 1000) (h : HS) : F__law_matches_f (j + 2) [.d (rowD r), .d (rowD r)] h = .ok (.d (.bl true)) h := by
  rw [matS]
  refine mat_lst exT h _ _ (by rw [List.length_map]; exact hr) fun x hx => ?_
  obtain ⟨i, _, rfl⟩ := List.mem_map.mp hx
  exact matI j i h
theorem match_tab (t : List (List Int)) (ht : t.length ≤ 1000) (hr : ∀ r ∈ t, r.length ≤ 1000) (h : HS) : F__law_matches [.d (.lst (t.map rowD)), .d (.lst (t.map rowD))] h = .ok (.d (.bl true)) h := by
  show F__law_matches_f (5 + 1) _ h = _
  rw [matS]
  refine mat_lst exT h _ _ (by rw [List.length_map]; exact ht) fun x hx => ?_
  obtain ⟨r, hm, rfl⟩ := List.mem_map.mp hx
  exact matRow 3 r (hr r hm) h
theorem match_non (h : HS) : F__law_matches [.d .non, .d .non] h = .ok (.d (.bl true)) h := by
  show F__law_matches_f (5 + 1) _ h = _
  rw [matS]
  simp [fnM_at, matB]
theorem match_two (i j : Int) (h : HS) : F__law_matches [.d (.tup [.int i, .int j]), .d (.tup [.int i, .int j])] h = .ok (.d (.bl true)) h := by
  show F__law_matches_f (5 + 1) _ h = _
  rw [matS]
  refine mat_tup exT h _ _ (by simp) fun x hx => ?_
  rcases List.mem_cons.mp hx with rfl | hx
  · exact matI 4 i h
  · rcases List.mem_cons.mp hx with rfl | hx
    · exact matI 4 j h
    · cases hx
theorem jr_ty (wl : List (Int × Int × Int)) (G : List (List Int)) : ∀ n b, (jr wl G b n = .non) ∨ ∃ i j : Int, jr wl G b n = .tup [.int i, .int j] := fun n => by
  induction n with
  | zero => intro b; exact .inl rfl
  | succ n ih =>
    intro b
    rw [jr]
    split
    · exact .inr ⟨_, _, rfl⟩
    · exact ih (b + 1)
theorem wf_ty (p m : Int) (wl : List (Int × Int × Int)) (V : List (List Int)) : wf p m wl V = .non ∨ ∃ i j : Int, wf p m wl V = .tup [.int i, .int j] := by
  unfold wf
  rcases jr_ty wl (V.take (good p m V)) (good p m V) 0 with q | ⟨i, j, q⟩
  · rw [q]
    simp only
    split
    · exact .inr ⟨_, _, rfl⟩
    · exact .inl rfl
  · rw [q]; exact .inr ⟨i, j, rfl⟩
theorem match_wf (p m : Int) (wl : List (Int × Int × Int)) (V : List (List Int)) (h : HS) : F__law_matches [.d (wf p m wl V), .d (wf p m wl V)] h = .ok (.d (.bl true)) h := by
  rcases wf_ty p m wl V with q | ⟨i, j, q⟩ <;> rw [q]
  · exact match_non h
  · exact match_two i j h
theorem mAndV_ok {m n : ME} {σ : SL} {h h1 : HS} (e : m σ h = .ok (.d (.bl true)) h1) : mAndV m n σ h = n σ h1 := by
  rw [mAndV_at, e]; rfl
theorem fTup_row (w : RW) (h : HS) : fTuple h (.d (rowOf w)) = some (.d (.tup (w.2.map .int))) := by
  unfold rowOf
  cases w.1
  · exact fTup_lst h _
  · rfl
theorem fTup_own (h : HS) (xs : List DV) : fTuple h (.own (xs.map .d)) = some (.d (.tup xs)) := by
  show ((asL h (.own (xs.map .d))).bind (mapO uD)).map _ = _
  show ((some (xs.map UV.d)).bind (mapO uD)).map _ = _
  rw [Option.bind_some, mapO_uD]; rfl
theorem judged {p : Int} {rs : List (Int × Int × Int)} (k : KOk p rs) (st : UV) (hst : noOwn st = true) (W : List RW) (hl : W.length ≤ 500) (hr : ∀ w ∈ W, w.2.length ≤ 500) (h : HS) : F__law_judged [st, .d (insD p rs), .d (kD p rs), .d (.lst (W.map rowOf))] h = .ok (.d (.bl true)) h := by
  generalize hV : W.map (·.2) = V
  have vl : V.length = W.length := by rw [← hV, List.length_map]
  have vr : ∀ r ∈ V, r.length ≤ 500 := fun r hr' => by
    rw [← hV] at hr'
    obtain ⟨w, hw, rfl⟩ := List.mem_map.mp hr'
    exact hr w hw
  have fl := fault_ok k W hl hr h
  rw [hV] at fl
  have j1 : F_judge_word [.d (insD p rs), .d (.lst (V.map rowD))] h = .ok (.d (wf p rs.length (wlF p 0 rs) V)) h := by
    have := judge_ok (p := p) (rs := rs) (x := .lst (V.map rowD)) (W := V.map fun r => (false, r)) (.inl (by rw [List.map_map]; rfl)) (by rw [List.length_map]; omega) h k
    rw [List.map_map, List.length_map] at this
    rw [show V.map ((·.2) ∘ fun r : List Int => ((false, r) : RW)) = V from by show V.map id = V; rw [List.map_id], jw_wf] at this
    exact this
  have j2 : F_judge_word [.d (insD p rs), .d (.tup (V.map fun r => .tup (r.map .int)))] h = .ok (.d (wf p rs.length (wlF p 0 rs) V)) h := by
    have := judge_ok (p := p) (rs := rs) (x := .tup (V.map fun r => .tup (r.map .int))) (W := V.map fun r => (true, r)) (.inr (by rw [List.map_map]; rfl)) (by rw [List.length_map]; omega) h k
    rw [List.map_map, List.length_map] at this
    rw [show V.map ((·.2) ∘ fun r : List Int => ((true, r) : RW)) = V from by show V.map id = V; rw [List.map_id], jw_wf] at this
    exact this
  let σ3 : SL := [some st, some (.d (insD p rs)), some (.d (kD p rs)), some (.d (.lst (W.map rowOf))), some (.d (wf p rs.length (wlF p 0 rs) V)), none, none, none]
  let σ5 : SL := [some st, some (.d (insD p rs)), some (.d (kD p rs)), some (.d (.lst (W.map rowOf))), some (.d (wf p rs.length (wlF p 0 rs) V)), some (.d (.lst (V.map rowD))), none, none]
  have l3 := lists_ok (W := W) (m := mVarE 3) (td := 6) (σ := σ3) (h := h) (x := .lst (W.map rowOf)) (.inl rfl) (by omega) rfl (fun _ => rfl)
  have l5 := lists_ok (W := W) (m := mVarE 3) (td := 6) (σ := σ5) (h := h) (x := .lst (W.map rowOf)) (.inl rfl) (by omega) rfl (fun _ => rfl)
  rw [hV] at l3 l5
  have tl : mUn fTuple (mComp (mVarE 3) (tdN 6) [6] mYes (mUn fTuple (mVar 6))) σ5 h = .ok (.d (.tup (V.map fun r => .tup (r.map .int)))) h := by
    have := comp_map (m := mVarE 3) (me := mUn fTuple (mVar 6)) (td := 6) (σ := σ5) (h := h) (x := .d (.lst (W.map rowOf))) (f := fun w => .d (rowOf w)) (g := fun w => .d (.tup (w.2.map .int))) (xs := W) rfl (frz_map rowOf W) (by omega) fun w _ => mUn_ok (m := mVar 6) (u := .d (rowOf w)) rfl (fTup_row w h)
    refine mUn_ok this ?_
    have e : (W.map fun w => UV.d (.tup (w.2.map .int))) = (V.map fun r => DV.tup (r.map .int)).map .d := by
      rw [← hV, List.map_map, List.map_map]; rfl
    rw [e]
    exact fTup_own h _
  have m1 := match_wf p rs.length (wlF p 0 rs) V h
  have m2 := match_tab V (by omega) (fun r hr' => by have := vr r hr'; omega) h
  refine fnM_rt ?_
  refine Eq.trans (sSeq_nx (sSet_ok (mFz_ok (mCall2 (m := mVarE 2) (n := mVarE 3) rfl rfl ⟨rfl, rfl⟩ fl) (fz_d _)))) ?_
  refine Eq.trans (sSeq_nx (sSet_ok l3)) ?_
  refine Eq.trans (ghFz (u := .own (V.map oI)) rfl (fz_tabR V)) ?_
  refine Eq.trans (sSeq_nx (sIf_nt2 (mCall2 (n := mVarE 4) (mFz_ok (mCall2 (m := mVarE 1) (n := mVarE 5) (σ := σ5) (h := h) rfl rfl ⟨rfl, rfl⟩ j1) (fz_d _)) rfl ⟨rfl, rfl⟩ m1) (mCall2 (m := mVarE 5) rfl (mFz_ok l5 (fz_tabR V)) ⟨rfl, rfl⟩ m2))) ?_
  refine Eq.trans (sSeq_nx (sSet_ok tl)) ?_
  refine sRet_ok ?_
  refine Eq.trans (mAndV_ok (mCall2 (n := mVarE 4) (mFz_ok (mCall2 (m := mVarE 1) (n := mVarE 7) rfl rfl ⟨rfl, rfl⟩ j2) (fz_d _)) rfl ⟨rfl, rfl⟩ m1)) ?_
  exact mCall2 (n := mVarE 4) (mFz_ok (mCall2 (m := mVarE 1) (n := mVarE 5) rfl rfl ⟨rfl, rfl⟩ j1) (fz_d _)) rfl ⟨rfl, rfl⟩ m1
end MM.K04

namespace MM.K04
open PySem PySem.Spec PyProof.Rows L2
theorem fnM_nx {N : Nat} {b : MS} {us : List UV} {h h' : HS} {σ' : SL} (q : b (us.map some ++ List.replicate (N - us.length) none) h = .nx σ' h') : fnM N b us h = .ok (.d .non) h' := by
  rw [fnM_at, q]
theorem tg1 (h : HS) : tabGet tab_LIMITS h (.d (.str "stations")) = some (.d (.int 6)) := by kernel_rfl
theorem tg2 (h : HS) : tabGet tab_LIMITS h (.d (.str "burners")) = some (.d (.int 200)) := by kernel_rfl
theorem tg3 (h : HS) : tabGet tab_LIMITS h (.d (.str "stays")) = some (.d (.int 60)) := by kernel_rfl
theorem tg4 (h : HS) : tabGet tab_LIMITS h (.d (.str "pace")) = some (.d (.int 12)) := by kernel_rfl
theorem chk {w : Str} {l : Int} (h : HS) (tg : tabGet tab_LIMITS h (.d (.str w)) = some (.d (.int l))) (n : Int) (hn : n ≤ l) : F_check [.d (.str w), .d (.int n)] h = .ok (.d .non) h := by
  have t := mTst_ok (mBin_ok (g := cGt) (m := mVar 1) (σ := [some (.d (.str w)), some (.d (.int n))]) (h := h) rfl (mUn_ok (m := mVar 0) rfl tg) (cGt_int h _ _))
  rw [decide_eq_false (by omega)] at t
  exact fnM_nx (Eq.trans (sIf_ok t) rfl)
theorem chk_each {w : Str} {l : Int} (h : HS) (tg : tabGet tab_LIMITS h (.d (.str w)) = some (.d (.int l))) (xs : List Int) (hx : ∀ x ∈ xs, x ≤ l) : F_check_each [.d (.str w), .d (rowD xs)] h = .ok (.d .non) h := by
  obtain ⟨σ', h', e, o2, rfl, rfl⟩ := loop_steps (f := turnF (tdN 2) (sDrop (mCall F_check (aCons (mVarE 0) (aCons (mVarE 2) aNil))))) (xs.map fun i => UV.d (.int i)) (fun _ σ h' => ∃ o2, σ = [some (.d (.str w)), some (.d (rowD xs)), o2] ∧ h' = h) [some (.d (.str w)), some (.d (rowD xs)), none] h ⟨none, rfl, rfl⟩ fun i hi σ h' ⟨o2, e1, e2⟩ => by
    subst e1 e2
    have hi' : i < xs.length := by simpa using hi
    refine ⟨[some (.d (.str w)), some (.d (rowD xs)), some (.d (.int xs[i]))], h', ?_, _, rfl, rfl⟩
    rw [List.getElem_map]
    show sDrop _ [some (.d (.str w)), some (.d (rowD xs)), some (.d (.int xs[i]))] h' = _
    rw [sDrop_at, mCall2 (m := mVarE 0) (n := mVarE 2) rfl rfl ⟨rfl, rfl⟩ (chk h' tg _ (hx _ (List.getElem_mem hi')))]
    rfl
  exact fnM_nx ((sFor_at (u := .d (rowD xs)) (h1 := h') rfl (frz_map DV.int xs)).trans e)
section
variable {p : Int} {rs : List (Int × Int × Int)} (k : KOk p rs) (h : HS)
include k
theorem full_rows : F_full_rows [.d (.lst (rs.map r3))] h = .ok (.own ((rs.map r3).map .d)) h := by
  have n1 := k.n1
  have sz := size1000
  refine fnM_rt (sRet_ok ?_)
  rw [mComp_at (x := .d (.lst (rs.map r3))) (us := rs.map fun t => .d (r3 t)) (h1 := h) rfl (frz_map r3 rs)]
  rw [compE_fm (f := turnC (tdN 1) [1] (mTst (mBin (oEq false) (mUn fLen (mVar 1)) (mK (.int 3)))) (mVarE 1) _) (fun t => UV.d (r3 t)) (fun t => some (.d (r3 t))) (xs := rs) (by omega) fun t _ => by
    have l3 : fLen h (.d (r3 t)) = some (.d (.int 3)) := by simp [fLen, lenU, asQ, asT]
    simp [turnC, tdN, wipeU, l3, oEq_int], List.filterMap_eq_map', List.map_map]
  rfl
theorem check_rows : F_check_rows [.d (.lst (rs.map r3))] h = .ok (.d .non) h := by
  have n1 := k.n1
  have fr := full_rows k h
  have lr : fLen h (.d (.lst (rs.map r3))) = some (.d (.int (rs.length : Int))) := by rw [fLen_lst, List.length_map]
  have c1 := mTst_ok (mBin_ok (g := oEq false) (m := mUn fLen (mVar 0)) (n := mK (.int 0)) (σ := [some (.d (.lst (rs.map r3))), none]) (h := h) (mUn_ok (m := mVar 0) rfl lr) rfl (oEq_int h false _ _))
  have c2 := mTst_ok (mBin_ok (g := cLt) (σ := [some (.d (.lst (rs.map r3))), none]) (h := h) (mUn_ok (g := fLen) (mCall1 (m := mVarE 0) rfl rfl fr) (fLen_own h _)) (mUn_ok (m := mVar 0) rfl lr) (cLt_int h _ _))
  have nlt : ¬ ((rs.length : Int) < (rs.length : Int)) := by omega
  rw [List.length_map, List.length_map, decide_eq_false nlt] at c2
  have q1 : ((rs.length : Int) == 0) = false := beq_eq_false_iff_ne.mpr (by omega)
  rw [show (if false = true then !((rs.length : Int) == 0) else ((rs.length : Int) == 0)) = false from by simp only [Bool.false_eq_true, if_false]; exact q1] at c1
  have co : mOr (mTst (mBin (oEq false) (mUn fLen (mVar 0)) (mK (.int 0)))) (mTst (mBin cLt (mUn fLen (mCall F_full_rows (aCons (mVarE 0) aNil))) (mUn fLen (mVar 0)))) [some (.d (.lst (rs.map r3))), none] h = .ok false h := by
    rw [mOr_at, c1, bindM_ok]
    exact c2
  obtain ⟨σ', h', e, o1, rfl, rfl⟩ := range_steps (f := turnF (tdN 1) (sSeq (sIf (mTst (mBin cLt (mBin oItem (mBin oItem (mVar 0) (mVar 1)) (mK (.int 0))) (mK (.int 0)))) (sRaise "BadKitchen" ["what", "station"] (aCons (mK (.str "burners")) (aCons (mBin oAdd (mVar 1) (mK (.int 1))) aNil))) sPass) (sSeq (sIf (mTst (mBin cLt (mBin oItem (mBin oItem (mVar 0) (mVar 1)) (mK (.int 1))) (mK (.int 1)))) (sRaise "BadKitchen" ["what", "station"] (aCons (mK (.str "free")) (aCons (mBin oAdd (mVar 1) (mK (.int 1))) aNil))) sPass) (sIf (mTst (mBin cLt (mBin oItem (mBin oItem (mVar 0) (mVar 1)) (mK (.int 2))) (mK (.int 0)))) (sRaise "BadKitchen" ["what", "station"] (aCons (mK (.str "own")) (aCons (mBin oAdd (mVar 1) (mK (.int 1))) aNil))) sPass)))) rs.length (fun _ σ h' => ∃ o1, σ = [some (.d (.lst (rs.map r3))), o1] ∧ h' = h) [some (.d (.lst (rs.map r3))), none] h ⟨none, rfl, rfl⟩ fun i hi σ h' ⟨o1, e1, e2⟩ => by
    subst e1 e2
    have rr := k.r1 _ (List.getElem_mem hi)
    let σ1 : SL := [some (.d (.lst (rs.map r3))), some (.d (.int (i : Int)))]
    have it := item_seqO (u := .d (.lst (rs.map r3))) (h := h') (xs := rs.map r3) rfl i (by rw [List.length_map]; exact hi)
    rw [List.getElem_map] at it
    have rw0 := mBin_ok (g := oItem) (m := mVar 0) (n := mVar 1) (σ := σ1) (h := h') rfl rfl it
    have a0 := mTst_ok (mBin_ok (g := cLt) (n := mK (.int 0)) (mBin_ok (g := oItem) (n := mK (.int 0)) rw0 rfl (t0 rs[i] h')) rfl (cLt_int h' _ _))
    have a1 := mTst_ok (mBin_ok (g := cLt) (n := mK (.int 1)) (mBin_ok (g := oItem) (n := mK (.int 1)) rw0 rfl (t1 rs[i] h')) rfl (cLt_int h' _ _))
    have a2 := mTst_ok (mBin_ok (g := cLt) (n := mK (.int 0)) (mBin_ok (g := oItem) (n := mK (.int 2)) rw0 rfl (t2 rs[i] h')) rfl (cLt_int h' _ _))
    rw [decide_eq_false (by omega)] at a0 a1 a2
    refine ⟨σ1, h', ?_, _, rfl, rfl⟩
    refine Eq.trans (turn_at _ 1 _ _ σ1 h' rfl) ?_
    refine Eq.trans (sSeq_nx (Eq.trans (sIf_ok a0) rfl)) (Eq.trans (sSeq_nx (Eq.trans (sIf_ok a1) rfl)) (Eq.trans (sIf_ok a2) rfl))
  have er := sForR_at (lo := mK (.int 0)) (hi := mUn fLen (mVar 0)) (td := tdN 1) (b := (sSeq (sIf (mTst (mBin cLt (mBin oItem (mBin oItem (mVar 0) (mVar 1)) (mK (.int 0))) (mK (.int 0)))) (sRaise "BadKitchen" ["what", "station"] (aCons (mK (.str "burners")) (aCons (mBin oAdd (mVar 1) (mK (.int 1))) aNil))) sPass) (sSeq (sIf (mTst (mBin cLt (mBin oItem (mBin oItem (mVar 0) (mVar 1)) (mK (.int 1))) (mK (.int 1)))) (sRaise "BadKitchen" ["what", "station"] (aCons (mK (.str "free")) (aCons (mBin oAdd (mVar 1) (mK (.int 1))) aNil))) sPass) (sIf (mTst (mBin cLt (mBin oItem (mBin oItem (mVar 0) (mVar 1)) (mK (.int 2))) (mK (.int 0)))) (sRaise "BadKitchen" ["what", "station"] (aCons (mK (.str "own")) (aCons (mBin oAdd (mVar 1) (mK (.int 1))) aNil))) sPass)))) (σ := [some (.d (.lst (rs.map r3))), none]) (h := h') (h1 := h') (h2 := h') (i := 0) (j := (rs.length : Int)) rfl (mUn_ok (m := mVar 0) rfl lr) (by omega)
  rw [show ((rs.length : Int) - 0).toNat = rs.length from by omega, e] at er
  exact fnM_nx (Eq.trans (sSeq_nx (Eq.trans (sIf_ok co) rfl)) er)
theorem col_ok {m : ME} {σ : SL} {f : Int × Int × Int → Int} {c : Int} (e0 : σ[3]? = some (some (.d (.lst (rs.map r3))))) (e1 : ∀ u, ((wipeU σ [4]).set 4 (some u))[4]? = some (some u)) (hf : ∀ t, oItem h (.d (r3 t)) (.d (.int c)) = some (.d (.int (f t)))) : mComp (mVarE 3) (tdN 4) [4] mYes (mBin oItem (mVar 4) (mK (.int c))) σ h = .ok (oI (rs.map f)) h := by
  have n1 := k.n1
  rw [← oI_map]
  exact comp_map (x := .d (.lst (rs.map r3))) (f := fun t => .d (r3 t)) (g := fun t => .d (.int (f t))) (by rw [mVarE_at, e0]; rfl) (frz_map r3 rs) (by omega) fun t _ => mBin_ok (n := mK (.int c)) (u := .d (r3 t)) (by rw [mVar_at, e1]) rfl (hf t)
theorem getF_nil (f : Str) : getF f [] = none := rfl
theorem fset_ok {f : Str} {m : ME} {σ : SL} {h h1 : HS} {n : Nat} {fs : List (Str × UV)} {u : UV} (hA : AT.contains ((("Kitchen" : Str), f)) = true) (e0 : σ[0]? = some (some (.ref n))) (e1 : m σ h = .ok u h1) (e2 : h1[n]? = some (.obj "Kitchen" fs)) (hl : fs.length < 1000) (hf : getF f fs = none) : sFSet AT 0 f m σ h = .nx σ (h1.set n (.obj "Kitchen" (fs ++ [(f, u)]))) := by
  unfold sFSet
  rw [e1, bindS_ok, e0]
  simp only [e2]
  rw [if_pos ⟨hA, hl, hf⟩]
theorem init_ok : F_Kitchen____init__ [.ref h.length, .d (.int p), .d (.lst (rs.map r3))] (h ++ [.obj "Kitchen" []]) = .ok (.d .non) (h ++ [.obj "Kitchen" [("pace_number", .d (.int p)), ("row_list", .d (.lst (rs.map r3)))]]) := by
  have n1 := k.n1
  have p1 := k.p1
  have sz := sz5
  generalize hh : (h ++ [Cel.obj "Kitchen" []]) = h1
  have e1 : h1[h.length]? = some (.obj "Kitchen" []) := by rw [← hh]; simp
  have st1 : h1.set h.length (.obj "Kitchen" [(("pace_number" : Str), UV.d (.int p))]) = h ++ [.obj "Kitchen" [("pace_number", .d (.int p))]] := by
    rw [← hh, List.set_append_right _ _ (Nat.le_refl _)]; simp
  let σ3 : SL := [some (.ref h.length), some (.d (.int p)), some (.d (.lst (rs.map r3))), some (.d (.lst (rs.map r3))), none]
  have lr : fLen h1 (.d (.lst (rs.map r3))) = some (.d (.int (rs.length : Int))) := by rw [fLen_lst, List.length_map]
  have a0 := col_ok k h1 (m := mVarE 3) (σ := σ3) (f := fun t => t.1) (c := 0) rfl (fun _ => rfl) (fun t => t0 t h1)
  have a1 := col_ok k h1 (m := mVarE 3) (σ := σ3) (f := fun t => t.2.1) (c := 1) rfl (fun _ => rfl) (fun t => t1 t h1)
  have a2 := col_ok k h1 (m := mVarE 3) (σ := σ3) (f := fun t => t.2.2) (c := 2) rfl (fun _ => rfl) (fun t => t2 t h1)
  have dr : ∀ {m : ME} {h : HS}, m σ3 h = .ok (.d .non) h → sDrop m σ3 h = .nx σ3 h := fun {m h} e => by rw [sDrop_at, e]; rfl
  refine fnM_nx (N := 5) (σ' := σ3) ?_
  refine Eq.trans (sSeq_nx (sSet_ok (mFz_ok (mCall1 (m := mVarE 2) rfl rfl (full_rows k h1)) (fz_own _)))) ?_
  refine Eq.trans (sSeq_nx (dr (mCall2 (m := mK (.str "stations")) rfl (mUn_ok (m := mVar 2) rfl lr) ⟨rfl, rfl⟩ (chk h1 (tg1 h1) _ (by omega))))) ?_
  refine Eq.trans (sSeq_nx (dr (mCall2 (m := mK (.str "burners")) rfl (mFz_ok a0 (fz_oI _)) ⟨rfl, rfl⟩ (chk_each h1 (tg2 h1) _ fun x hx => by
    obtain ⟨t, ht, rfl⟩ := List.mem_map.mp hx
    have := k.r1 t ht
    omega)))) ?_
  refine Eq.trans (sSeq_nx (dr (mCall2 (m := mK (.str "stays")) rfl (mFz_ok (mBin_ok a1 a2 (oAdd_oI h1 _ _ (by rw [List.length_map, List.length_map]; omega))) (fz_oI _)) ⟨rfl, rfl⟩ (chk_each h1 (tg3 h1) _ fun x hx => by
    rcases List.mem_append.mp hx with hx | hx
    · obtain ⟨t, ht, rfl⟩ := List.mem_map.mp hx
      have := k.r1 t ht
      omega
    · obtain ⟨t, ht, rfl⟩ := List.mem_map.mp hx
      have := k.r1 t ht
      omega)))) ?_
  refine Eq.trans (sSeq_nx (dr (mCall2 (m := mK (.str "pace")) (n := mVarE 1) rfl rfl ⟨rfl, rfl⟩ (chk h1 (tg4 h1) _ (by omega))))) ?_
  have pt := mTst_ok (mBin_ok (g := cLt) (m := mVar 1) (n := mK (.int 1)) (σ := σ3) (h := h1) rfl rfl (cLt_int h1 _ _))
  rw [decide_eq_false (by omega)] at pt
  refine Eq.trans (sSeq_nx (Eq.trans (sIf_ok pt) rfl)) ?_
  refine Eq.trans (sSeq_nx (dr (mCall1 (m := mVarE 2) rfl rfl (check_rows k h1)))) ?_
  refine Eq.trans (sSeq_nx (fset_ok k (m := mVarE 1) at1 rfl rfl e1 (by decide) rfl)) ?_
  rw [List.nil_append, st1]
  have rl : mFz (mComp (mVarE 2) (tdN 4) [4] mYes (mTup (aCons (mBin oItem (mVar 4) (mK (.int 0))) (aCons (mBin oItem (mVar 4) (mK (.int 1))) (aCons (mBin oItem (mVar 4) (mK (.int 2))) aNil))))) σ3 (h ++ [.obj "Kitchen" [("pace_number", .d (.int p))]]) = .ok (.d (.lst (rs.map r3))) (h ++ [.obj "Kitchen" [("pace_number", .d (.int p))]]) := by
    generalize (h ++ [Cel.obj "Kitchen" [(("pace_number" : Str), UV.d (.int p))]]) = h2
    have := comp_map (m := mVarE 2) (me := mTup (aCons (mBin oItem (mVar 4) (mK (.int 0))) (aCons (mBin oItem (mVar 4) (mK (.int 1))) (aCons (mBin oItem (mVar 4) (mK (.int 2))) aNil)))) (td := 4) (σ := σ3) (h := h2) (x := .d (.lst (rs.map r3))) (f := fun t => .d (r3 t)) (g := fun t => .d (r3 t)) (xs := rs) rfl (frz_map r3 rs) (by omega) fun t _ => mTup3 (mBin_ok (m := mVar 4) (n := mK (.int 0)) rfl rfl (t0 t h2)) (mBin_ok (m := mVar 4) (n := mK (.int 1)) rfl rfl (t1 t h2)) (mBin_ok (m := mVar 4) (n := mK (.int 2)) rfl rfl (t2 t h2))
    refine mFz_ok this ?_
    have e := fz_own (rs.map r3)
    rw [List.map_map] at e
    exact e
  have gn : getF "row_list" [(("pace_number" : Str), UV.d (.int p))] = none := by
    show (if ("row_list" : Str) = "pace_number" then _ else getF "row_list" []) = _
    rw [if_neg (by decide +kernel)]
    rfl
  have := fset_ok k (m := mFz (mComp (mVarE 2) (tdN 4) [4] mYes (mTup (aCons (mBin oItem (mVar 4) (mK (.int 0))) (aCons (mBin oItem (mVar 4) (mK (.int 1))) (aCons (mBin oItem (mVar 4) (mK (.int 2))) aNil)))))) (n := h.length) at2 (σ := σ3) rfl rl (by simp) (by show 1 < 1000; omega) gn
  refine Eq.trans this ?_
  rw [List.set_append_right _ _ (Nat.le_refl _)]
  simp
omit k in
theorem a2_ok {m n : ME} {σ : SL} {h h1 h2 : HS} {u v : UV} (e1 : m σ h = .ok u h1) (e2 : n σ h1 = .ok v h2) : aCons m (aCons n aNil) σ h = .ok [u, v] h2 := by
  rw [aCons_at, e1, bindM_ok, aCons_at, e2]; rfl
omit k in
theorem new_at {nm : Str} {F : MF} {ms : MAs} {σ : SL} {h h1 : HS} {us : List UV} (e : ms σ h = .ok us h1) : mNew nm F ms σ h = if us.all noOwn = true then newR nm h1.length (F (.ref h1.length :: us) (h1 ++ [Cel.obj nm []])) else .bad := by
  unfold mNew
  rw [e, bindM_ok]
/-- the store holds no reference into itself -/
theorem kitchen_ok (hc : h.all (celLt h.length) = true) : F__law_as_kitchen [.d (kD p rs)] h = .ok (.d (insD p rs)) h := by
  have n1 := k.n1
  have rl : mFz (mComp (mBin oItem (mVar 0) (mK (.int 1))) (tdN 1) [1] mYes (mUn fTuple (mVar 1))) [some (.d (kD p rs)), none] h = .ok (.d (.lst (rs.map r3))) h := by
    have := comp_map (m := mBin oItem (mVar 0) (mK (.int 1))) (me := mUn fTuple (mVar 1)) (td := 1) (σ := [some (.d (kD p rs)), none]) (h := h) (x := .d (.lst (rs.map r3))) (f := fun t => .d (r3 t)) (g := fun t => .d (r3 t)) (xs := rs) (mBin_ok (m := mVar 0) (n := mK (.int 1)) rfl rfl (k1 p rs h)) (frz_map r3 rs) (by omega) fun t _ => mUn_ok (m := mVar 1) rfl rfl
    refine mFz_ok this ?_
    have e := fz_own (rs.map r3)
    rw [List.map_map] at e
    exact e
  refine fnM_rt (sRet_ok ?_)
  refine Eq.trans (new_at (a2_ok (mBin_ok (m := mVar 0) (n := mK (.int 0)) rfl rfl (k0 p rs h)) rl)) ?_
  rw [if_pos (show [UV.d (DV.int p), UV.d (DV.lst (rs.map r3))].all noOwn = true from rfl), init_ok k h]
  unfold newR
  simp only [List.getElem?_append_right (Nat.le_refl _), Nat.sub_self, List.getElem?_cons_zero, List.take_left]
  rw [if_pos ⟨trivial, hc⟩]
  rfl
end
end MM.K04

namespace MM.K04
open PySem PySem.Spec PyProof.Rows L2
theorem loop_rt {f : UV → SL → HS → RS'} {R : UV → HS → Prop} : ∀ (xs : List UV) (Pv : Nat → SL → HS → Prop) (σ : SL) (h : HS), Pv 0 σ h → (∀ i (hi : i < xs.length) σ h, Pv i σ h → (∃ σ' h', f xs[i] σ h = .nx σ' h' ∧ Pv (i + 1) σ' h') ∨ (∃ u h', f xs[i] σ h = .rt u h' ∧ R u h')) → (∃ σ' h', loopL f xs σ h = .nx σ' h' ∧ Pv xs.length σ' h') ∨ (∃ u h', loopL f xs σ h = .rt u h' ∧ R u h')
  | [], Pv, σ, h, h0, _ => .inl ⟨σ, h, rfl, h0⟩
  | x :: xs, Pv, σ, h, h0, hs => by
    rcases hs 0 (by simp) σ h h0 with ⟨σ1, h1, e1, p1⟩ | ⟨u, h1, e1, r1⟩
    · rcases loop_rt xs (fun i => Pv (i + 1)) σ1 h1 p1 fun i hi σ h p => by
        have := hs (i + 1) (by simpa using hi) σ h p
        simpa using this with ⟨σ2, h2, e2, p2⟩ | ⟨u, h2, e2, r2⟩
      · exact .inl ⟨σ2, h2, (loopL_nx e1).trans e2, p2⟩
      · exact .inr ⟨u, h2, (loopL_nx e1).trans e2, r2⟩
    · refine .inr ⟨u, h1, ?_, r1⟩
      have e1' : f x σ h = .rt u h1 := e1
      rw [loopL, e1']
theorem range_rt {f : UV → SL → HS → RS'} {R : UV → HS → Prop} (n : Nat) (Pv : Nat → SL → HS → Prop) (σ : SL) (h : HS) (h0 : Pv 0 σ h) (hs : ∀ i, i < n → ∀ σ h, Pv i σ h → (∃ σ' h', f (.d (.int (i : Int))) σ h = .nx σ' h' ∧ Pv (i + 1) σ' h') ∨ (∃ u h', f (.d (.int (i : Int))) σ h = .rt u h' ∧ R u h')) : (∃ σ' h', loopL f (rangeU 0 n) σ h = .nx σ' h' ∧ Pv n σ' h') ∨ (∃ u h', loopL f (rangeU 0 n) σ h = .rt u h' ∧ R u h') := by
  have := loop_rt (f := f) (R := R) (rangeU 0 n) Pv σ h h0 fun i hi σ h p => by
    rw [rangeU_len] at hi
    have e : (rangeU 0 n)[i]'(by rw [rangeU_len]; exact hi) = .d (.int (i : Int)) := by simp [rangeU]
    rw [e]
    exact hs i hi σ h p
  rw [rangeU_len] at this
  exact this
/-- a comprehension that leaves some out -/
theorem comp_sub {α : Type} {f : UV → HS → MR (Option UV)} {h : HS} {e : α → UV} : ∀ {xs : List α}, (∀ x ∈ xs, ∃ b : Bool, f (e x) h = .ok (if b then some (e x) else none) h) → ∃ ys : List α, ys.Sublist xs ∧ compL f (xs.map e) h = .ok (ys.map e) h
  | [], _ => ⟨[], List.Sublist.refl _, rfl⟩
  | x :: xs, hx => by
    obtain ⟨b, e1⟩ := hx x List.mem_cons_self
    obtain ⟨ys, s, e2⟩ := comp_sub (xs := xs) fun y hy => hx y (List.mem_cons_of_mem _ hy)
    cases b with
    | true =>
      refine ⟨x :: ys, s.cons_cons x, ?_⟩
      rw [List.map_cons, compL, e1]
      simp only [if_true]
      rw [e2]
      rfl
    | false =>
      refine ⟨ys, s.cons x, ?_⟩
      rw [List.map_cons, compL, e1]
      simp only [Bool.false_eq_true, if_false]
      exact e2
theorem compE_sub {α : Type} {f : UV → HS → MR (Option UV)} {h : HS} {e : α → UV} {xs : List α} (hl : xs.length ≤ 1000) (hx : ∀ x ∈ xs, ∃ b : Bool, f (e x) h = .ok (if b then some (e x) else none) h) : ∃ ys : List α, ys.Sublist xs ∧ compE f (xs.map e) h = .ok (.own (ys.map e)) h := by
  obtain ⟨ys, s, e2⟩ := comp_sub hx
  refine ⟨ys, s, ?_⟩
  unfold compE
  rw [if_pos (by rw [List.length_map]; have := size1000; omega), e2]
  rfl
/-! ### all rows -/
def allR (m : Nat) : Nat → List (List Int)
  | 0 => [[]]
  | p + 1 => (allR m p).flatMap fun r => let b := (r.getLast?.getD 1).toNat; (List.range (m + 1 - b)).map fun i => r ++ [((b + i : Nat) : Int)]
theorem all_rows (m p : Nat) (hm : 1 ≤ m ∧ m ≤ 4) (hp : 1 ≤ p ∧ p ≤ 3) (h : HS) : F__law_all_rows [.d (.int (m : Int)), .d (.int (p : Int))] h = .ok (.d (.lst ((allR m p).map fun r => .tup (r.map .int)))) h := by
  have h1 : m = 1 ∨ m = 2 ∨ m = 3 ∨ m = 4 := by omega
  have h2 : p = 1 ∨ p = 2 ∨ p = 3 := by omega
  rcases h1 with rfl | rfl | rfl | rfl <;> rcases h2 with rfl | rfl | rfl <;> kernel_rfl
theorem all_facts (m p : Nat) (hm : 1 ≤ m ∧ m ≤ 4) (hp : 1 ≤ p ∧ p ≤ 3) : 0 < (allR m p).length ∧ (allR m p).length ≤ 20 ∧ ∀ r ∈ allR m p, r.length ≤ 3 := by
  have h1 : m = 1 ∨ m = 2 ∨ m = 3 ∨ m = 4 := by omega
  have h2 : p = 1 ∨ p = 2 ∨ p = 3 := by omega
  rcases h1 with rfl | rfl | rfl | rfl <;> rcases h2 with rfl | rfl | rfl <;> decide +kernel
/-! ### row_after -/
theorem oIn_ints (h : HS) (i : Int) (xs : List Int) : ∃ b : Bool, oIn false h (.d (.int i)) (dI xs) = some (.d (.bl b)) := by
  have e : (asQ h (dI xs)).bind (mapO fV) = some (xs.map V.int) := by
    show (some ((xs.map DV.int).map UV.d)).bind (mapO fV) = _
    rw [Option.bind_some, List.map_map]
    exact mapO_map (g := UV.d ∘ DV.int) (k := V.int) (fun x => rfl) xs
  refine ⟨inV (.int i) (xs.map V.int), ?_⟩
  unfold oIn
  rw [e]
  rfl
theorem slice_tupD (h : HS) (xs : List DV) (c : Nat) : sliceU h (.d (.tup xs)) (some (c : Int)) none = some (.d (.tup (xs.drop c))) := by
  have e : cutL xs (some (c : Int)) none = xs.drop c := by
    unfold cutL
    rw [HT.sIx_nat, HT.sIx_none, List.take_of_length_le (by rw [List.length_drop]; omega)]
    by_cases q : c ≤ xs.length
    · rw [Nat.min_eq_left q]
    · rw [List.drop_eq_nil_of_le (as := xs) (i := min c xs.length) (by omega), List.drop_eq_nil_of_le (as := xs) (i := c) (by omega)]
  show some (UV.d (.tup (cutL xs (some (c : Int)) none))) = _
  rw [e]
theorem fList_tup (h : HS) (xs : List DV) : fList h (.d (.tup xs)) = some (.own (xs.map .d)) := by
  unfold fList
  simp [asQ, asT]
theorem eqcount {w : RW} {σ : SL} {h : HS} {td j : Nat} {st : Int} {x : DV} {m : ME} (hw : w.2.length ≤ 500) (e0 : m σ h = .ok (.d (rowOf w)) h) {tm : ME} (e1 : ∀ i : Int, (mTst (mBin (oEq false) (mVar td) tm)) ((wipeU σ [td]).set td (some (.d (.int i)))) h = .ok (i == st) h) (e2 : ∀ u, ((wipeU σ [td]).set td (some u))[td]? = some (some u)) : mUn fLen (mComp m (tdN td) [td] (mTst (mBin (oEq false) (mVar td) tm)) (mVarE td)) σ h = .ok (.d (.int ((w.2.count st : Nat) : Int))) h := by
  have ec := compE_fm (f := turnC (tdN td) [td] (mTst (mBin (oEq false) (mVar td) tm)) (mVarE td) σ) (h := h) (fun i : Int => UV.d (.int i)) (fun i => if (i == st) = true then some (.d (.int i)) else none) (xs := w.2) (by have := size1000; omega) fun a _ => by
    unfold turnC tdN
    simp only
    rw [e1 a]
    by_cases q : (a == st) = true
    · rw [q, if_pos rfl]
      simp only
      rw [mVarE_at, e2]
      rfl
    · have q' : (a == st) = false := by simpa using q
      rw [q', if_neg Bool.false_ne_true]
  have ec2 := (mComp_at (td := tdN td) (ss := [td]) (cond := mTst (mBin (oEq false) (mVar td) tm)) (me := mVarE td) e0 (seq_frz (rowSeq w))).trans ec
  have := mUn_ok ec2 (fLen_own h _)
  rw [fm_count] at this
  exact this
abbrev raC : MT := mAnd (mTst (mBin cGe (mBin oItem (mVar 5) (mVar 6)) (mK (.int 1)))) (mTst (mBin (oIn false) (mBin oAdd (mVar 6) (mK (.int 1))) (mVar 3)))
abbrev raS : MS := sSet 7 (mFz (mBin oAdd (mUn fList (mSlice (mVar 1) (oYes (mBin fMax2 (mK (.int 0)) (mBin oAdd (mBin oSub (mUn fLen (mVar 1)) (mBin itemU (mVar 5) (mVar 6))) (mK (.int 1))))) oNo)) (mLst (aCons (mVarE 2) aNil))))
abbrev raT : MS := sIf (mTst (mBin cGt (mUn fSum (mComp (mVarE 7) (tdN 9) [9] mYes (mUn fLen (mComp (mVarE 9) (tdN 8) [8] (mTst (mBin (oEq false) (mVar 8) (mBin oAdd (mVar 6) (mK (.int 1))))) (mVarE 8))))) (mBin itemU (mVar 4) (mVar 6)))) (sRet (mK (.bl false))) sPass
theorem row_after {p : Int} {rs : List (Int × Int × Int)} (k : KOk p rs) (W : List RW) (hl : W.length ≤ 500) (hr : ∀ w ∈ W, w.2.length ≤ 500) (w : RW) (hw : w.2.length ≤ 500) (as : List Int) (h : HS) : ∃ b : Bool, F__law_row_after [.d (kD p rs), .d (.tup (W.map rowOf)), .d (rowOf w), .d (rowD as)] h = .ok (.d (.bl b)) h := by
  have n1 := k.n1
  have sz := sz5
  let S : Option UV → Option UV → Option UV → Option UV → SL := fun o6 o7 o8 o9 => [some (.d (kD p rs)), some (.d (.tup (W.map rowOf))), some (.d (rowOf w)), some (.d (rowD as)), some (dI (rs.map (sp p))), some (dI (rs.map wn)), o6, o7, o8, o9]
  have key := range_rt (f := turnF (tdN 6) (sIf raC (sSeq raS raT) sPass)) (R := fun u h' => h' = h ∧ u = .d (.bl false)) rs.length (fun _ σ h' => h' = h ∧ ∃ o6 o7 o8 o9, σ = S o6 o7 o8 o9) (S none none none none) h ⟨rfl, none, none, none, none, rfl⟩ fun i hi σ h' ⟨eh, o6, o7, o8, o9, es⟩ => by
    subst eh es
    let σ1 : SL := S (some (.d (.int (i : Int)))) o7 o8 o9
    have iw : oItem h' (dI (rs.map wn)) (.d (.int (i : Int))) = some (.d (.int (wn rs[i]))) := by
      have := item_seqO (u := dI (rs.map wn)) (h := h') (xs := (rs.map wn).map .int) rfl i (by simpa using hi)
      simpa using this
    have iwU : itemU h' (dI (rs.map wn)) (.d (.int (i : Int))) = some (.d (.int (wn rs[i]))) := by
      have := item_seq (u := dI (rs.map wn)) (h := h') (xs := (rs.map wn).map .int) rfl i (by simpa using hi)
      simpa using this
    have isU : itemU h' (dI (rs.map (sp p))) (.d (.int (i : Int))) = some (.d (.int (sp p rs[i]))) := by
      have := item_seq (u := dI (rs.map (sp p))) (h := h') (xs := (rs.map (sp p)).map .int) rfl i (by simpa using hi)
      simpa using this
    have c1 := mTst_ok (mBin_ok (g := cGe) (n := mK (.int 1)) (mBin_ok (g := oItem) (m := mVar 5) (n := mVar 6) (σ := σ1) (h := h') rfl rfl iw) rfl (cGe_int h' _ _))
    obtain ⟨bi, ei⟩ := oIn_ints h' ((i : Int) + 1) as
    have c2 := mTst_ok (mBin_ok (g := oIn false) (n := mVar 3) (mBin_ok (g := oAdd) (m := mVar 6) (n := mK (.int 1)) (σ := σ1) (h := h') rfl rfl (oAdd_int h' _ _)) rfl ei)
    have c3 : raC σ1 h' = .ok (decide (1 ≤ wn rs[i]) && bi) h' := by
      show mAnd _ _ σ1 h' = _
      rw [mAnd_at, c1, bindM_ok]
      by_cases q : 1 ≤ wn rs[i]
      · rw [decide_eq_true q, if_pos rfl, c2]; rfl
      · rw [decide_eq_false q]; rfl
    have e0 := (turn_at (sIf raC (sSeq raS raT) sPass) 6 (.d (.int (i : Int))) (S o6 o7 o8 o9) σ1 h' rfl).trans (sIf_ok c3)
    cases hb : (decide (1 ≤ wn rs[i]) && bi) with
    | false =>
      rw [hb] at e0
      exact .inl ⟨σ1, h', e0, rfl, _, _, _, _, rfl⟩
    | true =>
      rw [hb, if_pos rfl] at e0
      have ln : fLen h' (.d (.tup (W.map rowOf))) = some (.d (.int (W.length : Int))) := by
        have := SeqD.len (x := .tup (W.map rowOf)) (xs := W.map rowOf) (.inr rfl) h'
        rw [List.length_map] at this; exact this
      generalize hc : ((W.length : Int) - wn rs[i] + 1).toNat = c
      have mx := mBin_ok (g := fMax2) (m := mK (.int 0)) (σ := σ1) (h := h') rfl (mBin_ok (g := oAdd) (n := mK (.int 1)) (mBin_ok (g := oSub) (mUn_ok (m := mVar 1) rfl ln) (mBin_ok (g := itemU) (m := mVar 5) (n := mVar 6) rfl rfl iwU) (oSub_int h' _ _)) rfl (oAdd_int h' _ _)) (fMax2_0 h' _)
      rw [hc] at mx
      have sl := mSl2 (m := mVar 1) (σ := σ1) (h := h') (u := .d (.tup (W.map rowOf))) rfl mx (slice_tupD h' _ c)
      rw [← List.map_drop] at sl
      have l1 : mLst (aCons (mVarE 2) aNil) σ1 h' = .ok (.own ([rowOf w].map .d)) h' := lst1 rfl
      have ad := mFz_ok (mBin_ok (mUn_ok sl (fList_tup h' _)) l1 (oAdd_ds h' ((W.drop c).map rowOf) [rowOf w] (by rw [List.length_map, List.length_drop, List.length_singleton]; omega))) (fz_own _)
      have ew : (W.drop c).map rowOf ++ [rowOf w] = (W.drop c ++ [w]).map rowOf := by rw [List.map_append]; rfl
      rw [ew] at ad
      let σ2 : SL := S (some (.d (.int (i : Int)))) (some (.d (.lst ((W.drop c ++ [w]).map rowOf)))) o8 o9
      have sm := comp_map (m := mVarE 7) (me := mUn fLen (mComp (mVarE 9) (tdN 8) [8] (mTst (mBin (oEq false) (mVar 8) (mBin oAdd (mVar 6) (mK (.int 1))))) (mVarE 8))) (td := 9) (σ := σ2) (h := h') (x := .d (.lst ((W.drop c ++ [w]).map rowOf))) (f := fun w => .d (rowOf w)) (g := fun w => .d (.int ((w.2.count ((i : Int) + 1) : Nat) : Int))) (xs := W.drop c ++ [w]) rfl (frz_map rowOf _) (by rw [List.length_append, List.length_drop, List.length_singleton]; omega) fun v hv => by
        have hvl : v.2.length ≤ 500 := by
          rcases List.mem_append.mp hv with z | z
          · exact hr v (List.mem_of_mem_drop z)
          · rw [List.mem_singleton.mp z]; exact hw
        exact eqcount (x := .non) (j := 0) hvl rfl (fun a => mTst_ok (mBin_ok (g := oEq false) (m := mVar 8) rfl (mBin_ok (m := mVar 6) (n := mK (.int 1)) rfl rfl (oAdd_int h' _ _)) (oEq_int h' false _ _))) (fun _ => rfl)
      rw [oI_map] at sm
      have tt := mTst_ok (mBin_ok (g := cGt) (mUn_ok sm (fSum_own h' _)) (mBin_ok (g := itemU) (m := mVar 4) (n := mVar 6) rfl rfl isU) (cGt_int h' _ _))
      have e1 := e0.trans ((sSeq_nx (sSet_ok ad)).trans (sIf_ok tt))
      cases hb2 : decide (sp p rs[i] < ((W.drop c ++ [w]).map fun w => ((w.2.count ((i : Int) + 1) : Nat) : Int)).sum) with
      | false =>
        rw [hb2] at e1
        exact .inl ⟨σ2, h', e1, rfl, _, _, _, _, rfl⟩
      | true =>
        rw [hb2] at e1
        exact .inr ⟨_, h', e1, rfl, rfl⟩
  have er := sForR_at (lo := mK (.int 0)) (hi := mUn fLen (mVar 4)) (td := tdN 6) (b := sIf raC (sSeq raS raT) sPass) (σ := S none none none none) (h := h) (h1 := h) (h2 := h) (i := 0) (j := (rs.length : Int)) rfl (mUn_ok (m := mVar 4) (u := dI (rs.map (sp p))) rfl (by rw [fLen_lst, List.length_map, List.length_map])) (by omega)
  rw [show ((rs.length : Int) - 0).toNat = rs.length from by omega] at er
  have pre : ∀ {b : MS} {r : RS'}, b (S none none none none) h = r → sSeq (sSet 4 (mFz (mCall F__law_spares (aCons (mVarE 0) aNil)))) (sSeq (sSet 5 (mFz (mCall F__law_windows (aCons (mVarE 0) aNil)))) b) [some (.d (kD p rs)), some (.d (.tup (W.map rowOf))), some (.d (rowOf w)), some (.d (rowD as)), none, none, none, none, none, none] h = r := fun {b r} e =>
    Eq.trans (sSeq_nx (sSet_ok (mFz_ok (mCall1 (m := mVarE 0) rfl rfl (spares_ok k h)) (fz_oI _)))) (Eq.trans (sSeq_nx (sSet_ok (mFz_ok (mCall1 (m := mVarE 0) rfl rfl (windows_ok k h)) (fz_oI _)))) e)
  rcases key with ⟨σ', h', e, rfl, o6, o7, o8, o9, rfl⟩ | ⟨u, h', e, rfl, rfl⟩
  · exact ⟨true, fnM_rt (pre (Eq.trans (sSeq_nx (er.trans e)) rfl))⟩
  · exact ⟨false, fnM_rt (pre (sSeq_rt (er.trans e)))⟩
end MM.K04

namespace MM.K04
open PySem PySem.Spec PyProof.Rows L2
/-- the words that are drawn: rows short, not many of them -/
def Wok (W : List RW) : Prop := W.length ≤ 100 ∧ ∀ w ∈ W, 0 < w.2.length ∧ w.2.length ≤ 20
/-- kitchens of the law's own: small -/
structure KS (p : Int) (rs : List (Int × Int × Int)) : Prop where
  k : KOk p rs
  p3 : p ≤ 3
  n4 : rs.length ≤ 4
theorem drawL {h0 : HS} {k : Nat} {h : HS} (m : Int) (hc : CellIn h0 k h) (hm : 0 < m ∧ m < 1073741824) : ∃ r h', 0 ≤ r ∧ r < m ∧ F__law_draw [.ref k, .d (.int m)] h = .ok (.d (.int r)) h' ∧ CellIn h0 k h' := drawC m hc hm
theorem drawN {h0 : HS} {k : Nat} {h : HS} (m : Nat) (hc : CellIn h0 k h) (hm : 0 < m ∧ m < 1000000) : ∃ (r : Nat) (h' : HS), r < m ∧ F__law_draw [.ref k, .d (.int (m : Int))] h = .ok (.d (.int (r : Int))) h' ∧ CellIn h0 k h' := by
  obtain ⟨r, h', r0, r1, e, c⟩ := drawL (m : Int) hc (by omega)
  exact ⟨r.toNat, h', by omega, by rw [Int.toNat_of_nonneg r0]; exact e, c⟩
theorem turnC_at {td : TD} {vs : List Nat} {cond : MT} {me : ME} {σ σ1 : SL} {u y : UV} {h : HS} {b : Bool} (e0 : td u (wipeU σ vs) = some σ1) (ec : cond σ1 h = .ok b h) (em : me σ1 h = .ok y h) : turnC td vs cond me σ u h = .ok (if b then some y else none) h := by
  unfold turnC
  rw [e0]
  show (match cond σ1 h with
    | .ok true h' => _
    | .ok false h' => _
    | _ => _) = _
  rw [ec]
  cases b with
  | true =>
    show (match me σ1 h with
      | .ok y h' => _
      | _ => _) = _
    rw [em]; rfl
  | false => rfl
theorem all_pos (m p : Nat) (hm : 1 ≤ m ∧ m ≤ 4) (hp : 1 ≤ p ∧ p ≤ 3) : ∀ r ∈ allR m p, 0 < r.length := by
  have h1 : m = 1 ∨ m = 2 ∨ m = 3 ∨ m = 4 := by omega
  have h2 : p = 1 ∨ p = 2 ∨ p = 3 := by omega
  rcases h1 with rfl | rfl | rfl | rfl <;> rcases h2 with rfl | rfl | rfl <;> decide +kernel
abbrev allW (m p : Nat) : List RW := (allR m p).map fun r => (true, r)
theorem allW_D (m p : Nat) : (allR m p).map (fun r => DV.tup (r.map .int)) = (allW m p).map rowOf := by
  rw [List.map_map]; rfl
section
variable {p : Int} {rs : List (Int × Int × Int)} (ks : KS p rs)
include ks
theorem choices_ok {σ : SL} {i : Nat} (h : HS) (e : σ[i]? = some (some (.d (kD p rs)))) : mFz (mCall F__law_all_rows (aCons (mUn fLen (mBin itemU (mVar i) (mK (.int 1)))) (aCons (mBin oItem (mVar i) (mK (.int 0))) aNil))) σ h = .ok (.d (.lst ((allW rs.length p.toNat).map rowOf))) h := by
  have v : mVar i σ h = .ok (.d (kD p rs)) h := by rw [mVar_at, e]
  have n1 := ks.k.n1
  have p1 := ks.k.p1
  have p3 := ks.p3
  have n4 := ks.n4
  have a := all_rows rs.length p.toNat (by omega) (by omega) h
  rw [Int.toNat_of_nonneg (by omega), allW_D] at a
  exact mFz_ok (mCall2 (mUn_ok (mBin_ok (n := mK (.int 1)) v rfl (k1U p rs h)) (by rw [fLen_lst, List.length_map])) (mBin_ok (n := mK (.int 0)) v rfl (k0 p rs h)) ⟨rfl, rfl⟩ a) (fz_d _)
theorem all_small : 0 < (allW rs.length p.toNat).length ∧ (allW rs.length p.toNat).length ≤ 20 ∧ ∀ w ∈ allW rs.length p.toNat, 0 < w.2.length ∧ w.2.length ≤ 3 := by
  have n1 := ks.k.n1
  have p1 := ks.k.p1
  have p3 := ks.p3
  have n4 := ks.n4
  obtain ⟨a, b, c⟩ := all_facts rs.length p.toNat (by omega) (by omega)
  refine ⟨by rw [List.length_map]; exact a, by rw [List.length_map]; exact b, fun w hw => ?_⟩
  obtain ⟨r, hr, rfl⟩ := List.mem_map.mp hw
  exact ⟨all_pos rs.length p.toNat (by omega) (by omega) r hr, c r hr⟩
theorem asked_ok {σ : SL} {i : Nat} (h : HS) (e : σ[i]? = some (some (.d (kD p rs)))) : ∃ as : List Int, mFz (mListR (mK (.int 1)) (mBin oAdd (mUn fLen (mBin itemU (mVar i) (mK (.int 1)))) (mK (.int 1)))) σ h = .ok (.d (rowD as)) h := by
  have v : mVar i σ h = .ok (.d (kD p rs)) h := by rw [mVar_at, e]
  have n4 := ks.n4
  have hi := mBin_ok (g := oAdd) (n := mK (.int 1)) (mUn_ok (g := fLen) (v := .d (.int (rs.length : Int))) (mBin_ok (n := mK (.int 1)) v rfl (k1U p rs h)) (by rw [fLen_lst, List.length_map])) rfl (oAdd_int h _ _)
  refine ⟨(List.range ((rs.length : Int) + 1 - 1).toNat).map fun (n : Nat) => 1 + (n : Int), ?_⟩
  have el : mListR (mK (.int 1)) (mBin oAdd (mUn fLen (mBin itemU (mVar i) (mK (.int 1)))) (mK (.int 1))) σ h = .ok (oI ((List.range ((rs.length : Int) + 1 - 1).toNat).map fun (n : Nat) => 1 + (n : Int))) h := by
    unfold mListR
    rw [mK_at, bindM_ok, hi, bindM_ok]
    simp only [uInt_int]
    rw [if_pos (by omega), ← oI_map]
    rfl
  exact mFz_ok el (fz_oI _)
theorem too_much (W : List RW) (hW : Wok W) (h : HS) : ∃ T : List RW, (∀ t ∈ T, t ∈ allW rs.length p.toNat) ∧ T.length ≤ 20 ∧ F__law_too_much [.d (kD p rs), .d (.lst (W.map rowOf))] h = .ok (.own (T.map fun w => .d (rowOf w))) h := by
  obtain ⟨a0, a1, a2⟩ := all_small ks
  obtain ⟨as, ea⟩ := asked_ok ks (σ := [some (.d (kD p rs)), some (.d (.lst (W.map rowOf))), none, none, none, none]) (i := 0) h rfl
  have ec := choices_ok ks (σ := [some (.d (kD p rs)), some (.d (.lst (W.map rowOf))), some (.d (rowD as)), none, none, none]) (i := 0) h rfl
  let σ4 : SL := [some (.d (kD p rs)), some (.d (.lst (W.map rowOf))), some (.d (rowD as)), some (.d (.lst ((allW rs.length p.toNat).map rowOf))), none, none]
  obtain ⟨T, sT, eT⟩ := compE_sub (f := turnC (tdN 4) [4] (mNot (mTru (mCall F__law_row_after (aCons (mVarE 0) (aCons (mUn fTuple (mComp (mVarE 1) (tdN 5) [5] mYes (mUn fTuple (mVar 5)))) (aCons (mVarE 4) (aCons (mVarE 2) aNil))))))) (mVarE 4) σ4) (h := h) (e := fun w => .d (rowOf w)) (xs := allW rs.length p.toNat) (by omega) fun w hw => by
    let σ5 : SL := [some (.d (kD p rs)), some (.d (.lst (W.map rowOf))), some (.d (rowD as)), some (.d (.lst ((allW rs.length p.toNat).map rowOf))), some (.d (rowOf w)), none]
    have tl : mUn fTuple (mComp (mVarE 1) (tdN 5) [5] mYes (mUn fTuple (mVar 5))) σ5 h = .ok (.d (.tup ((W.map fun w => ((true, w.2) : RW)).map rowOf))) h := by
      have hW1 := hW.1
      have := comp_map (m := mVarE 1) (me := mUn fTuple (mVar 5)) (td := 5) (σ := σ5) (h := h) (x := .d (.lst (W.map rowOf))) (f := fun w => .d (rowOf w)) (g := fun w => .d (.tup (w.2.map .int))) (xs := W) rfl (frz_map rowOf W) (by omega) fun w _ => mUn_ok (m := mVar 5) (u := .d (rowOf w)) rfl (fTup_row w h)
      refine mUn_ok this ?_
      have e : (W.map fun w => UV.d (.tup (w.2.map .int))) = ((W.map fun w => ((true, w.2) : RW)).map rowOf).map .d := by
        rw [List.map_map, List.map_map]; rfl
      rw [e]
      exact fTup_own h _
    obtain ⟨b, eb⟩ := row_after ks.k (W.map fun w => ((true, w.2) : RW)) (by rw [List.length_map]; have := hW.1; omega) (fun v hv => by
      obtain ⟨u, hu, rfl⟩ := List.mem_map.mp hv
      have := hW.2 u hu
      show u.2.length ≤ 500
      omega) w (by have := a2 w hw; omega) as h
    have c := mNot_ok (mTru_ok (mCall4 (m := mVarE 0) (p := mVarE 4) (q := mVarE 2) (σ := σ5) (h := h) rfl tl rfl rfl ⟨rfl, rfl, rfl, rfl⟩ eb))
    exact ⟨!b, turnC_at (σ1 := σ5) rfl c rfl⟩
  refine ⟨T, fun t ht => sT.subset ht, Nat.le_trans sT.length_le a1, ?_⟩
  refine fnM_rt (Eq.trans (sSeq_nx (sSet_ok ea)) (Eq.trans (sSeq_nx (sSet_ok ec)) (sRet_ok ?_)))
  exact (mComp_at (td := tdN 4) (ss := [4]) (σ := σ4) (h1 := h) (x := .d (.lst ((allW rs.length p.toNat).map rowOf))) rfl (frz_map rowOf _)).trans eT
abbrev rwB : MS := sSeq (sSet 7 (mComp (mVarE 3) (tdN 8) [8] (mTru (mCall F__law_row_after (aCons (mVarE 1) (aCons (mUn fTuple (mVar 5)) (aCons (mVarE 8) (aCons (mVarE 4) aNil)))))) (mVarE 8))) (sGh (gFz 7) (sSeq (sIf (mTst (mBin (oEq false) (mUn fLen (mVar 7)) (mK (.int 0)))) (sMove 5) sPass) (sApp true (pVar 5) (mBin oItem (mVar 7) (mCall F__law_draw (aCons (mVarE 0) (aCons (mUn fLen (mVar 7)) aNil)))))))
theorem right_word {h0 : HS} {k : Nat} {h : HS} (hc : CellIn h0 k h) (n : Nat) (hn : n ≤ 50) : ∃ (W : List RW) (h' : HS), Wok W ∧ W.length ≤ n ∧ F__law_right_word [.ref k, .d (kD p rs), .d (.int (n : Int))] h = .ok (.own (W.map fun w => .d (rowOf w))) h' ∧ CellIn h0 k h' := by
  obtain ⟨a0, a1, a2⟩ := all_small ks
  have sz := sz5
  have ec := choices_ok ks (σ := [some (.ref k), some (.d (kD p rs)), some (.d (.int (n : Int))), none, none, none, none, none, none]) (i := 1) h rfl
  obtain ⟨as, ea⟩ := asked_ok ks (σ := [some (.ref k), some (.d (kD p rs)), some (.d (.int (n : Int))), some (.d (.lst ((allW rs.length p.toNat).map rowOf))), none, none, none, none, none]) (i := 1) h rfl
  let S : List RW → Option UV → Option UV → SL := fun W o6 o7 => [some (.ref k), some (.d (kD p rs)), some (.d (.int (n : Int))), some (.d (.lst ((allW rs.length p.toNat).map rowOf))), some (.d (rowD as)), some (.own (W.map fun w => .d (rowOf w))), o6, o7, none]
  have key := range_rt (f := turnF (tdN 6) rwB) (R := fun u h' => ∃ W : List RW, u = .own (W.map fun w => .d (rowOf w)) ∧ (∀ w ∈ W, 0 < w.2.length ∧ w.2.length ≤ 3) ∧ W.length ≤ n ∧ CellIn h0 k h') n (fun i σ h' => ∃ (W : List RW) (o6 o7 : Option UV), σ = S W o6 o7 ∧ W.length = i ∧ (∀ w ∈ W, 0 < w.2.length ∧ w.2.length ≤ 3) ∧ CellIn h0 k h') (S [] none none) h ⟨[], none, none, rfl, rfl, (fun _ z => nomatch z), hc⟩ fun i hi σ h' ⟨W, o6, o7, es, el, ew, c⟩ => by
    subst es
    let σ1 : SL := S W (some (.d (.int (i : Int)))) o7
    obtain ⟨T, sT, eT⟩ := compE_sub (f := turnC (tdN 8) [8] (mTru (mCall F__law_row_after (aCons (mVarE 1) (aCons (mUn fTuple (mVar 5)) (aCons (mVarE 8) (aCons (mVarE 4) aNil)))))) (mVarE 8) σ1) (h := h') (e := fun w => .d (rowOf w)) (xs := allW rs.length p.toNat) (by omega) fun w hw => by
      let σ5 : SL := [some (.ref k), some (.d (kD p rs)), some (.d (.int (n : Int))), some (.d (.lst ((allW rs.length p.toNat).map rowOf))), some (.d (rowD as)), some (.own (W.map fun w => .d (rowOf w))), some (.d (.int (i : Int))), o7, some (.d (rowOf w))]
      have tl : mUn fTuple (mVar 5) σ5 h' = .ok (.d (.tup (W.map rowOf))) h' := by
        refine mUn_ok (m := mVar 5) (u := .own ((W.map rowOf).map .d)) ?_ (fTup_own h' _)
        rw [List.map_map]; rfl
      obtain ⟨b, eb⟩ := row_after ks.k W (by omega) (fun v hv => by have := ew v hv; omega) w (by have := a2 w hw; omega) as h'
      have cc := mTru_ok (mCall4 (m := mVarE 1) (p := mVarE 8) (q := mVarE 4) (σ := σ5) (h := h') rfl tl rfl rfl ⟨rfl, rfl, rfl, rfl⟩ eb)
      exact ⟨b, turnC_at (σ1 := σ5) rfl cc rfl⟩
    have e7 := (mComp_at (td := tdN 8) (ss := [8]) (cond := mTru (mCall F__law_row_after (aCons (mVarE 1) (aCons (mUn fTuple (mVar 5)) (aCons (mVarE 8) (aCons (mVarE 4) aNil)))))) (me := mVarE 8) (mi := mVarE 3) (σ := σ1) (h := h') (h1 := h') (x := .d (.lst ((allW rs.length p.toNat).map rowOf))) rfl (frz_map rowOf _)).trans eT
    have fzT : fz (.own (T.map fun w => UV.d (rowOf w))) = some (.d (.lst (T.map rowOf))) := by
      have := fz_own (T.map rowOf)
      rw [List.map_map] at this
      exact this
    let σ2 : SL := S W (some (.d (.int (i : Int)))) (some (.d (.lst (T.map rowOf))))
    have lT : fLen h' (.d (.lst (T.map rowOf))) = some (.d (.int (T.length : Int))) := by rw [fLen_lst, List.length_map]
    have t0 := mTst_ok (mBin_ok (g := oEq false) (n := mK (.int 0)) (mUn_ok (m := mVar 7) (σ := σ2) (h := h') rfl lT) rfl (oEq_int h' false _ _))
    have st : ∀ {r : RS'}, sSeq (sIf (mTst (mBin (oEq false) (mUn fLen (mVar 7)) (mK (.int 0)))) (sMove 5) sPass) (sApp true (pVar 5) (mBin oItem (mVar 7) (mCall F__law_draw (aCons (mVarE 0) (aCons (mUn fLen (mVar 7)) aNil))))) σ2 h' = r → turnF (tdN 6) rwB (.d (.int (i : Int))) (S W o6 o7) h' = r := fun {r} e =>
      (turn_at rwB 6 (.d (.int (i : Int))) (S W o6 o7) σ1 h' rfl).trans (Eq.trans (sSeq_nx (sSet_ok e7)) (Eq.trans (ghFz (u := .own (T.map fun w => UV.d (rowOf w))) rfl fzT) e))
    by_cases q : T.length = 0
    · refine .inr ⟨.own (W.map fun w => .d (rowOf w)), h', st (sSeq_rt (Eq.trans (sIf_ok t0) ?_)), W, rfl, ew, by omega, c⟩
      rw [show (if false = true then !((T.length : Int) == 0) else ((T.length : Int) == 0)) = true from by simp [q]]
      rfl
    · obtain ⟨r, h2, r1, er, c2⟩ := drawN T.length c ⟨by omega, by have := sT.length_le; omega⟩
      have it := item_seqO (u := .d (.lst (T.map rowOf))) (h := h2) (xs := T.map rowOf) rfl r (by rw [List.length_map]; exact r1)
      rw [List.getElem_map] at it
      have dr := mCall2 (m := mVarE 0) (n := mUn fLen (mVar 7)) (σ := σ2) (h := h') rfl (mUn_ok (m := mVar 7) rfl lT) ⟨rfl, rfl⟩ er
      have ap := sApp_slot (i := 5) (σ := σ2) (h := h') (xs := W.map fun w => .d (rowOf w)) rfl (mBin_ok (g := oItem) (m := mVar 7) rfl dr it) (by rw [List.length_map]; omega)
      refine .inl ⟨S (W ++ [T[r]]) (some (.d (.int (i : Int)))) (some (.d (.lst (T.map rowOf)))), h2, st (Eq.trans (sSeq_nx (Eq.trans (sIf_ok t0) ?_)) (Eq.trans ap ?_)), W ++ [T[r]], _, _, rfl, by simp [el], fun w hw => ?_, c2⟩
      · rw [show (if false = true then !((T.length : Int) == 0) else ((T.length : Int) == 0)) = false from by simp only [Bool.false_eq_true, if_false]; exact beq_eq_false_iff_ne.mpr (by omega)]
        rfl
      · show RS'.nx _ h2 = RS'.nx (S (W ++ [T[r]]) _ _) h2
        have : ((W.map fun w => UV.d (rowOf w)) ++ [UV.d (rowOf T[r])]) = (W ++ [T[r]]).map fun w => UV.d (rowOf w) := by rw [List.map_append]; rfl
        rw [this]
        rfl
      · rcases List.mem_append.mp hw with z | z
        · exact ew w z
        · rw [List.mem_singleton.mp z]
          exact a2 _ (sT.subset (List.getElem_mem r1))
  have er := sForR_at (lo := mK (.int 0)) (hi := mVar 2) (td := tdN 6) (b := rwB) (σ := S [] none none) (h := h) (h1 := h) (h2 := h) (i := 0) (j := (n : Int)) rfl rfl (by omega)
  rw [show ((n : Int) - 0).toNat = n from by omega] at er
  have pre : ∀ {b : MS} {r : RS'}, b (S [] none none) h = r → sSeq (sSet 3 (mFz (mCall F__law_all_rows (aCons (mUn fLen (mBin itemU (mVar 1) (mK (.int 1)))) (aCons (mBin oItem (mVar 1) (mK (.int 0))) aNil))))) (sSeq (sSet 4 (mFz (mListR (mK (.int 1)) (mBin oAdd (mUn fLen (mBin itemU (mVar 1) (mK (.int 1)))) (mK (.int 1)))))) (sSeq (sSet 5 (mLst aNil)) b)) [some (.ref k), some (.d (kD p rs)), some (.d (.int (n : Int))), none, none, none, none, none, none] h = r := fun {b r} e =>
    Eq.trans (sSeq_nx (sSet_ok ec)) (Eq.trans (sSeq_nx (sSet_ok ea)) (Eq.trans (sSeq_nx (σ1 := S [] none none) (h1 := h) rfl) e))
  have wk : ∀ W : List RW, (∀ w ∈ W, 0 < w.2.length ∧ w.2.length ≤ 3) → W.length ≤ n → Wok W := fun W a b => ⟨by omega, fun w hw => by have := a w hw; omega⟩
  rcases key with ⟨σ', h', e, W, o6, o7, rfl, el, ew, c⟩ | ⟨u, h', e, W, rfl, ew, el, c⟩
  · exact ⟨W, h', wk W ew (by omega), by omega, fnM_rt (pre (Eq.trans (sSeq_nx (er.trans e)) rfl)), c⟩
  · exact ⟨W, h', wk W ew el, el, fnM_rt (pre (sSeq_rt (er.trans e))), c⟩
end
end MM.K04

namespace MM.K04
open PySem PySem.Spec PyProof.Rows L2
theorem cutL_map {α β : Type} (f : α → β) (xs : List α) (lo hi : Option Int) : cutL (xs.map f) lo hi = (cutL xs lo hi).map f := by
  unfold cutL
  rw [List.length_map, List.map_take, List.map_drop]
theorem cutL_len {α : Type} (xs : List α) (lo hi : Option Int) : (cutL xs lo hi).length ≤ xs.length := by
  unfold cutL
  rw [List.length_take, List.length_drop]
  omega
theorem slice_oI (h : HS) (xs : List Int) (lo hi : Option Int) : sliceU h (oI xs) lo hi = some (oI (cutL xs lo hi)) := by
  unfold sliceU
  simp only [asL]
  rw [cutL_map, if_pos (by simp)]
section
variable {h0 : HS} {k : Nat}
abbrev PR (h0 : HS) (k : Nat) (r : List Int) (h' : HS) : Prop := r.length ≤ 100 ∧ CellIn h0 k h'
theorem way_if {A : ME} {rest : MS} {σ : SL} {h : HS} {way c : Int} (e : σ[4]? = some (some (.d (.int way)))) (hA : way = c → ∃ r h', PR h0 k r h' ∧ A σ h = .ok (oI r) h') (hr : way ≠ c → ∃ r h', PR h0 k r h' ∧ rest σ h = .rt (oI r) h') : ∃ r h', PR h0 k r h' ∧ sSeq (sIf (mTst (mBin (oEq false) (mVar 4) (mK (.int c)))) (sRet A) sPass) rest σ h = .rt (oI r) h' := by
  have t := mTst_ok (mBin_ok (g := oEq false) (m := mVar 4) (n := mK (.int c)) (σ := σ) (h := h) (by rw [mVar_at, e]) rfl (oEq_int h false _ _))
  by_cases q : way = c
  · obtain ⟨r, h', p, e2⟩ := hA q
    refine ⟨r, h', p, sSeq_rt (Eq.trans (sIf_ok t) ?_)⟩
    rw [show (if false = true then !(way == c) else (way == c)) = true from by simp [q]]
    exact sRet_ok e2
  · obtain ⟨r, h', p, e2⟩ := hr q
    refine ⟨r, h', p, Eq.trans (sSeq_nx (σ1 := σ) (h1 := h) (Eq.trans (sIf_ok t) ?_)) e2⟩
    rw [show (if false = true then !(way == c) else (way == c)) = false from by simp only [Bool.false_eq_true, if_false]; exact beq_eq_false_iff_ne.mpr q]
    rfl
theorem drawK {σ : SL} {h : HS} (m : Int) (e : σ[0]? = some (some (.ref k))) (c : CellIn h0 k h) (hm : 0 < m ∧ m < 1073741824) : ∃ r h', 0 ≤ r ∧ r < m ∧ mCall F__law_draw (aCons (mVarE 0) (aCons (mK (.int m)) aNil)) σ h = .ok (.d (.int r)) h' ∧ CellIn h0 k h' := by
  obtain ⟨r, h', a, b, er, c'⟩ := drawL m c hm
  exact ⟨r, h', a, b, mCall2 (m := mVarE 0) (n := mK (.int m)) (by rw [mVarE_at, e]; rfl) rfl ⟨rfl, rfl⟩ er, c'⟩
end
theorem wrong_form {p : Int} {rs : List (Int × Int × Int)} {h0 : HS} {k : Nat} {h : HS} (hc : CellIn h0 k h) (w : RW) (hw : w.2.length ≤ 20) : ∃ r h', PR h0 k r h' ∧ F__law_wrong_form [.ref k, .d (kD p rs), .d (rowOf w)] h = .ok (oI r) h' := by
  have sz := sz5
  obtain ⟨way, h1, _, _, ed, c1⟩ := drawK (σ := [some (.ref k), some (.d (kD p rs)), some (.d (rowOf w)), some (.d (.int (rs.length : Int))), none]) 6 rfl hc (by omega)
  let σ : SL := [some (.ref k), some (.d (kD p rs)), some (.d (rowOf w)), some (.d (.int (rs.length : Int))), some (.d (.int way))]
  have lst : ∀ h, mUn fList (mVar 2) σ h = .ok (oI w.2) h := fun h => mUn_ok (m := mVar 2) rfl (fList_row w h)
  have s1 : ∀ h, mSlice (mUn fList (mVar 2)) (oYes (mK (.int 1))) oNo σ h = .ok (oI (cutL w.2 (some 1) none)) h := fun h => mSl2 (lst h) rfl (slice_oI h _ _ _)
  have sm : ∀ (j : Int) h, mSlice (mUn fList (mVar 2)) oNo (oYes (mUn oNeg (mK (.int j)))) σ h = .ok (oI (cutL w.2 none (some (-j)))) h := fun j h => mSl1 (lst h) (mUn_ok (m := mK (.int j)) rfl (oNeg_int h j)) (slice_oI h _ _ _)
  have cl : ∀ lo hi, (cutL w.2 lo hi).length ≤ 20 := fun lo hi => Nat.le_trans (cutL_len _ _ _) hw
  have ad : ∀ {m n : ME} {h h1 h2 : HS} {xs ys : List Int}, m σ h = .ok (oI xs) h1 → n σ h1 = .ok (oI ys) h2 → xs.length ≤ 50 → ys.length ≤ 50 → CellIn h0 k h2 → ∃ r h', PR h0 k r h' ∧ mBin oAdd m n σ h = .ok (oI r) h' := fun e1 e2 l1 l2 c => ⟨_, _, ⟨by rw [List.length_append]; omega, c⟩, mBin_ok e1 e2 (oAdd_oI _ _ _ (by omega))⟩
  have key : ∃ r h', PR h0 k r h' ∧ B__law_wrong_form [some (.ref k), some (.d (kD p rs)), some (.d (rowOf w)), none, none] h = .rt (oI r) h' := by
    suffices hs : ∃ r h', PR h0 k r h' ∧ (sSeq (sIf (mTst (mBin (oEq false) (mVar 4) (mK (.int 0)))) (sRet (mSlice (mUn fList (mVar 2)) (oYes (mK (.int 1))) oNo)) sPass) (sSeq (sIf (mTst (mBin (oEq false) (mVar 4) (mK (.int 1)))) (sRet (mBin oAdd (mUn fList (mVar 2)) (mLst (aCons (mVarE 3) aNil)))) sPass) (sSeq (sIf (mTst (mBin (oEq false) (mVar 4) (mK (.int 2)))) (sRet (mBin oAdd (mLst (aCons (mBin oSub (mK (.int 0)) (mCall F__law_draw (aCons (mVarE 0) (aCons (mK (.int 3)) aNil)))) aNil)) (mSlice (mUn fList (mVar 2)) (oYes (mK (.int 1))) oNo))) sPass) (sSeq (sIf (mTst (mBin (oEq false) (mVar 4) (mK (.int 3)))) (sRet (mBin oAdd (mSlice (mUn fList (mVar 2)) oNo (oYes (mUn oNeg (mK (.int 1))))) (mLst (aCons (mBin oAdd (mBin oAdd (mVar 3) (mK (.int 1))) (mCall F__law_draw (aCons (mVarE 0) (aCons (mK (.int 3)) aNil)))) aNil)))) sPass) (sSeq (sIf (mTst (mBin (oEq false) (mVar 4) (mK (.int 4)))) (sRet (mLst aNil)) sPass) (sRet (mIf (mAnd (mTst (mBin cGt (mBin oItem (mVar 1) (mK (.int 0))) (mK (.int 1)))) (mTst (mBin cGt (mVar 3) (mK (.int 1))))) (mBin oAdd (mSlice (mUn fList (mVar 2)) oNo (oYes (mUn oNeg (mK (.int 2))))) (mLst (aCons (mVarE 3) (aCons (mK (.int 1)) aNil)))) (mBin oAdd (mUn fList (mVar 2)) (mUn fList (mVar 2)))))))))) σ h1 = .rt (oI r) h' by
      obtain ⟨r, h', p1, e⟩ := hs
      refine ⟨r, h', p1, Eq.trans (sSeq_nx (sSet_ok (mUn_ok (g := fLen) (v := .d (.int (rs.length : Int))) (mBin_ok (m := mVar 1) (n := mK (.int 1)) rfl rfl (k1U p rs h)) (by rw [fLen_lst, List.length_map])))) (Eq.trans (sSeq_nx (sSet_ok ed)) e)⟩
    refine way_if rfl (fun _ => ⟨_, _, ⟨by have := cl (some 1) none; omega, c1⟩, s1 h1⟩) fun _ => ?_
    refine way_if rfl (fun _ => ad (lst h1) (ys := [(rs.length : Int)]) (lst1 (m := mVarE 3) rfl) (by omega) (by simp) c1) fun _ => ?_
    refine way_if rfl (fun _ => ?_) fun _ => ?_
    · obtain ⟨r, h2, _, _, er, c2⟩ := drawK (σ := σ) 3 rfl c1 (by omega)
      exact ad (xs := [0 - r]) (lst1 (mBin_ok (m := mK (.int 0)) rfl er (oSub_int h2 _ _))) (s1 h2) (by simp) (by have := cl (some 1) none; omega) c2
    refine way_if rfl (fun _ => ?_) fun _ => ?_
    · obtain ⟨r, h2, _, _, er, c2⟩ := drawK (σ := σ) 3 rfl c1 (by omega)
      exact ad (sm 1 h1) (ys := [(rs.length : Int) + 1 + r]) (lst1 (mBin_ok (mBin_ok (m := mVar 3) (n := mK (.int 1)) rfl rfl (oAdd_int h1 _ _)) er (oAdd_int h2 _ _))) (by have := cl none (some (-1)); omega) (by simp) c2
    refine way_if rfl (fun _ => ⟨[], h1, ⟨by simp, c1⟩, lst0 σ h1⟩) fun _ => ?_
    obtain ⟨b, eb⟩ : ∃ b, mAnd (mTst (mBin cGt (mBin oItem (mVar 1) (mK (.int 0))) (mK (.int 1)))) (mTst (mBin cGt (mVar 3) (mK (.int 1)))) σ h1 = .ok b h1 := by
      have t1 := mTst_ok (mBin_ok (g := cGt) (n := mK (.int 1)) (mBin_ok (m := mVar 1) (n := mK (.int 0)) (σ := σ) rfl rfl (k0 p rs h1)) rfl (cGt_int h1 _ _))
      have t2 := mTst_ok (mBin_ok (g := cGt) (m := mVar 3) (n := mK (.int 1)) (σ := σ) rfl rfl (cGt_int h1 (rs.length : Int) _))
      by_cases q : p > 1
      · refine ⟨decide ((rs.length : Int) > 1), (mAnd_at ..).trans ?_⟩
        rw [t1, bindM_ok, decide_eq_true q, if_pos rfl, t2]
      · refine ⟨false, (mAnd_at ..).trans ?_⟩
        rw [t1, bindM_ok, decide_eq_false q]
        rfl
    have mi := mIf_ok (m := mBin oAdd (mSlice (mUn fList (mVar 2)) oNo (oYes (mUn oNeg (mK (.int 2))))) (mLst (aCons (mVarE 3) (aCons (mK (.int 1)) aNil)))) (n := mBin oAdd (mUn fList (mVar 2)) (mUn fList (mVar 2))) eb
    cases b with
    | true =>
      obtain ⟨r, h', pp, e⟩ := ad (sm 2 h1) (ys := [(rs.length : Int), 1]) (lst2 (m := mVarE 3) (n := mK (.int 1)) rfl rfl) (by have := cl none (some (-2)); omega) (by simp) c1
      exact ⟨r, h', pp, sRet_ok (mi.trans e)⟩
    | false =>
      obtain ⟨r, h', pp, e⟩ := ad (lst h1) (lst h1) (by omega) (by omega) c1
      exact ⟨r, h', pp, sRet_ok (mi.trans e)⟩
  obtain ⟨r, h', pp, e⟩ := key
  exact ⟨r, h', pp, fnM_rt e⟩
end MM.K04

namespace MM.K04
open PySem PySem.Spec PyProof.Rows L2
abbrev wordD (W : List RW) : DV := .lst (W.map rowOf)
theorem slice_dropD (h : HS) (xs : List DV) (n : Nat) : sliceU h (.d (.lst xs)) (some (n : Int)) none = some (.own ((xs.drop n).map .d)) := by
  unfold sliceU
  simp only [asL]
  have e : cutL (xs.map UV.d) (some (n : Int)) none = (xs.drop n).map UV.d := by
    rw [cutL_map]
    congr 1
    unfold cutL
    rw [HT.sIx_nat, HT.sIx_none, List.take_of_length_le (by rw [List.length_drop]; omega)]
    by_cases q : n ≤ xs.length
    · rw [Nat.min_eq_left q]
    · rw [List.drop_eq_nil_of_le (as := xs) (i := min n xs.length) (by omega), List.drop_eq_nil_of_le (as := xs) (i := n) (by omega)]
  rw [e]
  simp
theorem lenW (W : List RW) (h : HS) : fLen h (.d (wordD W)) = some (.d (.int (W.length : Int))) := by rw [fLen_lst, List.length_map]
theorem itemW (W : List RW) (h : HS) (i : Nat) (hi : i < W.length) : oItem h (.d (wordD W)) (.d (.int (i : Int))) = some (.d (rowOf W[i])) := by
  have := item_seqO (u := .d (wordD W)) (h := h) (xs := W.map rowOf) rfl i (by rw [List.length_map]; exact hi)
  rw [List.getElem_map] at this
  exact this
theorem itemWU (W : List RW) (h : HS) (i : Nat) (hi : i < W.length) : itemU h (.d (wordD W)) (.d (.int (i : Int))) = some (.d (rowOf W[i])) := by
  have := item_seq (u := .d (wordD W)) (h := h) (xs := W.map rowOf) rfl i (by rw [List.length_map]; exact hi)
  rw [List.getElem_map] at this
  exact this
theorem toDl_append {u : UV} {x : DV} (e : toD u = some x) : ∀ {us : List UV} {xs : List DV}, toDl us = some xs → toDl (us ++ [u]) = some (xs ++ [x])
  | [], xs, q => by
    cases q
    show (match toD u, toDl [] with
      | some y, some ys => some (y :: ys)
      | _, _ => none) = _
    rw [e]; rfl
  | v :: us, xs, q => by
    have q' : (match toD v, toDl us with
      | some y, some ys => some (y :: ys)
      | _, _ => none) = some xs := q
    cases e1 : toD v with
    | none => rw [e1] at q'; cases q'
    | some y =>
      cases e2 : toDl us with
      | none => rw [e1, e2] at q'; cases q'
      | some ys =>
        rw [e1, e2] at q'
        cases q'
        show (match toD v, toDl (us ++ [u]) with
          | some y, some ys => some (y :: ys)
          | _, _ => none) = _
        rw [e1, toDl_append e e2]
        rfl
def Jok (W : List RW) : Prop := W.length ≤ 500 ∧ ∀ w ∈ W, w.2.length ≤ 500
/-- words gathered -/
def GW (n : Nat) (us : List UV) : Prop := us.length = n ∧ ∃ Ws : List (List RW), toDl us = some (Ws.map wordD) ∧ ∀ W ∈ Ws, Jok W
theorem GW.add {n : Nat} {us : List UV} {u : UV} {W : List RW} (g : GW n us) (e : toD u = some (wordD W)) (j : Jok W) : GW (n + 1) (us ++ [u]) := by
  obtain ⟨l, Ws, e2, a⟩ := g
  refine ⟨by rw [List.length_append, l]; rfl, Ws ++ [W], ?_, fun V hv => ?_⟩
  · rw [toDl_append e e2, List.map_append]; rfl
  · rcases List.mem_append.mp hv with z | z
    · exact a V z
    · rw [List.mem_singleton.mp z]; exact j
theorem toD_word (W : List RW) : toD (.own ((W.map rowOf).map .d)) = some (wordD W) := by
  show (toDl ((W.map rowOf).map .d)).map DV.lst = _
  rw [toDl_map]; rfl
theorem GW.fz {n : Nat} {us : List UV} (g : GW n us) : ∃ Ws : List (List RW), fz (.own us) = some (.d (.lst (Ws.map wordD))) ∧ ∀ W ∈ Ws, Jok W := by
  obtain ⟨_, Ws, e, a⟩ := g
  refine ⟨Ws, ?_, a⟩
  unfold MM.fz
  show (match (toDl us).map DV.lst with
    | some x => some (UV.d x)
    | none => _) = _
  rw [e]; rfl
abbrev spE (m : ME) : ME := mBin oAdd (mBin oAdd (mSlice (mVar 2) oNo (oYes (mVar 4))) (mLst (aCons m aNil))) (mSlice (mVar 2) (oYes (mBin oAdd (mVar 4) (mK (.int 1)))) oNo)
theorem oAdd_dd (h : HS) (xs ys : List DV) (hl : xs.length + ys.length ≤ sizeLine) : oAdd h (.own (xs.map .d)) (.own (ys.map .d)) = some (.own ((xs ++ ys).map .d)) := oAdd_ds h xs ys hl
/-- one row changed, and the word put with the others -/
theorem ap_splice {σ : SL} {h h1 : HS} {W : List RW} {at_ n : Nat} {w : RW} {m : ME} {us : List UV} (g : GW n us) (hn : n ≤ 20) (hW : W.length ≤ 100 ∧ ∀ w ∈ W, w.2.length ≤ 20) (e2 : σ[2]? = some (some (.d (wordD W)))) (e3 : σ[3]? = some (some (.own us))) (e4 : σ[4]? = some (some (.d (.int (at_ : Int))))) (em : m σ h = .ok (.d (rowOf w)) h1) (hw : w.2.length ≤ 100) : ∃ us', GW (n + 1) us' ∧ sApp true (pVar 3) (spE m) σ h = .nx (σ.set 3 (some (.own us'))) h1 := by
  have sz := sz5
  have v2 : ∀ h, mVar 2 σ h = .ok (.d (wordD W)) h := fun h => by rw [mVar_at, e2]
  have v4 : ∀ h, mVar 4 σ h = .ok (.d (.int (at_ : Int))) h := fun h => by rw [mVar_at, e4]
  have a1 := mSl1 (v2 h) (v4 h) (slice_takeD h (W.map rowOf) at_)
  have a2 : mLst (aCons m aNil) σ h = .ok (.own ([rowOf w].map .d)) h1 := lst1 em
  have a3 := mBin_ok (g := oAdd) (n := mK (.int 1)) (v4 h1) rfl (oAdd_int h1 _ _)
  rw [show ((at_ : Int) + 1) = ((at_ + 1 : Nat) : Int) from by omega] at a3
  have a4 := mSl2 (v2 h1) a3 (slice_dropD h1 (W.map rowOf) (at_ + 1))
  have hl := hW.1
  have b := mBin_ok (mBin_ok a1 a2 (oAdd_dd h1 _ _ (by simp only [List.length_take, List.length_map, List.length_singleton]; omega))) a4 (oAdd_dd h1 _ _ (by simp only [List.length_append, List.length_drop, List.length_take, List.length_map, List.length_singleton]; omega))
  have ee : (W.map rowOf).take at_ ++ [rowOf w] ++ (W.map rowOf).drop (at_ + 1) = (W.take at_ ++ [w] ++ W.drop (at_ + 1)).map rowOf := by
    rw [List.map_append, List.map_append, List.map_take, List.map_drop]; rfl
  rw [ee] at b
  have j : Jok (W.take at_ ++ [w] ++ W.drop (at_ + 1)) := by
    refine ⟨by simp only [List.length_append, List.length_drop, List.length_take, List.length_singleton]; omega, fun v hv => ?_⟩
    rcases List.mem_append.mp hv with z | z
    · rcases List.mem_append.mp z with z | z
      · have := hW.2 v (List.mem_of_mem_take z); omega
      · rw [List.mem_singleton.mp z]; omega
    · have := hW.2 v (List.mem_of_mem_drop z); omega
  exact ⟨_, g.add (toD_word _) j, sApp_slot e3 b (by rw [g.1]; omega)⟩
theorem isetE_ok {i : Nat} {mi m : ME} {σ : SL} {h h1 h2 : HS} {xs : List UV} {u : UV} {j : Nat} (e0 : σ[i]? = some (some (.own xs))) (e1 : m σ h = .ok u h1) (hn : noOwn u = true) (e2 : mi σ h1 = .ok (.d (.int (j : Int))) h2) (hj : j < xs.length) : sISetE i mi m σ h = .nx (σ.set i (some (.own (xs.set j u)))) h2 := by
  have ix : ixN xs.length (j : Int) = some j := by
    unfold ixN
    rw [if_pos (by omega), if_pos (by omega)]; simp
  unfold sISetE
  rw [e1]
  show (if noOwn u = true then _ else _) = _
  rw [if_pos hn, e0]
  show bindS (mi σ h1) σ _ = _
  rw [e2]
  show (match (uInt (.d (.int (j : Int)))).bind (ixN xs.length) with
    | some j => _
    | none => _) = _
  rw [uInt_int, Option.bind_some, ix]
end MM.K04

namespace MM.K04
open PySem PySem.Spec PyProof.Rows L2
abbrev BW (k : Nat) (p : Int) (rs : List (Int × Int × Int)) (W : List RW) (us : List UV) (o4 o5 o6 o7 o8 : Option UV) : SL := [some (.ref k), some (.d (kD p rs)), some (.d (wordD W)), some (.own us), o4, o5, o6, o7, o8, none]
theorem drawM {h0 : HS} {k : Nat} {σ : SL} {h : HS} {m : ME} {n : Nat} (e0 : σ[0]? = some (some (.ref k))) (em : m σ h = .ok (.d (.int (n : Int))) h) (c : CellIn h0 k h) (hn : 0 < n ∧ n < 1000000) : ∃ (r : Nat) (h' : HS), r < n ∧ mCall F__law_draw (aCons (mVarE 0) (aCons m aNil)) σ h = .ok (.d (.int (r : Int))) h' ∧ CellIn h0 k h' := by
  obtain ⟨r, h', a, er, c'⟩ := drawN n c hn
  exact ⟨r, h', a, mCall2 (m := mVarE 0) (by rw [mVarE_at, e0]; rfl) em ⟨rfl, rfl⟩ er, c'⟩
abbrev bI : MS := (sSeq (sSet 4 (mCall F__law_draw (aCons (mVarE 0) (aCons (mUn fLen (mVar 2)) aNil)))) (sSeq (sSet 5 (mUn fList (mBin itemU (mVar 2) (mVar 4)))) (sSeq (sISetE 5 (mCall F__law_draw (aCons (mVarE 0) (aCons (mUn fLen (mVar 5)) aNil))) (mBin oAdd (mK (.int 1)) (mCall F__law_draw (aCons (mVarE 0) (aCons (mUn fLen (mBin itemU (mVar 1) (mK (.int 1)))) aNil))))) (sSeq (sApp true (pVar 3) (spE (mUn fTuple (mUn fSorted (mVar 5))))) (sSeq (sSet 4 (mBin oSub (mBin oSub (mUn fLen (mVar 2)) (mK (.int 1))) (mCall F__law_draw (aCons (mVarE 0) (aCons (mBin fMin2 (mK (.int 3)) (mUn fLen (mVar 2))) aNil))))) (sSeq (sSet 6 (mFz (mCall F__law_too_much (aCons (mVarE 1) (aCons (mFz (mSlice (mVar 2) oNo (oYes (mVar 4)))) aNil))))) (sSeq (sIf (mTst (mBin cGt (mUn fLen (mVar 6)) (mK (.int 0)))) (sApp true (pVar 3) (spE (mBin oItem (mVar 6) (mCall F__law_draw (aCons (mVarE 0) (aCons (mUn fLen (mVar 6)) aNil)))))) sPass) (sSeq (sSet 4 (mCall F__law_draw (aCons (mVarE 0) (aCons (mUn fLen (mVar 2)) aNil)))) (sSeq (sSet 7 (mUn fTuple (mCall F__law_wrong_form (aCons (mVarE 0) (aCons (mVarE 1) (aCons (mBin oItem (mVar 2) (mVar 4)) aNil)))))) (sApp true (pVar 3) (spE (mVarE 7))))))))))))
theorem fTup_oI (h : HS) (xs : List Int) : fTuple h (oI xs) = some (.d (rowOf (true, xs))) := by
  have := fTup_own h (xs.map DV.int)
  rw [List.map_map] at this
  exact this
theorem fSorted_oI (h : HS) (xs : List Int) : fSorted h (oI xs) = some (oI (isort xs)) := by
  unfold fSorted
  show ((some (xs.map fun i => UV.d (.int i))).bind (mapO uInt)).map _ = _
  rw [Option.bind_some, mapO_ints]; rfl
theorem fz_words (T : List RW) : fz (.own (T.map fun w => UV.d (rowOf w))) = some (.d (wordD T)) := by
  have := fz_own (T.map rowOf)
  rw [List.map_map] at this
  exact this
theorem fMin2_ok' (h : HS) (n : Nat) : fMin2 h (.d (.int 3)) (.d (.int (n : Int))) = some (.d (.int ((min 3 n : Nat) : Int))) := by
  show some (UV.d (.int (if (n : Int) < 3 then (n : Int) else 3))) = _
  by_cases q : (n : Int) < 3
  · rw [if_pos q, Nat.min_eq_right (by omega)]
  · rw [if_neg q, Nat.min_eq_left (by omega)]; rfl
theorem Wok.take {W : List RW} (w : Wok W) (n : Nat) : Wok (W.take n) := ⟨by rw [List.length_take]; have := w.1; omega, fun v hv => w.2 v (List.mem_of_mem_take hv)⟩
theorem Wok.s {W : List RW} (w : Wok W) : W.length ≤ 100 ∧ ∀ v ∈ W, v.2.length ≤ 20 := ⟨w.1, fun v hv => (w.2 v hv).2⟩
section
variable {p : Int} {rs : List (Int × Int × Int)} (ks : KS p rs) {h0 : HS} {k : Nat} {W : List RW} (hW : Wok W)
include ks hW
theorem many_at {σ : SL} {i : Nat} (h : HS) (e : σ[i]? = some (some (.d (kD p rs)))) : mUn fLen (mBin itemU (mVar i) (mK (.int 1))) σ h = .ok (.d (.int (rs.length : Int))) h :=
  mUn_ok (g := fLen) (v := .d (.int (rs.length : Int))) (mBin_ok (n := mK (.int 1)) (by rw [mVar_at, e]) rfl (k1U p rs h)) (by rw [fLen_lst, List.length_map])
theorem tmE {σ : SL} {h : HS} {m : ME} {V : List RW} (hV : Wok V) (e1 : σ[1]? = some (some (.d (kD p rs)))) (em : m σ h = .ok (.d (wordD V)) h) : ∃ T : List RW, (∀ t ∈ T, t.2.length ≤ 20) ∧ T.length ≤ 20 ∧ mFz (mCall F__law_too_much (aCons (mVarE 1) (aCons m aNil))) σ h = .ok (.d (wordD T)) h := by
  obtain ⟨T, a, b, e⟩ := too_much ks V hV h
  refine ⟨T, fun t ht => by have := (all_small ks).2.2 t (a t ht); omega, b, mFz_ok (mCall2 (m := mVarE 1) (by rw [mVarE_at, e1]; rfl) em ⟨rfl, rfl⟩ e) (fz_words T)⟩
theorem bw_if {h : HS} (hc : CellIn h0 k h) (hl : 0 < W.length) {us : List UV} (g : GW 1 us) (o4 o5 o6 o7 o8 : Option UV) : ∃ (n : Nat) (us' : List UV) (a4 a5 a6 a7 : Option UV) (h' : HS), n ≤ 4 ∧ GW n us' ∧ CellIn h0 k h' ∧ bI (BW k p rs W us o4 o5 o6 o7 o8) h = .nx (BW k p rs W us' a4 a5 a6 a7 o8) h' := by
  have n1 := ks.k.n1
  have n4 := ks.n4
  have hW1 := hW.1
  -- at
  obtain ⟨r1, h1, l1, e1, c1⟩ := drawM (σ := BW k p rs W us o4 o5 o6 o7 o8) (m := mUn fLen (mVar 2)) rfl (mUn_ok (m := mVar 2) rfl (lenW W h)) hc ⟨hl, by omega⟩
  -- changed
  have e2 := mUn_ok (g := fList) (mBin_ok (g := itemU) (m := mVar 2) (n := mVar 4) (σ := BW k p rs W us (some (.d (.int (r1 : Int)))) o5 o6 o7 o8) (h := h1) rfl rfl (itemWU W h1 r1 l1)) (fList_row W[r1] h1)
  let σ2 : SL := BW k p rs W us (some (.d (.int (r1 : Int)))) (some (oI (W[r1]).2)) o6 o7 o8
  obtain ⟨r2, h2, l2, e3, c2⟩ := drawM (σ := σ2) rfl (many_at ks hW (σ := σ2) (i := 1) h1 rfl) c1 ⟨by omega, by omega⟩
  have e4 := mBin_ok (g := oAdd) (m := mK (.int 1)) (σ := σ2) rfl e3 (oAdd_int h2 _ _)
  have wl := hW.2 W[r1] (List.getElem_mem l1)
  obtain ⟨r3, h3, l3, e5, c3⟩ := drawM (σ := σ2) (m := mUn fLen (mVar 5)) (h := h2) (n := (W[r1]).2.length) rfl (mUn_ok (m := mVar 5) rfl (by rw [fLen_own, List.length_map])) c2 ⟨by omega, by omega⟩
  have e6 := isetE_ok (i := 5) (σ := σ2) (xs := (W[r1]).2.map fun i => .d (.int i)) rfl e4 rfl e5 (by rw [List.length_map]; exact l3)
  rw [show ((W[r1]).2.map fun i => UV.d (.int i)).set r3 (.d (.int (1 + (r2 : Int)))) = ((W[r1]).2.set r3 (1 + (r2 : Int))).map fun i => UV.d (.int i) from by rw [List.map_set]] at e6
  generalize hch : (W[r1]).2.set r3 (1 + (r2 : Int)) = ch at e6
  have chl : ch.length ≤ 20 := by rw [← hch, List.length_set]; omega
  let σ3 : SL := BW k p rs W us (some (.d (.int (r1 : Int)))) (some (oI ch)) o6 o7 o8
  have sl : (isort ch).length ≤ 20 := by rw [(isort_perm ch).length_eq]; exact chl
  obtain ⟨us1, g1, a1⟩ := ap_splice (σ := σ3) (h := h3) (h1 := h3) (at_ := r1) (w := (true, isort ch)) (m := mUn fTuple (mUn fSorted (mVar 5))) g (by omega) hW.s rfl rfl rfl (mUn_ok (mUn_ok (m := mVar 5) rfl (fSorted_oI h3 ch)) (fTup_oI h3 _)) (by show (isort ch).length ≤ 100; omega)
  -- a row that is too much
  let σ4 : SL := BW k p rs W us1 (some (.d (.int (r1 : Int)))) (some (oI ch)) o6 o7 o8
  obtain ⟨r4, h4, l4, e7, c4⟩ := drawM (σ := σ4) (m := mBin fMin2 (mK (.int 3)) (mUn fLen (mVar 2))) (h := h3) (n := min 3 W.length) rfl (mBin_ok (m := mK (.int 3)) rfl (mUn_ok (m := mVar 2) rfl (lenW W h3)) (fMin2_ok' h3 _)) c3 ⟨by omega, by omega⟩
  have e8 := mBin_ok (g := oSub) (mBin_ok (g := oSub) (mUn_ok (m := mVar 2) (σ := σ4) rfl (lenW W h3)) (n := mK (.int 1)) rfl (oSub_int h3 _ _)) e7 (oSub_int h4 _ _)
  generalize hat : W.length - 1 - r4 = at4
  rw [show ((W.length : Int) - 1 - (r4 : Int)) = (at4 : Int) from by omega] at e8
  let σ5 : SL := BW k p rs W us1 (some (.d (.int (at4 : Int)))) (some (oI ch)) o6 o7 o8
  have e9 := mFz_ok (mSl1 (m := mVar 2) (n := mVar 4) (σ := σ5) (h := h4) (i := (at4 : Int)) rfl rfl (slice_takeD h4 (W.map rowOf) at4)) (fz_own _)
  rw [← List.map_take] at e9
  obtain ⟨T, t1, t2, e10⟩ := tmE ks hW (hW.take at4) (σ := σ5) rfl e9
  let σ6 : SL := BW k p rs W us1 (some (.d (.int (at4 : Int)))) (some (oI ch)) (some (.d (wordD T))) o7 o8
  have tt := mTst_ok (mBin_ok (g := cGt) (n := mK (.int 0)) (mUn_ok (m := mVar 6) (σ := σ6) rfl (lenW T h4)) rfl (cGt_int h4 _ _))
  have st7 : ∃ (n : Nat) (us2 : List UV) (h5 : HS), n ≤ 3 ∧ GW n us2 ∧ CellIn h0 k h5 ∧ sIf (mTst (mBin cGt (mUn fLen (mVar 6)) (mK (.int 0)))) (sApp true (pVar 3) (spE (mBin oItem (mVar 6) (mCall F__law_draw (aCons (mVarE 0) (aCons (mUn fLen (mVar 6)) aNil)))))) sPass σ6 h4 = .nx (BW k p rs W us2 (some (.d (.int (at4 : Int)))) (some (oI ch)) (some (.d (wordD T))) o7 o8) h5 := by
    by_cases q : (T.length : Int) > 0
    · obtain ⟨r5, h5, l5, e11, c5⟩ := drawM (σ := σ6) (m := mUn fLen (mVar 6)) (h := h4) (n := T.length) rfl (mUn_ok (m := mVar 6) rfl (lenW T h4)) c4 ⟨by omega, by omega⟩
      obtain ⟨us2, g2, a2⟩ := ap_splice (σ := σ6) (h := h4) (at_ := at4) (w := T[r5]) g1 (by omega) hW.s rfl rfl rfl (mBin_ok (g := oItem) (m := mVar 6) rfl e11 (itemW T h5 r5 l5)) (by have := t1 _ (List.getElem_mem l5); omega)
      refine ⟨3, us2, h5, by omega, g2, c5, Eq.trans (sIf_ok tt) ?_⟩
      rw [decide_eq_true q, if_pos rfl]
      exact a2
    · refine ⟨2, us1, h4, by omega, g1, c4, Eq.trans (sIf_ok tt) ?_⟩
      rw [decide_eq_false q]
      rfl
  obtain ⟨n, us2, h5, hn, g2, c5, e12⟩ := st7
  -- a row of a wrong form
  obtain ⟨r6, h6, l6, e13, c6⟩ := drawM (σ := BW k p rs W us2 (some (.d (.int (at4 : Int)))) (some (oI ch)) (some (.d (wordD T))) o7 o8) (m := mUn fLen (mVar 2)) rfl (mUn_ok (m := mVar 2) rfl (lenW W h5)) c5 ⟨hl, by omega⟩
  let σ8 : SL := BW k p rs W us2 (some (.d (.int (r6 : Int)))) (some (oI ch)) (some (.d (wordD T))) o7 o8
  have wl6 := hW.2 W[r6] (List.getElem_mem l6)
  obtain ⟨fr, h7, ⟨pl, c7⟩, e14⟩ := wrong_form (p := p) (rs := rs) c6 W[r6] (by omega)
  have e15 := mUn_ok (g := fTuple) (mCall3 (m := mVarE 0) (n := mVarE 1) (p := mBin oItem (mVar 2) (mVar 4)) (σ := σ8) rfl rfl (mBin_ok (m := mVar 2) (n := mVar 4) rfl rfl (itemW W h6 r6 l6)) ⟨rfl, rfl, rfl⟩ e14) (fTup_oI h7 fr)
  let σ9 : SL := BW k p rs W us2 (some (.d (.int (r6 : Int)))) (some (oI ch)) (some (.d (wordD T))) (some (.d (rowOf (true, fr)))) o8
  obtain ⟨us3, g3, a3⟩ := ap_splice (σ := σ9) (h := h7) (h1 := h7) (at_ := r6) (w := (true, fr)) (m := mVarE 7) g2 (by omega) hW.s rfl rfl rfl rfl pl
  refine ⟨n + 1, us3, some (.d (.int (r6 : Int))), some (oI ch), some (.d (wordD T)), some (.d (rowOf (true, fr))), h7, by omega, g3, c7, ?_⟩
  refine Eq.trans (sSeq_nx (sSet_ok e1)) ?_
  refine Eq.trans (sSeq_nx (sSet_ok e2)) ?_
  refine Eq.trans (sSeq_nx e6) ?_
  refine Eq.trans (sSeq_nx a1) ?_
  refine Eq.trans (sSeq_nx (sSet_ok e8)) ?_
  refine Eq.trans (sSeq_nx (sSet_ok e10)) ?_
  refine Eq.trans (sSeq_nx e12) ?_
  refine Eq.trans (sSeq_nx (sSet_ok e13)) ?_
  refine Eq.trans (sSeq_nx (sSet_ok e15)) ?_
  exact a3
theorem bent_words {h : HS} (hc : CellIn h0 k h) : ∃ (n : Nat) (us : List UV) (h' : HS), GW n us ∧ CellIn h0 k h' ∧ F__law_bent_words [.ref k, .d (kD p rs), .d (wordD W)] h = .ok (.own us) h' := by
  have n1 := ks.k.n1
  have n4 := ks.n4
  have hW1 := hW.1
  have sz := sz5
  have g0 : GW 1 [.d (wordD W)] := by
    refine ⟨rfl, [W], ?_, fun V hv => ?_⟩
    · rw [toDl_d]; rfl
    · rw [List.mem_singleton.mp hv]
      exact ⟨by omega, fun w hw => by have := hW.2 w hw; omega⟩
  let σ1 : SL := BW k p rs W [.d (wordD W)] none none none none none
  have t1 := mTst_ok (mBin_ok (g := cGt) (n := mK (.int 0)) (mUn_ok (m := mVar 2) (σ := σ1) rfl (lenW W h)) rfl (cGt_int h _ _))
  have st1 : ∃ (n : Nat) (us' : List UV) (a4 a5 a6 a7 : Option UV) (h' : HS), n ≤ 4 ∧ GW n us' ∧ CellIn h0 k h' ∧ sIf (mTst (mBin cGt (mUn fLen (mVar 2)) (mK (.int 0)))) bI sPass σ1 h = .nx (BW k p rs W us' a4 a5 a6 a7 none) h' := by
    by_cases q : (W.length : Int) > 0
    · obtain ⟨n, us', a4, a5, a6, a7, h', hn, g, c, e⟩ := bw_if ks hW hc (by omega) g0 none none none none none
      refine ⟨n, us', a4, a5, a6, a7, h', hn, g, c, Eq.trans (sIf_ok t1) ?_⟩
      rw [decide_eq_true q, if_pos rfl]
      exact e
    · refine ⟨1, _, none, none, none, none, h, by omega, g0, hc, Eq.trans (sIf_ok t1) ?_⟩
      rw [decide_eq_false q]
      rfl
  obtain ⟨n, us, a4, a5, a6, a7, h1, hn, g1, c1, e1⟩ := st1
  obtain ⟨T, tr, tl, e2⟩ := tmE ks hW hW (σ := BW k p rs W us a4 a5 a6 a7 none) (m := mVarE 2) (h := h1) rfl rfl
  let σ2 : SL := BW k p rs W us a4 a5 (some (.d (wordD T))) a7 none
  have t2 := mTst_ok (mBin_ok (g := cGt) (n := mK (.int 0)) (mUn_ok (m := mVar 6) (σ := σ2) rfl (lenW T h1)) rfl (cGt_int h1 _ _))
  have st2 : ∃ (n : Nat) (us' : List UV) (h' : HS), n ≤ 5 ∧ GW n us' ∧ CellIn h0 k h' ∧ sIf (mTst (mBin cGt (mUn fLen (mVar 6)) (mK (.int 0)))) (sApp true (pVar 3) (mBin oAdd (mVar 2) (mLst (aCons (mBin oItem (mVar 6) (mCall F__law_draw (aCons (mVarE 0) (aCons (mUn fLen (mVar 6)) aNil)))) aNil)))) sPass σ2 h1 = .nx (BW k p rs W us' a4 a5 (some (.d (wordD T))) a7 none) h' := by
    by_cases q : (T.length : Int) > 0
    · obtain ⟨r5, h5, l5, e11, c5⟩ := drawM (σ := σ2) (m := mUn fLen (mVar 6)) (h := h1) (n := T.length) rfl (mUn_ok (m := mVar 6) rfl (lenW T h1)) c1 ⟨by omega, by omega⟩
      have ld : mLst (aCons (mBin oItem (mVar 6) (mCall F__law_draw (aCons (mVarE 0) (aCons (mUn fLen (mVar 6)) aNil)))) aNil) σ2 h1 = .ok (.own ([rowOf T[r5]].map .d)) h5 := lst1 (mBin_ok (m := mVar 6) rfl e11 (itemW T h5 r5 l5))
      have ad := mBin_ok (g := oAdd) (m := mVar 2) (σ := σ2) rfl ld (oAdd_ld h5 (W.map rowOf) _ (by rw [List.length_map, List.length_singleton]; omega))
      have ee : W.map rowOf ++ [rowOf T[r5]] = (W ++ [T[r5]]).map rowOf := by rw [List.map_append]; rfl
      rw [ee] at ad
      have j : Jok (W ++ [T[r5]]) := by
        refine ⟨by simp only [List.length_append, List.length_singleton]; omega, fun v hv => ?_⟩
        rcases List.mem_append.mp hv with z | z
        · have := hW.2 v z; omega
        · rw [List.mem_singleton.mp z]; have := tr _ (List.getElem_mem l5); omega
      refine ⟨n + 1, _, h5, by omega, g1.add (toD_word _) j, c5, Eq.trans (sIf_ok t2) ?_⟩
      rw [decide_eq_true q, if_pos rfl]
      exact sApp_slot rfl ad (by rw [g1.1]; omega)
    · refine ⟨n, us, h1, by omega, g1, c1, Eq.trans (sIf_ok t2) ?_⟩
      rw [decide_eq_false q]
      rfl
  obtain ⟨n2, us2, h2, hn2, g2, c2, e3⟩ := st2
  have e4 := choices_ok ks (σ := BW k p rs W us2 a4 a5 (some (.d (wordD T))) a7 none) (i := 1) h2 rfl
  let σ3 : SL := BW k p rs W us2 a4 a5 (some (.d (wordD T))) a7 (some (.d (wordD (allW rs.length p.toNat))))
  obtain ⟨b0, b1, b2⟩ := all_small ks
  have er := mCompR_at (lo := mK (.int 0)) (hi := mK (.int 10)) (td := tdN 9) (vs := [9]) (mt := mYes) (me := mBin oItem (mVar 8) (mCall F__law_draw (aCons (mVarE 0) (aCons (mUn fLen (mVar 8)) aNil)))) (σ := σ3) (h := h2) (h1 := h2) (h2 := h2) (i := 0) (j := 10) rfl rfl (by omega)
  obtain ⟨ys, h3, e5, c3, yl, yr⟩ := compE_ex (f := turnC (tdN 9) [9] mYes (mBin oItem (mVar 8) (mCall F__law_draw (aCons (mVarE 0) (aCons (mUn fLen (mVar 8)) aNil)))) σ3) (Pv := CellIn h0 k) (R := fun y => ∃ w : RW, y = .d (rowOf w) ∧ w.2.length ≤ 20) (rangeU 0 ((10 : Int) - 0).toNat) h2 (by rw [rangeU_len]; omega) c2 fun x _ h c => by
    let σ4 : SL := [some (.ref k), some (.d (kD p rs)), some (.d (wordD W)), some (.own us2), a4, a5, some (.d (wordD T)), a7, some (.d (wordD (allW rs.length p.toNat))), some x]
    obtain ⟨r, h', l, e, c'⟩ := drawM (σ := σ4) (m := mUn fLen (mVar 8)) (h := h) (n := (allW rs.length p.toNat).length) rfl (mUn_ok (m := mVar 8) rfl (lenW _ h)) c ⟨by omega, by omega⟩
    exact ⟨_, h', turn_ok2 (mBin_ok (g := oItem) (m := mVar 8) (σ := σ4) rfl e (itemW _ h' r l)), c', (allW rs.length p.toNat)[r], rfl, by have := b2 _ (List.getElem_mem l); omega⟩
  have hys : ∃ V : List RW, ys = (V.map rowOf).map .d ∧ V.length = ys.length ∧ ∀ w ∈ V, w.2.length ≤ 20 := by
    clear e5 yl
    induction ys with
    | nil => exact ⟨[], rfl, rfl, fun _ z => nomatch z⟩
    | cons y ys ih =>
      obtain ⟨w, rfl, l⟩ := yr y List.mem_cons_self
      obtain ⟨V, e, l2, a⟩ := ih fun z hz => yr z (List.mem_cons_of_mem _ hz)
      refine ⟨w :: V, by rw [e]; rfl, by simp [l2], fun v hv => ?_⟩
      rcases List.mem_cons.mp hv with rfl | hv
      · exact l
      · exact a v hv
  obtain ⟨V, rfl, vl, va⟩ := hys
  have j : Jok V := by
    refine ⟨?_, fun v hv => by have := va v hv; omega⟩
    rw [vl, yl, rangeU_len]
    have : ((10 : Int) - 0).toNat = 10 := by omega
    omega
  have a5' := sApp_slot (i := 3) (σ := σ3) (h := h2) (xs := us2) rfl (er.trans e5) (by rw [g2.1]; omega)
  refine ⟨n2 + 1, _, h3, g2.add (toD_word V) j, c3, fnM_rt ?_⟩
  refine Eq.trans (sSeq_nx (σ1 := σ1) (h1 := h) rfl) ?_
  refine Eq.trans (sSeq_nx e1) ?_
  refine Eq.trans (sSeq_nx (sSet_ok e2)) ?_
  refine Eq.trans (sSeq_nx e3) ?_
  refine Eq.trans (sSeq_nx (sSet_ok e4)) ?_
  refine Eq.trans (sSeq_nx a5') ?_
  rfl
end
end MM.K04

namespace MM.K04
open PySem PySem.Spec PyProof.Rows L2
abbrev p2 (q : Int × Int) : DV := .tup [.int q.1, .int q.2]
def bo (q : Int × Int) (r : Int) : Int := if 1 - q.1 > r then 1 - q.1 else r
def bm (pace : Int) (q : Int × Int) (r : Int) : Int × Int × Int := (if q.2 + pace * bo q r > 0 then q.2 + pace * bo q r else 0, q.1 + bo q r, bo q r)
inductive Bt (pace most : Int) : List (Int × Int) → List (Int × Int × Int) → Prop
  | nil : Bt pace most [] []
  | cons {q r ps rs} : 0 ≤ r → r ≤ most → Bt pace most ps rs → Bt pace most (q :: ps) (bm pace q r :: rs)
theorem fMax2_int (h : HS) (i j : Int) : fMax2 h (.d (.int i)) (.d (.int j)) = some (.d (.int (if j > i then j else i))) := rfl
theorem q0 (q : Int × Int) (h : HS) : oItem h (.d (p2 q)) (.d (.int 0)) = some (.d (.int q.1)) := rfl
theorem q1 (q : Int × Int) (h : HS) : oItem h (.d (p2 q)) (.d (.int 1)) = some (.d (.int q.2)) := rfl
theorem q0U (q : Int × Int) (h : HS) : itemU h (.d (p2 q)) (.d (.int 0)) = some (.d (.int q.1)) := rfl
abbrev btB : MS := (sSeq (sSet 6 (mBin fMax2 (mCall F__law_draw (aCons (mVarE 0) (aCons (mBin oAdd (mVar 3) (mK (.int 1))) aNil))) (mBin oSub (mK (.int 1)) (mBin itemU (mVar 5) (mK (.int 0)))))) (sApp true (pVar 4) (mTup (aCons (mBin fMax2 (mK (.int 0)) (mBin oAdd (mBin oItem (mVar 5) (mK (.int 1))) (mBin oMul (mVar 1) (mVar 6)))) (aCons (mBin oAdd (mBin oItem (mVar 5) (mK (.int 0))) (mVar 6)) (aCons (mVarE 6) aNil))))))
abbrev BtS (k : Nat) (pace most : Int) (x : DV) (acc : List (Int × Int × Int)) (o5 o6 : Option UV) : SL := [some (.ref k), some (.d (.int pace)), some (.d x), some (.d (.int most)), some (.own (acc.map fun t => .d (r3 t))), o5, o6]
section
variable {h0 : HS} {k : Nat} {pace most : Int} (hp : 0 ≤ pace ∧ pace ≤ 100) (hm : 0 ≤ most ∧ most ≤ 100) (x : DV)
include hp hm
theorem bt_loop : ∀ (ps : List (Int × Int)) (acc : List (Int × Int × Int)) (o5 o6 : Option UV) (h : HS), CellIn h0 k h → acc.length + ps.length ≤ 100 → ∃ rs o5' o6' h', Bt pace most ps rs ∧ rs.length = ps.length ∧ CellIn h0 k h' ∧ loopL (turnF (tdN 5) btB) (ps.map fun q => .d (p2 q)) (BtS k pace most x acc o5 o6) h = .nx (BtS k pace most x (acc ++ rs) o5' o6') h'
  | [], acc, o5, o6, h, hc, _ => ⟨[], o5, o6, h, .nil, rfl, hc, by rw [List.append_nil]; rfl⟩
  | q :: ps, acc, o5, o6, h, hc, hl => by
    have sz := sz5
    rw [List.length_cons] at hl
    obtain ⟨r, h1, r0, r1, er, c1⟩ := drawL (most + 1) hc (by omega)
    let σ1 : SL := BtS k pace most x acc (some (.d (p2 q))) o6
    have e1 := mBin_ok (g := fMax2) (mCall2 (m := mVarE 0) (n := mBin oAdd (mVar 3) (mK (.int 1))) (σ := σ1) (h := h) rfl (mBin_ok (m := mVar 3) (n := mK (.int 1)) rfl rfl (oAdd_int h _ _)) ⟨rfl, rfl⟩ er) (mBin_ok (g := oSub) (m := mK (.int 1)) rfl (mBin_ok (g := itemU) (m := mVar 5) (n := mK (.int 0)) rfl rfl (q0U q h1)) (oSub_int h1 _ _)) (fMax2_int h1 _ _)
    let σ2 : SL := BtS k pace most x acc (some (.d (p2 q))) (some (.d (.int (bo q r))))
    have e2 := mTup3 (σ := σ2) (h := h1) (mBin_ok (g := fMax2) (m := mK (.int 0)) rfl (mBin_ok (g := oAdd) (mBin_ok (g := oItem) (m := mVar 5) (n := mK (.int 1)) rfl rfl (q1 q h1)) (mBin_ok (g := oMul) (m := mVar 1) (n := mVar 6) rfl rfl (oMul_int h1 pace (bo q r) (cmR _ _ (by omega) (by omega)))) (oAdd_int h1 _ _)) (fMax2_int h1 _ _)) (mBin_ok (g := oAdd) (mBin_ok (g := oItem) (m := mVar 5) (n := mK (.int 0)) rfl rfl (q0 q h1)) (n := mVar 6) rfl (oAdd_int h1 _ _)) (q := mVarE 6) rfl
    have e3 := sApp_slot (i := 4) (σ := σ2) (h := h1) (xs := acc.map fun t => .d (r3 t)) rfl e2 (by rw [List.length_map]; omega)
    have ea : (acc.map fun t => UV.d (r3 t)) ++ [UV.d (r3 (bm pace q r))] = (acc ++ [bm pace q r]).map fun t => UV.d (r3 t) := by rw [List.map_append]; rfl
    obtain ⟨rs, o5', o6', h', b, l, c, e⟩ := bt_loop ps (acc ++ [bm pace q r]) (some (.d (p2 q))) (some (.d (.int (bo q r)))) h1 c1 (by rw [List.length_append, List.length_singleton]; omega)
    have turn : turnF (tdN 5) btB (.d (p2 q)) (BtS k pace most x acc o5 o6) h = .nx (BtS k pace most x (acc ++ [bm pace q r]) (some (.d (p2 q))) (some (.d (.int (bo q r))))) h1 := by
      refine (turn_at btB 5 (.d (p2 q)) (BtS k pace most x acc o5 o6) σ1 h rfl).trans ?_
      refine Eq.trans (sSeq_nx (sSet_ok e1)) (Eq.trans e3 ?_)
      show RS'.nx (List.set σ2 4 (some (.own ((acc.map fun t => UV.d (r3 t)) ++ [UV.d (r3 (bm pace q r))])))) h1 = _
      rw [ea]
      rfl
    refine ⟨bm pace q r :: rs, o5', o6', h', .cons r0 (by omega) b, by rw [List.length_cons, List.length_cons, l], c, ?_⟩
    rw [List.map_cons, loopL_nx turn, e, List.append_assoc]
    rfl
theorem built (ps : List (Int × Int)) (hl : ps.length ≤ 100) {h : HS} (hc : CellIn h0 k h) : ∃ rs h', Bt pace most ps rs ∧ rs.length = ps.length ∧ CellIn h0 k h' ∧ F__law_built [.ref k, .d (.int pace), .d (.lst (ps.map p2)), .d (.int most)] h = .ok (.d (kD pace rs)) h' := by
  obtain ⟨rs, o5, o6, h', b, l, c, e⟩ := bt_loop hp hm (.lst (ps.map p2)) ps [] none none h hc (by simpa using hl)
  refine ⟨rs, h', b, l, c, fnM_rt ?_⟩
  refine Eq.trans (sSeq_nx (σ1 := BtS k pace most (.lst (ps.map p2)) [] none none) (h1 := h) rfl) ?_
  refine Eq.trans (sSeq_nx ((sFor_at (u := .d (.lst (ps.map p2))) (h1 := h) rfl (frz_map p2 ps)).trans e)) ?_
  have fr : fz (.own (rs.map fun t => UV.d (r3 t))) = some (.d (.lst (rs.map r3))) := by
    have := fz_own (rs.map r3)
    rw [List.map_map] at this
    exact this
  refine Eq.trans (ghFz (u := .own (rs.map fun t => UV.d (r3 t))) rfl fr) ?_
  exact sRet_ok (mTup2 (m := mVarE 1) (n := mVarE 4) rfl rfl)
end
theorem Bt.ks {pace : Int} (hp : 1 ≤ pace ∧ pace ≤ 3) : ∀ {ps : List (Int × Int)} {rs : List (Int × Int × Int)}, Bt pace 3 ps rs → (∀ q ∈ ps, (-1 ≤ q.1 ∧ q.1 ≤ 6) ∧ (-1 ≤ q.2 ∧ q.2 ≤ 4)) → ∀ t ∈ rs, (0 ≤ t.1 ∧ t.1 ≤ 200) ∧ (1 ≤ t.2.1 ∧ t.2.1 ≤ 60) ∧ (0 ≤ t.2.2 ∧ t.2.2 ≤ 60)
  | _, _, .nil, _, t, ht => nomatch ht
  | _, _, .cons (q := q) (r := r) r0 r1 b, a, t, ht => by
    rcases List.mem_cons.mp ht with rfl | ht
    · obtain ⟨⟨a1, a2⟩, a3, a4⟩ := a q List.mem_cons_self
      have o0 : 0 ≤ bo q r ∧ bo q r ≤ 3 ∧ 1 ≤ q.1 + bo q r ∧ q.1 + bo q r ≤ 9 := by
        unfold bo; split <;> omega
      have h3 : pace = 1 ∨ pace = 2 ∨ pace = 3 := by omega
      unfold bm
      refine ⟨?_, ⟨o0.2.2.1, by show q.1 + bo q r ≤ 60; omega⟩, ⟨o0.1, by show bo q r ≤ 60; omega⟩⟩
      show 0 ≤ (if q.2 + pace * bo q r > 0 then q.2 + pace * bo q r else 0) ∧ (if q.2 + pace * bo q r > 0 then q.2 + pace * bo q r else 0) ≤ 200
      rcases h3 with rfl | rfl | rfl <;> split <;> omega
    · exact Bt.ks hp b (fun q' hq => a q' (List.mem_cons_of_mem _ hq)) t ht
end MM.K04

namespace MM.K04
open PySem PySem.Spec PyProof.Rows L2
theorem mCall4s {f : MF} {m n p q : ME} {σ : SL} {h h1 h2 h3 h4 h5 : HS} {u v w x z : UV} (e1 : m σ h = .ok u h1) (e2 : n σ h1 = .ok v h2) (e3 : p σ h2 = .ok w h3) (e4 : q σ h3 = .ok x h4) (ho : noOwn u = true ∧ noOwn v = true ∧ noOwn w = true ∧ noOwn x = true) (e : f [u, v, w, x] h4 = .ok z h5) : mCall f (aCons m (aCons n (aCons p (aCons q aNil)))) σ h = .ok z h5 := by
  rw [mCall_at, aCons_at, e1, bindM_ok, aCons_at, e2, bindM_ok, aCons_at, e3, bindM_ok, aCons_at, e4]
  simp [ho.1, ho.2.1, ho.2.2.1, ho.2.2.2, e]
abbrev QB (q : Int × Int) : Prop := (-1 ≤ q.1 ∧ q.1 ≤ 6) ∧ (-1 ≤ q.2 ∧ q.2 ≤ 4)
theorem qs_of {ys : List UV} (h : ∀ y ∈ ys, ∃ q : Int × Int, y = .d (p2 q) ∧ QB q) : ∃ qs : List (Int × Int), ys = qs.map (fun q => .d (p2 q)) ∧ ∀ q ∈ qs, QB q := by
  induction ys with
  | nil => exact ⟨[], rfl, fun _ z => nomatch z⟩
  | cons y ys ih =>
    obtain ⟨i, rfl, r⟩ := h y List.mem_cons_self
    obtain ⟨xs, rfl, r2⟩ := ih fun z hz => h z (List.mem_cons_of_mem _ hz)
    exact ⟨i :: xs, rfl, fun j hj => (List.mem_cons.mp hj).elim (fun e => e ▸ r) (r2 j)⟩
abbrev jwC : ME := mTup (aCons (mBin oSub (mCall F__law_draw (aCons (mVarE 0) (aCons (mK (.int 8)) aNil))) (mK (.int 1))) (aCons (mCall F__law_draw (aCons (mVarE 0) (aCons (mK (.int 5)) aNil))) aNil))
theorem judge_world {h0 : HS} {k : Nat} {h : HS} (hc : CellIn h0 k h) : ∃ p rs h', KS p rs ∧ CellIn h0 k h' ∧ F__law_judge_world [.ref k] h = .ok (.d (kD p rs)) h' := by
  have sz := sz5
  obtain ⟨r1, h1, a0, a1, e1, c1⟩ := drawK (σ := [some (.ref k), none, none, none]) 4 rfl hc (by omega)
  have e2 := mBin_ok (g := oAdd) (m := mK (.int 1)) (σ := [some (.ref k), none, none, none]) rfl e1 (oAdd_int h1 _ _)
  let σ1 : SL := [some (.ref k), some (.d (.int (1 + r1))), none, none]
  have er := mCompR_at (lo := mK (.int 0)) (hi := mVar 1) (td := tdN 3) (vs := [3]) (mt := mYes) (me := jwC) (σ := σ1) (h := h1) (h1 := h1) (h2 := h1) (i := 0) (j := 1 + r1) rfl rfl (by omega)
  obtain ⟨ys, h2, e3, c2, yl, yr⟩ := compE_ex (f := turnC (tdN 3) [3] mYes jwC σ1) (Pv := CellIn h0 k) (R := fun y => ∃ q : Int × Int, y = .d (p2 q) ∧ QB q) (rangeU 0 ((1 + r1) - 0).toNat) h1 (by rw [rangeU_len]; omega) c1 fun x _ h c => by
    let σ4 : SL := [some (.ref k), some (.d (.int (1 + r1))), none, some x]
    obtain ⟨s, h', s0, s1, es, c'⟩ := drawK (σ := σ4) 8 rfl c (by omega)
    obtain ⟨t, h'', t0, t1, et, c''⟩ := drawK (σ := σ4) 5 rfl c' (by omega)
    exact ⟨.d (p2 (s - 1, t)), h'', turn_ok2 (mTup2 (σ := σ4) (mBin_ok (g := oSub) es (n := mK (.int 1)) rfl (oSub_int h' _ _)) et), c'', (s - 1, t), rfl, ⟨by show -1 ≤ s - 1 ∧ s - 1 ≤ 6; omega, by show -1 ≤ t ∧ t ≤ 4; omega⟩⟩
  obtain ⟨qs, rfl, qb⟩ := qs_of yr
  rw [rangeU_len, List.length_map] at yl
  have e4 : mCompR (mK (.int 0)) (mVar 1) (tdN 3) [3] mYes jwC σ1 h1 = .ok (.own (qs.map fun q => .d (p2 q))) h2 := er.trans e3
  let S : List (Int × Int) → SL := fun qs => [some (.ref k), some (.d (.int (1 + r1))), some (.own (qs.map fun q => .d (p2 q))), none]
  obtain ⟨r2, h3, b0, b1, e5, c3⟩ := drawK (σ := S qs) 8 rfl c2 (by omega)
  have t1 := mTst_ok (mBin_ok (g := oEq false) e5 (n := mK (.int 0)) rfl (oEq_int h3 false _ _))
  have st : ∃ (qs' : List (Int × Int)) (h4 : HS), (∀ q ∈ qs', QB q) ∧ qs'.length = qs.length ∧ CellIn h0 k h4 ∧ sIf (mTst (mBin (oEq false) (mCall F__law_draw (aCons (mVarE 0) (aCons (mK (.int 8)) aNil))) (mK (.int 0)))) (sISetE 2 (mCall F__law_draw (aCons (mVarE 0) (aCons (mVarE 1) aNil))) (mTup (aCons (mBin oAdd (mK (.int 1)) (mCall F__law_draw (aCons (mVarE 0) (aCons (mK (.int 5)) aNil)))) (aCons (mUn oNeg (mK (.int 1))) aNil)))) sPass (S qs) h2 = .nx (S qs') h4 := by
    by_cases q : r2 = 0
    · obtain ⟨r3, h4, d0, d1, e6, c4⟩ := drawK (σ := S qs) 5 rfl c3 (by omega)
      obtain ⟨r4, h5, f0, f1, c5⟩ := drawL (1 + r1) c4 (by omega)
      have e7 := mTup2 (σ := S qs) (mBin_ok (g := oAdd) (m := mK (.int 1)) rfl e6 (oAdd_int h4 _ _)) (mUn_ok (g := oNeg) (m := mK (.int 1)) rfl (oNeg_int h4 1))
      have e8 : mCall F__law_draw (aCons (mVarE 0) (aCons (mVarE 1) aNil)) (S qs) h4 = .ok (.d (.int ((r4.toNat : Nat) : Int))) h5 := by
        rw [Int.toNat_of_nonneg f0]
        exact mCall2 (m := mVarE 0) (n := mVarE 1) (σ := S qs) rfl rfl ⟨rfl, rfl⟩ c5.1
      have e9 := isetE_ok (i := 2) (σ := S qs) (xs := qs.map fun q => .d (p2 q)) rfl e7 rfl e8 (by rw [List.length_map]; omega)
      rw [show (qs.map fun q => UV.d (p2 q)).set r4.toNat (.d (.tup [.int (1 + r3), .int (-1)])) = (qs.set r4.toNat (1 + r3, -1)).map fun q => UV.d (p2 q) from by rw [List.map_set]] at e9
      refine ⟨qs.set r4.toNat (1 + r3, -1), h5, fun q' hq => ?_, List.length_set .., c5.2, Eq.trans (sIf_ok t1) ?_⟩
      · rcases List.mem_or_eq_of_mem_set hq with z | rfl
        · exact qb q' z
        · exact ⟨by show -1 ≤ 1 + r3 ∧ 1 + r3 ≤ 6; omega, by show (-1 : Int) ≤ -1 ∧ (-1 : Int) ≤ 4; omega⟩
      · subst q
        exact e9
    · refine ⟨qs, h3, qb, rfl, c3, Eq.trans (sIf_ok t1) ?_⟩
      rw [show (if false = true then !(r2 == 0) else (r2 == 0)) = false from by simp only [Bool.false_eq_true, if_false]; exact beq_eq_false_iff_ne.mpr q]
      rfl
  obtain ⟨qs', h4, qb', ql', c4, e6⟩ := st
  let σ5 : SL := [some (.ref k), some (.d (.int (1 + r1))), some (.d (.lst (qs'.map p2))), none]
  obtain ⟨r5, h5, g0, g1, e7, c5⟩ := drawK (σ := σ5) 3 rfl c4 (by omega)
  have e8 := mBin_ok (g := oAdd) (m := mK (.int 1)) (σ := σ5) rfl e7 (oAdd_int h5 _ _)
  obtain ⟨rs, h6, b, l, c6, e9⟩ := built (pace := 1 + r5) (most := 3) (by omega) (by omega) qs' (by omega) c5
  have hk := b.ks (by omega) qb'
  refine ⟨1 + r5, rs, h6, ⟨⟨by omega, by omega, hk⟩, by omega, by omega⟩, c6, fnM_rt ?_⟩
  refine Eq.trans (sSeq_nx (sSet_ok e2)) ?_
  refine Eq.trans (sSeq_nx (sSet_ok e4)) ?_
  refine Eq.trans (sSeq_nx e6) ?_
  have fr : fz (.own (qs'.map fun q => UV.d (p2 q))) = some (.d (.lst (qs'.map p2))) := by
    have := fz_own (qs'.map p2)
    rw [List.map_map] at this
    exact this
  refine Eq.trans (ghFz (u := .own (qs'.map fun q => UV.d (p2 q))) rfl fr) ?_
  exact sRet_ok (mCall4s (m := mVarE 0) (p := mVarE 2) (q := mK (.int 3)) (σ := σ5) rfl e8 rfl rfl ⟨rfl, rfl, rfl, rfl⟩ e9)
end MM.K04

namespace MM.K04
open PySem PySem.Spec PyProof.Rows L2
def fr (S : Nat → Bool) (i : Nat) : RW := (true, [if S i then 1 else 2])
def farW (S : Nat → Bool) (m : Nat) : List RW := (List.range m).map (fr S)
theorem farW_len (S : Nat → Bool) (m : Nat) : (farW S m).length = m := by simp [farW]
def orS (S : Nat → Bool) (js : List Nat) : Nat → Bool := fun i => S i || js.contains i
theorem farW_set (S : Nat → Bool) (m j : Nat) : (farW S m).set j (true, [1]) = farW (orS S [j]) m := by
  refine List.ext_getElem (by simp [farW]) fun i h1 h2 => ?_
  rw [List.getElem_set]
  simp only [farW, List.getElem_map, List.getElem_range]
  by_cases q : j = i
  · subst q
    simp [fr, orS]
  · rw [if_neg q]
    have : orS S [j] i = S i := by
      unfold orS
      simp
      intro z
      exact absurd z.symm q
    unfold fr
    rw [this]
abbrev fwB : MS := sISet (pVar 7) (mVarE 9) (mTup (aCons (mK (.int 1)) aNil))
abbrev rowsU (S : Nat → Bool) (m : Nat) : UV := .own ((farW S m).map fun w => .d (rowOf w))
abbrev FS (k : Nat) (n x : Int) (kd : DV) (first : Int) (o5 o6 o7 o8 o9 : Option UV) : SL := [some (.ref k), some (.d (.int n)), some (.d (.int x)), some (.d kd), some (.d (.int first)), o5, o6, o7, o8, o9]
theorem iset_slot {σ : SL} {h : HS} {xs : List UV} {j : Nat} {u : UV} {i : Nat} {mi m : ME} (e0 : σ[i]? = some (some (.own xs))) (e1 : m σ h = .ok u h) (hn : noOwn u = true) (e2 : mi σ h = .ok (.d (.int (j : Int))) h) (hj : j < xs.length) : sISet (pVar i) mi m σ h = .nx (σ.set i (some (.own (xs.set j u)))) h := by
  have ix : ixN xs.length (j : Int) = some j := by
    unfold ixN
    rw [if_pos (by omega), if_pos (by omega)]; simp
  have pv : pVar i σ h = some (.slot i) := by unfold pVar; rw [e0]; rfl
  have g : getP (.slot i) σ h = some (.own xs) := by simp only [getP, e0]
  have l0 : lstAt (pVar i) σ h = some (.slot i, xs) := by
    unfold lstAt
    rw [pv]
    simp only [g]
  unfold sISet
  rw [e1]
  simp [hn, e2, l0, ix, nxP, setP, e0]
end MM.K04

namespace MM.K04
open PySem PySem.Spec PyProof.Rows L2
theorem orS_cons (S : Nat → Bool) (j : Nat) (js : List Nat) : orS (orS S [j]) js = orS S (j :: js) := by
  funext i
  simp [orS, Bool.or_assoc]
theorem orS_nil (S : Nat → Bool) : orS S [] = S := by
  funext i; simp [orS]
theorem mark_loop (k : Nat) (n x : Int) (kd : DV) (first : Int) (o5 o6 o8 : Option UV) (m : Nat) (h : HS) : ∀ (js : List Nat) (S : Nat → Bool) (o9 : Option UV), (∀ j ∈ js, j < m) → ∃ o9', loopL (turnF (tdN 9) fwB) (js.map fun (j : Nat) => .d (.int (j : Int))) (FS k n x kd first o5 o6 (some (rowsU S m)) o8 o9) h = .nx (FS k n x kd first o5 o6 (some (rowsU (orS S js) m)) o8 o9') h
  | [], S, o9, _ => ⟨o9, by rw [orS_nil]; rfl⟩
  | j :: js, S, o9, hj => by
    have hm : j < m := hj j List.mem_cons_self
    let σ1 : SL := FS k n x kd first o5 o6 (some (rowsU S m)) o8 (some (.d (.int (j : Int))))
    have one : mTup (aCons (mK (.int 1)) aNil) σ1 h = .ok (.d (rowOf (true, [1]))) h := by
      rw [mTup_at, aCons_at, mK_at, bindM_ok]
      simp [ofO]
      rfl
    have e := iset_slot (i := 7) (σ := σ1) (h := h) (xs := (farW S m).map fun w => .d (rowOf w)) (mi := mVarE 9) rfl one rfl rfl (by rw [List.length_map, farW_len]; exact hm)
    rw [show ((farW S m).map fun w => UV.d (rowOf w)).set j (.d (rowOf (true, [1]))) = ((farW S m).set j (true, [1])).map fun w => UV.d (rowOf w) from by rw [List.map_set], farW_set] at e
    obtain ⟨o9', e2⟩ := mark_loop k n x kd first o5 o6 o8 m h js (orS S [j]) (some (.d (.int (j : Int)))) fun j' hj' => hj j' (List.mem_cons_of_mem _ hj')
    refine ⟨o9', ?_⟩
    rw [List.map_cons, loopL_nx ((turn_at fwB 9 _ _ σ1 h rfl).trans e)]
    rw [orS_cons] at e2
    exact e2
def jsN (first x last : Nat) : List Nat := (List.range x).map (first + ·) ++ [last]
def fw (first x last : Nat) : List RW := farW (orS (fun _ => false) (jsN first x last)) (last + 1)
abbrev faB : MS := (sSeq (sSet 7 (mCompR (mK (.int 0)) (mBin oAdd (mVar 6) (mK (.int 1))) (tdN 8) [8] mYes (mTup (aCons (mK (.int 2)) aNil)))) (sSeq (sFor (mFz (mBin oAdd (mListR (mVar 4) (mBin oAdd (mVar 4) (mVar 2))) (mLst (aCons (mVarE 6) aNil)))) (tdN 9) fwB) (sGh (gFz 7) (sApp true (pVar 5) (mVarE 7)))))
theorem fa_turn (k : Nat) (n : Int) (x : Nat) (kd : DV) (first last : Nat) (us : List UV) (o6 o7 o9 : Option UV) (h : HS) (hx : x ≤ 2) (hf : first ≤ 2) (hl : first + x ≤ last ∧ last ≤ 100) (hu : us.length ≤ 10) : ∃ o6' o7' o9', turnF (tdN 6) faB (.d (.int (last : Int))) (FS k n (x : Int) kd (first : Int) (some (.own us)) o6 o7 none o9) h = .nx (FS k n (x : Int) kd (first : Int) (some (.own (us ++ [.d (wordD (fw first x last))]))) o6' o7' none o9') h := by
  have sz := sz5
  let σ1 : SL := FS k n (x : Int) kd (first : Int) (some (.own us)) (some (.d (.int (last : Int)))) o7 none o9
  have er := mCompR_at (lo := mK (.int 0)) (hi := mBin oAdd (mVar 6) (mK (.int 1))) (td := tdN 8) (vs := [8]) (mt := mYes) (me := mTup (aCons (mK (.int 2)) aNil)) (σ := σ1) (h := h) (h1 := h) (h2 := h) (i := 0) (j := (last : Int) + 1) rfl (mBin_ok (m := mVar 6) (n := mK (.int 1)) rfl rfl (oAdd_int h _ _)) (by omega)
  rw [show ((last : Int) + 1 - 0).toNat = last + 1 from by omega] at er
  have two : ∀ σ h, mTup (aCons (mK (.int 2)) aNil) σ h = .ok (.d (rowOf (true, [2]))) h := fun σ h => by
    rw [mTup_at, aCons_at, mK_at, bindM_ok]
    simp [ofO]
    rfl
  have ec := compE_fm (f := turnC (tdN 8) [8] mYes (mTup (aCons (mK (.int 2)) aNil)) σ1) (h := h) (fun i : Nat => UV.d (.int ((0 : Int) + (i : Int)))) (fun i => some (.d (rowOf (fr (fun _ => false) i)))) (xs := List.range (last + 1)) (by rw [List.length_range]; omega) fun i _ => turn_ok2 (two _ _)
  unfold rangeU at er
  rw [ec, List.filterMap_eq_map'] at er
  have er' : mCompR (mK (.int 0)) (mBin oAdd (mVar 6) (mK (.int 1))) (tdN 8) [8] mYes (mTup (aCons (mK (.int 2)) aNil)) σ1 h = .ok (rowsU (fun _ => false) (last + 1)) h := by
    rw [er]
    unfold rowsU farW
    rw [List.map_map]
    rfl
  let σ2 : SL := FS k n (x : Int) kd (first : Int) (some (.own us)) (some (.d (.int (last : Int)))) (some (rowsU (fun _ => false) (last + 1))) none o9
  have e1 : mListR (mVar 4) (mBin oAdd (mVar 4) (mVar 2)) σ2 h = .ok (oI ((List.range x).map fun (i : Nat) => (first : Int) + (i : Int))) h := by
    have hi : mBin oAdd (mVar 4) (mVar 2) σ2 h = .ok (.d (.int ((first : Int) + (x : Int)))) h := mBin_ok (m := mVar 4) (n := mVar 2) rfl rfl (oAdd_int h _ _)
    unfold mListR
    show bindM (.ok (UV.d (.int (first : Int))) h) _ = _
    rw [bindM_ok, hi, bindM_ok]
    simp only [uInt_int]
    rw [if_pos (by omega), ← oI_map, show ((first : Int) + (x : Int) - (first : Int)).toNat = x from by omega]
    rfl
  have e2 := mBin_ok (g := oAdd) e1 (n := mLst (aCons (mVarE 6) aNil)) (v := oI [(last : Int)]) (h2 := h) (lst1 (m := mVarE 6) rfl) (oAdd_oI h _ _ (by simp; omega))
  have ej : ((List.range x).map fun (i : Nat) => (first : Int) + (i : Int)) ++ [(last : Int)] = (jsN first x last).map fun (j : Nat) => (j : Int) := by
    unfold jsN
    rw [List.map_append, List.map_map]
    rfl
  rw [ej] at e2
  have e3 := mFz_ok e2 (fz_oI _)
  have hj : ∀ j ∈ jsN first x last, j < last + 1 := fun j hj => by
    unfold jsN at hj
    rcases List.mem_append.mp hj with z | z
    · obtain ⟨i, hi, rfl⟩ := List.mem_map.mp z
      have := List.mem_range.mp hi
      omega
    · rw [List.mem_singleton.mp z]; omega
  obtain ⟨o9', e4⟩ := mark_loop k n (x : Int) kd (first : Int) (some (.own us)) (some (.d (.int (last : Int)))) none (last + 1) h (jsN first x last) (fun _ => false) o9 hj
  have e5 := (sFor_at (m := mFz (mBin oAdd (mListR (mVar 4) (mBin oAdd (mVar 4) (mVar 2))) (mLst (aCons (mVarE 6) aNil)))) (td := tdN 9) (b := fwB) (σ := σ2) e3 (xs := (jsN first x last).map fun (j : Nat) => UV.d (.int (j : Int))) (by rw [seqR, List.map_map]; rfl)).trans e4
  let σ4 : SL := FS k n (x : Int) kd (first : Int) (some (.own us)) (some (.d (.int (last : Int)))) (some (.d (wordD (fw first x last)))) none o9'
  have e6 := sApp_slot (i := 5) (σ := σ4) (h := h) (xs := us) (m := mVarE 7) rfl rfl (by omega)
  refine ⟨some (.d (.int (last : Int))), some (.d (wordD (fw first x last))), o9', (turn_at faB 6 _ _ σ1 h rfl).trans ?_⟩
  refine Eq.trans (sSeq_nx (sSet_ok er')) ?_
  refine Eq.trans (sSeq_nx e5) ?_
  refine Eq.trans (ghFz (u := rowsU (orS (fun _ => false) (jsN first x last)) (last + 1)) rfl (fz_words _)) ?_
  exact e6
abbrev farK (n x : Nat) : List (Int × Int × Int) := [((x : Int), (n : Int), 0), (3, 1, 1)]
theorem far_words {h0 : HS} {k : Nat} {h : HS} (hc : CellIn h0 k h) : ∃ (n x first : Nat) (h' : HS), (13 ≤ n ∧ n ≤ 60) ∧ (1 ≤ x ∧ x ≤ 2) ∧ first ≤ 2 ∧ CellIn h0 k h' ∧ F__law_far_words [.ref k] h = .ok (.d (.tup [kD 1 (farK n x), .lst [wordD (fw first x (first + n - 1)), wordD (fw first x (first + n))]])) h' := by
  obtain ⟨n', h1, a0, a1, e1, c1⟩ := drawK (σ := [some (.ref k), none, none, none, none, none, none, none, none, none]) 48 rfl hc (by omega)
  obtain ⟨n, rfl⟩ : ∃ n : Nat, n' = (n : Int) - 13 := ⟨(n' + 13).toNat, by omega⟩
  have e1' := mBin_ok (g := oAdd) (m := mK (.int 13)) (σ := [some (.ref k), none, none, none, none, none, none, none, none, none]) rfl e1 (oAdd_int h1 _ _)
  rw [show (13 + ((n : Int) - 13)) = (n : Int) from by omega] at e1'
  obtain ⟨x', h2, b0, b1, e2, c2⟩ := drawK (σ := [some (.ref k), some (.d (.int (n : Int))), none, none, none, none, none, none, none, none]) 2 rfl c1 (by omega)
  obtain ⟨x, rfl⟩ : ∃ x : Nat, x' = (x : Int) - 1 := ⟨(x' + 1).toNat, by omega⟩
  have e2' := mBin_ok (g := oAdd) (m := mK (.int 1)) (σ := [some (.ref k), some (.d (.int (n : Int))), none, none, none, none, none, none, none, none]) rfl e2 (oAdd_int h2 _ _)
  rw [show (1 + ((x : Int) - 1)) = (x : Int) from by omega] at e2'
  obtain ⟨rs, h3, b, l, c3, e3⟩ := built (pace := 1) (most := 0) (by omega) (by omega) [((n : Int), (x : Int)), (0, 2)] (by simp) c2
  have hrs : rs = farK n x := by
    cases b with
    | cons r0 r1 b =>
      cases b with
      | cons s0 s1 b =>
        cases b
        rename_i r s
        have hr : r = 0 := by omega
        have hs : s = 0 := by omega
        subst hr hs
        have o1 : bo ((n : Int), (x : Int)) 0 = 0 := by unfold bo; rw [if_neg (by show ¬ (1 - (n : Int) > 0); omega)]
        have o2 : bm 1 ((n : Int), (x : Int)) 0 = ((x : Int), (n : Int), 0) := by
          unfold bm
          rw [o1]
          show ((if (x : Int) + 1 * 0 > 0 then (x : Int) + 1 * 0 else 0), (n : Int) + 0, (0 : Int)) = _
          rw [if_pos (by omega)]
          simp
        rw [o2]
        rfl
  subst hrs
  let σ2 : SL := [some (.ref k), some (.d (.int (n : Int))), some (.d (.int (x : Int))), none, none, none, none, none, none, none]
  have pl : mFz (mLst (aCons (mTup (aCons (mVarE 1) (aCons (mVarE 2) aNil))) (aCons (mTup (aCons (mK (.int 0)) (aCons (mK (.int 2)) aNil))) aNil))) σ2 h2 = .ok (.d (.lst ([((n : Int), (x : Int)), (0, 2)].map p2))) h2 := mFz_ok (lst2 (mTup2 (m := mVarE 1) (n := mVarE 2) rfl rfl) (mTup2 (m := mK (.int 0)) (n := mK (.int 2)) rfl rfl)) (fz_own [p2 ((n : Int), (x : Int)), p2 (0, 2)])
  have e3' := mFz_ok (mCall4 (m := mVarE 0) (n := mK (.int 1)) (q := mK (.int 0)) (σ := σ2) rfl rfl pl rfl ⟨rfl, rfl, rfl, rfl⟩ e3) (fz_d _)
  obtain ⟨f', h4, d0, d1, e4, c4⟩ := drawK (σ := [some (.ref k), some (.d (.int (n : Int))), some (.d (.int (x : Int))), some (.d (kD 1 (farK n x))), none, none, none, none, none, none]) 3 rfl c3 (by omega)
  obtain ⟨first, rfl⟩ : ∃ f : Nat, f' = (f : Int) := ⟨f'.toNat, by omega⟩
  let S : List UV → Option UV → Option UV → Option UV → SL := fun us o6 o7 o9 => FS k (n : Int) (x : Int) (kD 1 (farK n x)) (first : Int) (some (.own us)) o6 o7 none o9
  obtain ⟨o6, o7, o9, t1⟩ := fa_turn k (n : Int) x (kD 1 (farK n x)) first (first + n - 1) [] none none none h4 (by omega) (by omega) (by omega) (by simp)
  obtain ⟨p6, p7, p9, t2⟩ := fa_turn k (n : Int) x (kD 1 (farK n x)) first (first + n) [.d (wordD (fw first x (first + n - 1)))] o6 o7 o9 h4 (by omega) (by omega) (by omega) (by simp)
  have la : mFz (mLst (aCons (mBin oSub (mBin oAdd (mVar 4) (mVar 1)) (mK (.int 1))) (aCons (mBin oAdd (mVar 4) (mVar 1)) aNil))) (S [] none none none) h4 = .ok (.d (rowD [((first + n - 1 : Nat) : Int), ((first + n : Nat) : Int)])) h4 := by
    have a := mBin_ok (g := oAdd) (m := mVar 4) (n := mVar 1) (σ := S [] none none none) (h := h4) rfl rfl (oAdd_int h4 _ _)
    have b := mBin_ok (g := oSub) a (n := mK (.int 1)) rfl (oSub_int h4 _ _)
    rw [show ((first : Int) + (n : Int) - 1) = ((first + n - 1 : Nat) : Int) from by omega] at b
    rw [show ((first : Int) + (n : Int)) = ((first + n : Nat) : Int) from by omega] at a
    exact mFz_ok (lst2 b a) (fz_oI [((first + n - 1 : Nat) : Int), ((first + n : Nat) : Int)])
  have lp := sFor_at (m := mFz (mLst (aCons (mBin oSub (mBin oAdd (mVar 4) (mVar 1)) (mK (.int 1))) (aCons (mBin oAdd (mVar 4) (mVar 1)) aNil)))) (td := tdN 6) (b := faB) (σ := S [] none none none) la (seqR _)
  rw [List.nil_append] at t1
  rw [List.map_cons, loopL_nx t1, List.map_cons, loopL_nx t2] at lp
  have fzw : fz (.own [UV.d (wordD (fw first x (first + n - 1))), .d (wordD (fw first x (first + n)))]) = some (.d (.lst [wordD (fw first x (first + n - 1)), wordD (fw first x (first + n))])) := fz_own [wordD (fw first x (first + n - 1)), wordD (fw first x (first + n))]
  refine ⟨n, x, first, h4, by omega, by omega, by omega, c4, fnM_rt ?_⟩
  refine Eq.trans (sSeq_nx (sSet_ok e1')) ?_
  refine Eq.trans (sSeq_nx (sSet_ok e2')) ?_
  refine Eq.trans (sSeq_nx (sSet_ok e3')) ?_
  refine Eq.trans (sSeq_nx (sSet_ok e4)) ?_
  refine Eq.trans (sSeq_nx (σ1 := S [] none none none) (h1 := h4) rfl) ?_
  refine Eq.trans (sSeq_nx lp) ?_
  refine Eq.trans (ghFz (u := .own [UV.d (wordD (fw first x (first + n - 1))), .d (wordD (fw first x (first + n)))]) rfl fzw) ?_
  exact sRet_ok (mTup2 (m := mVarE 3) (n := mVarE 5) rfl rfl)
end MM.K04

namespace MM.K04
open PySem PySem.Spec PyProof.Rows L2
abbrev ind (b : Bool) : Int := if b then 1 else 0
def cs (S : Nat → Bool) (lo len : Nat) : Int := ((List.range' lo len).map fun i => ind (S i)).sum
theorem cs_succ (S : Nat → Bool) (lo len : Nat) : cs S lo (len + 1) = ind (S lo) + cs S (lo + 1) len := by
  unfold cs
  rw [List.range'_succ, List.map_cons, List.sum_cons]
theorem cs_one (a : Nat) : ∀ (len lo : Nat), cs (fun i => i == a) lo len = if lo ≤ a ∧ a < lo + len then 1 else 0
  | 0, lo => by
    rw [if_neg (by omega)]; rfl
  | len + 1, lo => by
    rw [cs_succ, cs_one a len (lo + 1)]
    by_cases q : lo = a
    · subst q
      rw [if_neg (by omega), if_pos (by omega)]
      simp [ind]
    · have q' : (lo == a) = false := beq_eq_false_iff_ne.mpr q
      simp only [q', ind, Bool.false_eq_true, if_false]
      by_cases z : lo + 1 ≤ a ∧ a < lo + 1 + len
      · rw [if_pos z, if_pos (by omega)]; rfl
      · rw [if_neg z, if_neg (by omega)]; rfl
theorem cs_add (S S1 S2 : Nat → Bool) (h : ∀ i, ind (S i) = ind (S1 i) + ind (S2 i)) : ∀ (len lo : Nat), cs S lo len = cs S1 lo len + cs S2 lo len
  | 0, lo => rfl
  | len + 1, lo => by
    rw [cs_succ, cs_succ, cs_succ, h, cs_add S S1 S2 h len (lo + 1)]
    omega
abbrev Sj (first x last : Nat) : Nat → Bool := orS (fun _ => false) (jsN first x last)
theorem cs_far (first x last lo len : Nat) (hx : 1 ≤ x ∧ x ≤ 2) (hl : first + x ≤ last) : cs (Sj first x last) lo len = (if lo ≤ first ∧ first < lo + len then 1 else 0) + (if x = 2 ∧ lo ≤ first + 1 ∧ first + 1 < lo + len then 1 else 0) + (if lo ≤ last ∧ last < lo + len then 1 else 0) := by
  have hx' : x = 1 ∨ x = 2 := by omega
  rcases hx' with rfl | rfl
  · rw [cs_add (Sj first 1 last) (fun i => i == first) (fun i => i == last) (fun i => by
      have : Sj first 1 last i = ((i == first) || (i == last)) := by
        simp [Sj, orS, jsN, List.range_succ]
        rfl
      rw [this]
      by_cases q : i = first
      · subst q
        have : (i == last) = false := beq_eq_false_iff_ne.mpr (by omega)
        simp [this, ind]
      · have : (i == first) = false := beq_eq_false_iff_ne.mpr q
        simp [this, ind]), cs_one, cs_one]
    simp
  · rw [cs_add (Sj first 2 last) (fun i => (i == first) || (i == first + 1)) (fun i => i == last) (fun i => by
      have : Sj first 2 last i = ((i == first) || (i == first + 1) || (i == last)) := by
        simp [Sj, orS, jsN, List.range_succ, Bool.or_assoc]
        rfl
      rw [this]
      by_cases q : i = last
      · subst q
        have e1 : (i == first) = false := beq_eq_false_iff_ne.mpr (by omega)
        have e2 : (i == first + 1) = false := beq_eq_false_iff_ne.mpr (by omega)
        simp [e1, e2, ind]
      · have : (i == last) = false := beq_eq_false_iff_ne.mpr q
        simp [this, ind]), cs_add (fun i => (i == first) || (i == first + 1)) (fun i => i == first) (fun i => i == first + 1) (fun i => by
      by_cases q : i = first
      · subst q
        have : (i == i + 1) = false := beq_eq_false_iff_ne.mpr (by omega)
        simp [this, ind]
      · have : (i == first) = false := beq_eq_false_iff_ne.mpr q
        simp [this, ind]), cs_one, cs_one, cs_one]
    simp
abbrev fV (S : Nat → Bool) (m : Nat) : List (List Int) := (farW S m).map (·.2)
theorem fV_eq (S : Nat → Bool) (m : Nat) : fV S m = (List.range m).map fun i => [if S i then (1 : Int) else 2] := by
  unfold fV farW
  rw [List.map_map]; rfl
theorem cnt_far (S : Nat → Bool) (m b lo : Nat) (hb : b ≤ m) : cntN 1 (((fV S m).take b).drop lo) = cs S lo (b - lo) := by
  rw [fV_eq]
  unfold cntN cs
  have e : (((List.range m).map fun i => [if S i then (1 : Int) else 2]).take b).drop lo = (List.range' lo (b - lo)).map fun i => [if S i then (1 : Int) else 2] := by
    refine List.ext_getElem (by simp; omega) fun i h1 h2 => ?_
    simp
  rw [e, List.map_map]
  congr 1
  refine List.map_congr_left fun i _ => ?_
  show (([if S i then (1 : Int) else 2].count 1 : Nat) : Int) = ind (S i)
  cases S i <;> rfl
theorem wl_far (n x : Nat) (hn : 1 ≤ n) : wlF 1 0 (farK n x) = [(1, (n : Int), (x : Int))] := by
  have e1 : wl1 1 0 ((x : Int), (n : Int), (0 : Int)) = [(1, (n : Int), (x : Int))] := by
    unfold wl1
    have w : wn ((x : Int), (n : Int), (0 : Int)) = (n : Int) := by unfold wn; simp
    have s : sp 1 ((x : Int), (n : Int), (0 : Int)) = (x : Int) := by unfold sp; simp
    rw [w, s, if_pos (by omega)]
    rfl
  show wl1 1 0 ((x : Int), (n : Int), (0 : Int)) ++ (wl1 1 1 (3, 1, 1) ++ []) = _
  rw [e1]
  rfl
theorem full_far (S : Nat → Bool) (m b n x : Nat) (hb : b ≤ m) : full (fV S m) b [(1, (n : Int), (x : Int))] = if cs S (b - n) (b - (b - n)) > x then 1 else 0 := by
  rw [full]
  show (if cntN 1 (((fV S m).take b).drop ((b : Int) - (n : Int)).toNat) > (x : Int) then (1 : Int) else full (fV S m) b []) = _
  rw [show ((b : Int) - (n : Int)).toNat = b - n from by omega, cnt_far S m b _ hb]
  rfl
theorem good_far (S : Nat → Bool) (m : Nat) : good 1 2 (fV S m) = (fV S m).length := by
  unfold good
  rw [fV_eq]
  congr 1
  have : ∀ l : List Nat, (l.map fun i => [if S i then (1 : Int) else 2]).takeWhile (isRow 1 2) = l.map fun i => [if S i then (1 : Int) else 2] := fun l => by
    induction l with
    | nil => rfl
    | cons i l ih =>
      have q : isRow 1 2 [if S i then (1 : Int) else 2] = true := by cases S i <;> decide
      rw [List.map_cons, List.takeWhile_cons, if_pos q, ih]
  exact this _
theorem wf_far (S : Nat → Bool) (m : Nat) (wl) : wf 1 2 wl (fV S m) = jr wl (fV S m) 0 m := by
  have l : (fV S m).length = m := by rw [fV_eq]; simp
  unfold wf
  rw [good_far, l, List.take_of_length_le (by omega)]
  rcases jr_ty wl (fV S m) m 0 with q | ⟨i, j, q⟩
  · rw [q]
    simp only
    rw [if_neg (by omega)]
  · rw [q]
theorem jr_none (wl : List (Int × Int × Int)) (V : List (List Int)) : ∀ (k b : Nat), (∀ c, b ≤ c → c < b + k → ¬ 0 < full V (c + 1) wl) → jr wl V b k = .non
  | 0, b, _ => rfl
  | k + 1, b, h => by
    rw [jr, if_neg (h b (by omega) (by omega))]
    exact jr_none wl V k (b + 1) fun c h1 h2 => h c (by omega) (by omega)
theorem jr_hit (wl : List (Int × Int × Int)) (V : List (List Int)) : ∀ (k b c : Nat), b ≤ c → c < b + k → 0 < full V (c + 1) wl → ∃ i j : Int, jr wl V b k = .tup [.int i, .int j]
  | 0, b, c, h1, h2, _ => by omega
  | k + 1, b, c, h1, h2, h => by
    rw [jr]
    by_cases q : 0 < full V (b + 1) wl
    · rw [if_pos q]; exact ⟨_, _, rfl⟩
    · rw [if_neg q]
      refine jr_hit wl V k (b + 1) c ?_ (by omega) h
      rcases Nat.eq_or_lt_of_le h1 with e | e
      · subst e; exact absurd h q
      · exact e
section
variable {n x first : Nat} (hn : 13 ≤ n ∧ n ≤ 60) (hx : 1 ≤ x ∧ x ≤ 2) (hf : first ≤ 2)
include hn hx hf
theorem far_near : ∃ i j : Int, wf 1 2 (wlF 1 0 (farK n x)) ((fw first x (first + n - 1)).map (·.2)) = .tup [.int i, .int j] := by
  show ∃ i j : Int, wf 1 2 (wlF 1 0 (farK n x)) (fV (Sj first x (first + n - 1)) (first + n - 1 + 1)) = _
  rw [wl_far n x (by omega), wf_far]
  refine jr_hit _ _ _ 0 (first + n - 1) (by omega) (by omega) ?_
  rw [full_far _ _ _ _ _ (by omega), cs_far _ _ _ _ _ hx (by omega), if_pos]
  · decide
  · rw [if_pos (by omega), if_pos (show first + n - 1 + 1 - n ≤ first + n - 1 ∧ _ from by omega)]
    by_cases q : x = 2
    · rw [if_pos (by omega)]; omega
    · rw [if_neg (by omega)]; omega
theorem far_far : wf 1 2 (wlF 1 0 (farK n x)) ((fw first x (first + n)).map (·.2)) = .non := by
  show wf 1 2 (wlF 1 0 (farK n x)) (fV (Sj first x (first + n)) (first + n + 1)) = _
  rw [wl_far n x (by omega), wf_far]
  refine jr_none _ _ _ 0 fun c _ hc => ?_
  rw [full_far _ _ _ _ _ (by omega), cs_far _ _ _ _ _ hx (by omega), if_neg]
  · decide
  · by_cases q1 : c + 1 - n ≤ first ∧ first < c + 1 - n + (c + 1 - (c + 1 - n))
    · rw [if_pos q1]
      rw [if_neg (show ¬ (c + 1 - n ≤ first + n ∧ first + n < c + 1 - n + (c + 1 - (c + 1 - n))) from by omega)]
      by_cases q2 : x = 2
      · split <;> omega
      · rw [if_neg (by omega)]; omega
    · rw [if_neg q1]
      by_cases q2 : x = 2
      · split <;> split <;> omega
      · rw [if_neg (by omega)]
        split <;> omega
end
end MM.K04

namespace MM.K04
open PySem PySem.Spec PyProof.Rows L2
def HC (h : HS) : Prop := ∀ n, h.all (celLt n) = true
theorem hc_cell {h0 h : HS} {k : Nat} (hh : HC h0) (c : CellIn h0 k h) : HC h := by
  obtain ⟨a, b, d, rfl, _⟩ := c
  intro n
  rw [List.all_append, hh n]
  rfl
theorem stock_cell (ns : List Int) (i : Nat) (hi : i < 1000) (h : HS) {m : ME} {σ : SL} (e0 : mVarE 0 σ h = .ok (.d (.rol (ns.map .int))) h) (e1 : m σ h = .ok (.d (.int (i : Int))) h) : ∃ h', mCel (mCall F__law_stock (aCons (mVarE 0) (aCons m aNil))) σ h = .ok (.ref h.length) h' ∧ CellIn h h.length h' := by
  obtain ⟨a, b, e⟩ := stock ns i hi h
  exact ⟨_, mCel_ok (mCall2 e0 e1 ⟨rfl, rfl⟩ e), a, b, i, rfl, rfl⟩
abbrev jdB : MS := sIf (mNot (mTru (mCall F__law_judged (aCons (mVarE 2) (aCons (mVarE 4) (aCons (mVarE 3) (aCons (mVarE 6) aNil))))))) (sRet (mK (.bl false))) sPass
abbrev LS (ns : List Int) (k : Nat) (p : Int) (rs : List (Int × Int × Int)) (o1 o5 o6 o7 : Option UV) : SL := [some (.d (.rol (ns.map .int))), o1, some (.ref k), some (.d (kD p rs)), some (.d (insD p rs)), o5, o6, o7]
theorem words_loop {p : Int} {rs : List (Int × Int × Int)} (kk : KOk p rs) (ns : List Int) (k : Nat) (o1 o5 o7 : Option UV) (h : HS) : ∀ (Ws : List (List RW)) (o6 : Option UV), (∀ W ∈ Ws, Jok W) → ∃ o6', loopL (turnF (tdN 6) jdB) (Ws.map fun W => .d (wordD W)) (LS ns k p rs o1 o5 o6 o7) h = .nx (LS ns k p rs o1 o5 o6' o7) h
  | [], o6, _ => ⟨o6, rfl⟩
  | W :: Ws, o6, hj => by
    have j := hj W List.mem_cons_self
    have e := judged kk (.ref k) rfl W j.1 j.2 h
    obtain ⟨o6', e2⟩ := words_loop kk ns k o1 o5 o7 h Ws (some (.d (wordD W))) fun V hV => hj V (List.mem_cons_of_mem _ hV)
    refine ⟨o6', ?_⟩
    rw [List.map_cons, loopL_nx ((turn_at jdB 6 _ _ (LS ns k p rs o1 o5 (some (.d (wordD W))) o7) h rfl).trans (sIf_nt (mCall4 (m := mVarE 2) (n := mVarE 4) (p := mVarE 3) (q := mVarE 6) rfl rfl rfl rfl ⟨rfl, rfl, rfl, rfl⟩ e)))]
    exact e2
abbrev tnB : MS := (sSeq (sSet 2 (mCel (mCall F__law_stock (aCons (mVarE 0) (aCons (mVarE 1) aNil))))) (sSeq (sSet 3 (mFz (mCall F__law_judge_world (aCons (mVarE 2) aNil)))) (sSeq (sSet 4 (mFz (mCall F__law_as_kitchen (aCons (mVarE 3) aNil)))) (sSeq (sSet 5 (mFz (mCall F__law_right_word (aCons (mVarE 2) (aCons (mVarE 3) (aCons (mBin oAdd (mK (.int 6)) (mCall F__law_draw (aCons (mVarE 2) (aCons (mK (.int 9)) aNil)))) aNil)))))) (sSeq (sIf (mNot (mTru (mCall F__law_judged (aCons (mVarE 2) (aCons (mVarE 4) (aCons (mVarE 3) (aCons (mFz (mLst aNil)) aNil))))))) (sRet (mK (.bl false))) sPass) (sFor (mFz (mCall F__law_bent_words (aCons (mVarE 2) (aCons (mVarE 3) (aCons (mVarE 5) aNil))))) (tdN 6) jdB))))))
abbrev L8 (ns : List Int) (o1 o2 o3 o4 o5 o6 o7 : Option UV) : SL := [some (.d (.rol (ns.map .int))), o1, o2, o3, o4, o5, o6, o7]
theorem turn (ns : List Int) (i : Nat) (hi : i < 1000) (h : HS) (hh : HC h) (o1 o2 o3 o4 o5 o6 o7 : Option UV) : ∃ a1 a2 a3 a4 a5 a6 h', turnF (tdN 1) tnB (.d (.int (i : Int))) (L8 ns o1 o2 o3 o4 o5 o6 o7) h = .nx (L8 ns a1 a2 a3 a4 a5 a6 o7) h' ∧ HC h' := by
  obtain ⟨h1, e1, c1⟩ := stock_cell ns i hi h (m := mVarE 1) (σ := L8 ns (some (.d (.int (i : Int)))) o2 o3 o4 o5 o6 o7) rfl rfl
  obtain ⟨p, rs, h2, ks, c2, e2⟩ := judge_world c1
  have e2' := mFz_ok (mCall1 (m := mVarE 2) (σ := L8 ns (some (.d (.int (i : Int)))) (some (.ref h.length)) o3 o4 o5 o6 o7) rfl rfl e2) (fz_d _)
  have e3 := mFz_ok (mCall1 (m := mVarE 3) (σ := L8 ns (some (.d (.int (i : Int)))) (some (.ref h.length)) (some (.d (kD p rs))) o4 o5 o6 o7) rfl rfl (kitchen_ok ks.k h2 (hc_cell hh c2 _))) (fz_d _)
  let σ4 : SL := LS ns h.length p rs (some (.d (.int (i : Int)))) o5 o6 o7
  obtain ⟨r, h3, r0, r1, e4, c3⟩ := drawL 9 c2 (by omega)
  have e4' := mBin_ok (g := oAdd) (m := mK (.int 6)) (σ := σ4) rfl (mCall2 (m := mVarE 2) (n := mK (.int 9)) (σ := σ4) rfl rfl ⟨rfl, rfl⟩ e4) (oAdd_int h3 _ _)
  obtain ⟨m, hm⟩ : ∃ m : Nat, 6 + r = (m : Int) := ⟨(6 + r).toNat, by omega⟩
  rw [hm] at e4'
  obtain ⟨W, h4, wok, wl, e5, c4⟩ := right_word ks c3 m (by omega)
  have e5' := mFz_ok (mCall3 (m := mVarE 2) (n := mVarE 3) (σ := σ4) rfl rfl e4' ⟨rfl, rfl, rfl⟩ e5) (fz_words W)
  let σ5 : SL := LS ns h.length p rs (some (.d (.int (i : Int)))) (some (.d (wordD W))) o6 o7
  have e6 := judged ks.k (.ref h.length) rfl [] (by simp) (fun _ z => nomatch z) h4
  have e6' := sIf_nt (a := sRet (mK (.bl false))) (mCall4 (m := mVarE 2) (n := mVarE 4) (p := mVarE 3) (q := mFz (mLst aNil)) (σ := σ5) (h := h4) rfl rfl rfl (mFz_ok (lst0 σ5 h4) (fz_own [])) ⟨rfl, rfl, rfl, rfl⟩ e6)
  obtain ⟨n, us, h5, g, c5, e7⟩ := bent_words ks wok c4
  obtain ⟨Ws, fw, wj⟩ := g.fz
  have e7' := mFz_ok (mCall3 (m := mVarE 2) (n := mVarE 3) (p := mVarE 5) (σ := σ5) (h := h4) rfl rfl rfl ⟨rfl, rfl, rfl⟩ e7) fw
  obtain ⟨o6', e8⟩ := words_loop ks.k ns h.length (some (.d (.int (i : Int)))) (some (.d (wordD W))) o7 h5 Ws o6 wj
  have e8' := (sFor_at (td := tdN 6) (b := jdB) e7' (frz_map wordD Ws)).trans e8
  refine ⟨some (.d (.int (i : Int))), some (.ref h.length), some (.d (kD p rs)), some (.d (insD p rs)), some (.d (wordD W)), o6', h5, (turn_at tnB 1 _ _ (L8 ns (some (.d (.int (i : Int)))) o2 o3 o4 o5 o6 o7) h rfl).trans ?_, hc_cell hh c5⟩
  refine Eq.trans (sSeq_nx (sSet_ok e1)) ?_
  refine Eq.trans (sSeq_nx (sSet_ok e2')) ?_
  refine Eq.trans (sSeq_nx (sSet_ok e3)) ?_
  refine Eq.trans (sSeq_nx (sSet_ok e5')) ?_
  refine Eq.trans (sSeq_nx e6') ?_
  exact e8'
theorem farK_ok {n x : Nat} (hn : 13 ≤ n ∧ n ≤ 60) (hx : 1 ≤ x ∧ x ≤ 2) : KOk 1 (farK n x) := by
  refine ⟨by omega, ⟨by show 1 ≤ 2; omega, by show 2 ≤ 6; omega⟩, fun t ht => ?_⟩
  rcases List.mem_cons.mp ht with rfl | ht
  · exact ⟨by show 0 ≤ (x : Int) ∧ (x : Int) ≤ 200; omega, by show 1 ≤ (n : Int) ∧ (n : Int) ≤ 60; omega, by show (0 : Int) ≤ 0 ∧ (0 : Int) ≤ 60; omega⟩
  · rw [List.mem_singleton.mp ht]
    decide
theorem fw_ok (first x last : Nat) (h : last ≤ 100) : Jok (fw first x last) := by
  refine ⟨by unfold fw; rw [farW_len]; omega, fun w hw => ?_⟩
  unfold fw farW at hw
  obtain ⟨i, _, rfl⟩ := List.mem_map.mp hw
  show ([_] : List Int).length ≤ 500
  simp
theorem law_true : ∀ ns : List Int, ns.length ≤ 63 → (∀ z ∈ ns, Builtin.Int.intBits z ≤ 1048576) → ∃ h2, F_law [.d (.rol (ns.map .int))] (tabs0.map fun p => .tab p.1 p.2) = .ok (.d (.bl true)) h2 := by
  intro ns _ _
  have hh0 : HC (tabs0.map fun p => .tab p.1 p.2) := fun _ => rfl
  generalize (tabs0.map fun p => Cel.tab p.1 p.2) = h0 at hh0
  obtain ⟨a1, a2, a3, a4, a5, a6, h1, e1, k1⟩ := turn ns 0 (by omega) h0 hh0 none none none none none none none
  obtain ⟨b1, b2, b3, b4, b5, b6, h2, e2, k2⟩ := turn ns 1 (by omega) h1 k1 a1 a2 a3 a4 a5 a6 none
  obtain ⟨d1, d2, d3, d4, d5, d6, h3, e3, k3⟩ := turn ns 2 (by omega) h2 k2 b1 b2 b3 b4 b5 b6 none
  obtain ⟨h4, e4, c4⟩ := stock_cell ns 3 (by omega) h3 (m := mK (.int 3)) (σ := L8 ns d1 d2 d3 d4 d5 d6 none) rfl rfl
  obtain ⟨n, x, first, h5, hn, hx, hf, c5, e5⟩ := far_words c4
  have kk := farK_ok hn hx
  have e5' := sAsg2 (i := 3) (j := 7) (mCall1 (m := mVarE 2) (σ := L8 ns d1 (some (.ref h3.length)) d3 d4 d5 d6 none) rfl rfl e5)
  let ws : DV := .lst [wordD (fw first x (first + n - 1)), wordD (fw first x (first + n))]
  have e6 := mFz_ok (mCall1 (m := mVarE 3) (σ := L8 ns d1 (some (.ref h3.length)) (some (.d (kD 1 (farK n x)))) d4 d5 d6 (some (.d ws))) rfl rfl (kitchen_ok kk h5 (hc_cell k3 c5 _))) (fz_d _)
  let σ6 : SL := LS ns h3.length 1 (farK n x) d1 d5 d6 (some (.d ws))
  have j0 := fw_ok first x (first + n - 1) (by omega)
  have j1 := fw_ok first x (first + n) (by omega)
  obtain ⟨o6', e7⟩ := words_loop kk ns h3.length d1 d5 (some (.d ws)) h5 [fw first x (first + n - 1), fw first x (first + n)] d6 fun V hV => by
    rcases List.mem_cons.mp hV with rfl | hV
    · exact j0
    · rw [List.mem_singleton.mp hV]; exact j1
  have e7' := (sFor_at (m := mVarE 7) (td := tdN 6) (b := jdB) (σ := σ6) (h := h5) (u := .d ws) rfl (frz_map wordD [fw first x (first + n - 1), fw first x (first + n)])).trans e7
  let σ7 : SL := LS ns h3.length 1 (farK n x) d1 d5 o6' (some (.d ws))
  have f0 := fault_ok kk (fw first x (first + n - 1)) j0.1 j0.2 h5
  have f1 := fault_ok kk (fw first x (first + n)) j1.1 j1.2 h5
  obtain ⟨i, j, q0⟩ := far_near hn hx hf
  have q1 := far_far hn hx hf
  rw [show (((farK n x).length : Nat) : Int) = 2 from rfl, q0] at f0
  rw [show (((farK n x).length : Nat) : Int) = 2 from rfl, q1] at f1
  have g0 := mBin_ok (g := oIsNot) (n := mK .non) (mCall2 (m := mVarE 3) (n := mBin oItem (mVar 7) (mK (.int 0))) (σ := σ7) (h := h5) rfl rfl ⟨rfl, rfl⟩ f0) rfl (w := .d (.bl true)) rfl
  have g1 := mBin_ok (g := oIs) (n := mK .non) (mCall2 (m := mVarE 3) (n := mBin oItem (mVar 7) (mK (.int 1))) (σ := σ7) (h := h5) rfl rfl ⟨rfl, rfl⟩ f1) rfl (w := .d (.bl true)) rfl
  refine ⟨h5, fnM_rt ?_⟩
  refine Eq.trans (sSeq_nx (σ1 := L8 ns d1 d2 d3 d4 d5 d6 none) (h1 := h3) ?_) ?_
  · refine Eq.trans (sForR_at (i := 0) (j := 3) (h1 := h0) (h2 := h0) rfl rfl (by omega)) ?_
    show loopL _ [UV.d (.int (0 : Int)), UV.d (.int (1 : Int)), UV.d (.int (2 : Int))] _ _ = _
    refine Eq.trans (loopL_nx e1) ?_
    refine Eq.trans (loopL_nx e2) ?_
    refine Eq.trans (loopL_nx e3) ?_
    rfl
  refine Eq.trans (sSeq_nx (sSet_ok e4)) ?_
  refine Eq.trans (sSeq_nx e5') ?_
  refine Eq.trans (sSeq_nx (sSet_ok e6)) ?_
  refine Eq.trans (sSeq_nx e7') ?_
  exact sRet_ok ((mAndV_ok g0).trans g1)
end MM.K04

open PySem PySem.W PyProof.Rows MM.K04
set_option maxHeartbeats 0 in
theorem PySem.Challenge.cw_neverlifted_k04_words_judged_row_by_row_holds : PySem.Challenge.rw_neverlifted_k04_words_judged_row_by_row.Holds := by
  w_on; o_law; k_head; (case hw => w_witness2)
  k_fill
  refine LamX.walk_ofTs (l := PySem.Challenge.rw_neverlifted_k04_words_judged_row_by_row) (n := 63) (k := 9) (x := "script") (CX := fun w => L2.CX pw w) rfl (by decide) rfl ⟨rfl, by decide, by decide⟩ (fun w h Y => PySem.W.kIn_of Y) ?F (fun _ _ _ _ _ ⟨_, _, _, _, _, _, _, _, _, _, _, _, z⟩ => z)
  case F =>
    intro w mg fa h Y KX G hmg
    refine' all_mk KX G hmg (fun P hP => nomatch hP) law_true ?a_Kitchen ?p1_Kitchen ?p2_Kitchen ?p3_Kitchen ?p4_Kitchen ?p5_Kitchen ?p6_Kitchen ?na_Kitchen_pace_number ?na_Kitchen_row_list ?a__law_stock ?l__law_stock ?c__law_stock ?k__law_stock ?a__law_draw ?l__law_draw ?c__law_draw ?k__law_draw ?a__law_built ?l__law_built ?c__law_built ?k__law_built ?a__law_far_words ?l__law_far_words ?c__law_far_words ?k__law_far_words ?a_full_rows ?l_full_rows ?c_full_rows ?k_full_rows ?a_check ?l_check ?c_check ?k_check ?a_check_each ?l_check_each ?c_check_each ?k_check_each ?a_check_rows ?l_check_rows ?c_check_rows ?k_check_rows ?a_Kitchen____init__ ?fn_Kitchen____init__ ?l_Kitchen____init__ ?c_Kitchen____init__ ?k_Kitchen____init__ ?a__law_as_kitchen ?l__law_as_kitchen ?c__law_as_kitchen ?k__law_as_kitchen ?a__law_judge_world ?l__law_judge_world ?c__law_judge_world ?k__law_judge_world ?a__law_all_rows ?l__law_all_rows ?c__law_all_rows ?k__law_all_rows ?a__law_spares ?l__law_spares ?c__law_spares ?k__law_spares ?a__law_windows ?l__law_windows ?c__law_windows ?k__law_windows ?a__law_row_after ?l__law_row_after ?c__law_row_after ?k__law_row_after ?a__law_right_word ?l__law_right_word ?c__law_right_word ?k__law_right_word ?a__law_too_much ?l__law_too_much ?c__law_too_much ?k__law_too_much ?a__law_wrong_form ?l__law_wrong_form ?c__law_wrong_form ?k__law_wrong_form ?a__law_bent_words ?l__law_bent_words ?c__law_bent_words ?k__law_bent_words ?a__law_entries ?l__law_entries ?c__law_entries ?k__law_entries ?a__law_wrong_row ?l__law_wrong_row ?c__law_wrong_row ?k__law_wrong_row ?a__law_word_fault ?l__law_word_fault ?c__law_word_fault ?k__law_word_fault ?a__law_matches ?l__law_matches ?c__law_matches ?k__law_matches ?a_Kitchen__many ?fn_Kitchen__many ?l_Kitchen__many ?c_Kitchen__many ?k_Kitchen__many ?a_Kitchen__check_station ?fn_Kitchen__check_station ?l_Kitchen__check_station ?c_Kitchen__check_station ?k_Kitchen__check_station ?a_Kitchen__window ?fn_Kitchen__window ?l_Kitchen__window ?c_Kitchen__window ?k_Kitchen__window ?a_Kitchen__spare ?fn_Kitchen__spare ?l_Kitchen__spare ?c_Kitchen__spare ?k_Kitchen__spare ?a_windows_of ?l_windows_of ?c_windows_of ?k_windows_of ?a_full_station ?l_full_station ?c_full_station ?k_full_station ?a_is_row ?l_is_row ?c_is_row ?k_is_row ?a_Kitchen__pace ?fn_Kitchen__pace ?l_Kitchen__pace ?c_Kitchen__pace ?k_Kitchen__pace ?a_judge_word ?l_judge_word ?c_judge_word ?k_judge_word ?a__law_judged ?l__law_judged ?c__law_judged ?k__law_judged ?a_law ?l_law ?c_law ?k_law ?a_LiftedError ?e_LiftedError ?eb_LiftedError ?es_LiftedError ?ex_LiftedError ?et_LiftedError ?ek_LiftedError ?eg_LiftedError ?ea_LiftedError ?ed_LiftedError ?ec_LiftedError ?em_LiftedError ?a_BadKitchen ?e_BadKitchen ?eb_BadKitchen ?es_BadKitchen ?ex_BadKitchen ?et_BadKitchen ?ek_BadKitchen ?eg_BadKitchen ?ea_BadKitchen ?ed_BadKitchen ?ec_BadKitchen ?em_BadKitchen ?a_TooMany ?e_TooMany ?eb_TooMany ?es_TooMany ?ex_TooMany ?et_TooMany ?ek_TooMany ?eg_TooMany ?ea_TooMany ?ed_TooMany ?ec_TooMany ?em_TooMany ?cn ?ct ?lg ?lr ?li ?ia_BadKitchen ?it_BadKitchen ?il_BadKitchen ?ic_BadKitchen ?ik_BadKitchen ?if_BadKitchen_what ?if_BadKitchen_station ?ia_TooMany ?it_TooMany ?il_TooMany ?ic_TooMany ?ik_TooMany ?if_TooMany_what ?a_LIMITS ?l_LIMITS ?kl_LIMITS ?d_LIMITS_0 ?d_LIMITS_1 ?d_LIMITS_2 ?d_LIMITS_3 ?b_ValueError ?b_abs ?b_bool ?b_dict ?b_int ?b_isinstance ?b_len ?b_list ?b_max ?b_min ?b_range ?b_sorted ?b_str ?b_sum ?b_tuple
    (case a_Kitchen => k_is); (case p1_Kitchen => k_is); (case p2_Kitchen => k_is); (case p3_Kitchen => k_is); (case p4_Kitchen => k_is); (case p5_Kitchen => k_is); (case p6_Kitchen => k_is); (case na_Kitchen_pace_number => k_is); (case na_Kitchen_row_list => k_is); (case a__law_stock => k_is); (case l__law_stock => k_is); (case c__law_stock => k_is); (case k__law_stock => k_is); (case a__law_draw => k_is); (case l__law_draw => k_is); (case c__law_draw => k_is); (case k__law_draw => k_is); (case a__law_built => k_is); (case l__law_built => k_is); (case c__law_built => k_is); (case k__law_built => k_is); (case a__law_far_words => k_is); (case l__law_far_words => k_is); (case c__law_far_words => k_is); (case k__law_far_words => k_is); (case a_full_rows => k_is); (case l_full_rows => k_is); (case c_full_rows => k_is); (case k_full_rows => k_is); (case a_check => k_is); (case l_check => k_is); (case c_check => k_is); (case k_check => k_is); (case a_check_each => k_is); (case l_check_each => k_is); (case c_check_each => k_is); (case k_check_each => k_is); (case a_check_rows => k_is); (case l_check_rows => k_is); (case c_check_rows => k_is); (case k_check_rows => k_is); (case a_Kitchen____init__ => k_is); (case fn_Kitchen____init__ => k_is); (case l_Kitchen____init__ => k_is); (case c_Kitchen____init__ => k_is); (case k_Kitchen____init__ => k_is); (case a__law_as_kitchen => k_is); (case l__law_as_kitchen => k_is); (case c__law_as_kitchen => k_is); (case k__law_as_kitchen => k_is); (case a__law_judge_world => k_is); (case l__law_judge_world => k_is); (case c__law_judge_world => k_is); (case k__law_judge_world => k_is); (case a__law_all_rows => k_is); (case l__law_all_rows => k_is); (case c__law_all_rows => k_is); (case k__law_all_rows => k_is); (case a__law_spares => k_is); (case l__law_spares => k_is); (case c__law_spares => k_is); (case k__law_spares => k_is); (case a__law_windows => k_is); (case l__law_windows => k_is); (case c__law_windows => k_is); (case k__law_windows => k_is); (case a__law_row_after => k_is); (case l__law_row_after => k_is); (case c__law_row_after => k_is); (case k__law_row_after => k_is); (case a__law_right_word => k_is); (case l__law_right_word => k_is); (case c__law_right_word => k_is); (case k__law_right_word => k_is); (case a__law_too_much => k_is); (case l__law_too_much => k_is); (case c__law_too_much => k_is); (case k__law_too_much => k_is); (case a__law_wrong_form => k_is); (case l__law_wrong_form => k_is); (case c__law_wrong_form => k_is); (case k__law_wrong_form => k_is); (case a__law_bent_words => k_is); (case l__law_bent_words => k_is); (case c__law_bent_words => k_is); (case k__law_bent_words => k_is); (case a__law_entries => k_is); (case l__law_entries => k_is); (case c__law_entries => k_is); (case k__law_entries => k_is); (case a__law_wrong_row => k_is); (case l__law_wrong_row => k_is); (case c__law_wrong_row => k_is); (case k__law_wrong_row => k_is); (case a__law_word_fault => k_is); (case l__law_word_fault => k_is); (case c__law_word_fault => k_is); (case k__law_word_fault => k_is); (case a__law_matches => k_is); (case l__law_matches => k_is); (case c__law_matches => k_is); (case k__law_matches => k_is); (case a_Kitchen__many => k_is); (case fn_Kitchen__many => k_is); (case l_Kitchen__many => k_is); (case c_Kitchen__many => k_is); (case k_Kitchen__many => k_is); (case a_Kitchen__check_station => k_is); (case fn_Kitchen__check_station => k_is); (case l_Kitchen__check_station => k_is); (case c_Kitchen__check_station => k_is); (case k_Kitchen__check_station => k_is); (case a_Kitchen__window => k_is); (case fn_Kitchen__window => k_is); (case l_Kitchen__window => k_is); (case c_Kitchen__window => k_is); (case k_Kitchen__window => k_is); (case a_Kitchen__spare => k_is); (case fn_Kitchen__spare => k_is); (case l_Kitchen__spare => k_is); (case c_Kitchen__spare => k_is); (case k_Kitchen__spare => k_is); (case a_windows_of => k_is); (case l_windows_of => k_is); (case c_windows_of => k_is); (case k_windows_of => k_is); (case a_full_station => k_is); (case l_full_station => k_is); (case c_full_station => k_is); (case k_full_station => k_is); (case a_is_row => k_is); (case l_is_row => k_is); (case c_is_row => k_is); (case k_is_row => k_is); (case a_Kitchen__pace => k_is); (case fn_Kitchen__pace => k_is); (case l_Kitchen__pace => k_is); (case c_Kitchen__pace => k_is); (case k_Kitchen__pace => k_is); (case a_judge_word => k_is); (case l_judge_word => k_is); (case c_judge_word => k_is); (case k_judge_word => k_is); (case a__law_judged => k_is); (case l__law_judged => k_is); (case c__law_judged => k_is); (case k__law_judged => k_is); (case a_law => k_is); (case l_law => k_is); (case c_law => k_is); (case k_law => k_is); (case a_LiftedError => k_is); (case e_LiftedError => k_is); (case eb_LiftedError => first | rfl | kernel_rfl | decide +kernel); (case es_LiftedError => k_is); (case ex_LiftedError => k_is); (case et_LiftedError => k_is); (case ek_LiftedError => k_is); (case eg_LiftedError => k_is); (case ea_LiftedError => k_is); (case ed_LiftedError => k_is); (case ec_LiftedError => k_is); (case em_LiftedError => k_is); (case a_BadKitchen => k_is); (case e_BadKitchen => k_is); (case eb_BadKitchen => first | rfl | kernel_rfl | decide +kernel); (case es_BadKitchen => k_is); (case ex_BadKitchen => k_is); (case et_BadKitchen => k_is); (case ek_BadKitchen => k_is); (case eg_BadKitchen => k_is); (case ea_BadKitchen => k_is); (case ed_BadKitchen => k_is); (case ec_BadKitchen => k_is); (case em_BadKitchen => k_is); (case a_TooMany => k_is); (case e_TooMany => k_is); (case eb_TooMany => first | rfl | kernel_rfl | decide +kernel); (case es_TooMany => k_is); (case ex_TooMany => k_is); (case et_TooMany => k_is); (case ek_TooMany => k_is); (case eg_TooMany => k_is); (case ea_TooMany => k_is); (case ed_TooMany => k_is); (case ec_TooMany => k_is); (case em_TooMany => k_is); (case cn => k_is); (case ct => k_is); (case lg => k_is); (case lr => k_is); (case li => k_is); (case ia_BadKitchen => k_is); (case it_BadKitchen => k_is); (case il_BadKitchen => k_is); (case ic_BadKitchen => k_is); (case ik_BadKitchen => k_is); (case if_BadKitchen_what => k_is); (case if_BadKitchen_station => k_is); (case ia_TooMany => k_is); (case it_TooMany => k_is); (case il_TooMany => k_is); (case ic_TooMany => k_is); (case ik_TooMany => k_is); (case if_TooMany_what => k_is); (case a_LIMITS => k_is); (case l_LIMITS => k_is); (case kl_LIMITS => repeat (first | exact trivial | refine ⟨⟨_, _, rfl, rfl⟩, ?_⟩)); (case d_LIMITS_0 => k_is); (case d_LIMITS_1 => k_is); (case d_LIMITS_2 => k_is); (case d_LIMITS_3 => k_is); (case b_ValueError => k_is); (case b_abs => k_is); (case b_bool => k_is); (case b_dict => k_is); (case b_int => k_is); (case b_isinstance => k_is); (case b_len => k_is); (case b_list => k_is); (case b_max => k_is); (case b_min => k_is); (case b_range => k_is); (case b_sorted => k_is); (case b_str => k_is); (case b_sum => k_is); (case b_tuple => k_is)

