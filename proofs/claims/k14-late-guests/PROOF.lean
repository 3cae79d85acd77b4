import PyProof.Rows.All
import Wide.All
import OpenK.AllK
import Wide.FinOn
import HandS.ForMost
import HandS.Exc
import HandS.WordsExc
import HandS.Lambda
import HandS.TupAny
import HandS.IsInst
import HandS.SortInts
import HandS.Flow
import PyProof.WalksMore
import HandS.More
import HandS.ExcOwn
import HandS.CallSlots
import HandS.List
import HandS.TryMany
import HandS.ExcValue
import HandS.ExcIs
import HandS.ExcField
import HandS.ExcInit
import KE.KExcIs
import HandS.Nested
import HandS.EndTab
import KE.KNestM
import PySem.Challenge.RW_neverlifted_k14_late_guests_come_in_orde
set_option Elab.async false
set_option linter.all false
set_option maxRecDepth 100000
set_option maxHeartbeats 4000000
/-! MM0: values without addresses, and how they lie in the abstract heap. -/
namespace MM
open PySem PySem.Spec PyProof.Rows L2

/-- a value that never changes -/
inductive DV where
  | non | bl (b : Bool) | int (i : Int) | str (x : Str)
  | tup (xs : List DV) | lst (xs : List DV) | rol (xs : List DV)
  | dK (kvs : List (Key × DV)) | dT (kvs : List (List Key × DV))
  | ins (C : Str) (fs : List (Str × DV))
  | glo (x : Str) | ty (n : String)
  | exn (C : Str) (fs : List (Str × DV))
/-- a caught exception of the class cls stands at a, its dict at d -/
def caught (a : Addr) (cls : Value) (d : Option Addr) : HO := .ext fun h => ∃ (ob : Obj) (vs : Array Value), h.get? a = some ob ∧ Zc cls d ob ∧ ob.data = .fields vs
/-- a value of a running def: data, a cell of the store, a list or dict that nobody else knows -/
inductive UV where
  | d (x : DV) | ref (i : Nat)
  | tp (xs : List UV) | fl (xs : List UV) | own (xs : List UV) | odK (kvs : List (Key × UV)) | odT (kvs : List (List Key × UV))
  | clo (i : Nat) (caps : List UV)
/-- what a cell of the store holds -/
inductive Cel where
  | lst (xs : List UV) | obj (C : Str) (fs : List (Str × UV)) | dK (kvs : List (Key × UV)) | dT (kvs : List (List Key × UV))
  | tab (P : Addr) (q : Str)
abbrev HS := List Cel
structure Exn where
  cls : Str
  fs : List (Str × DV)
inductive MR (α : Type) where
  | ok (a : α) (h : HS) | err (e : Exn) (h : HS) | bad
/-- a lambda of the text: its own words, the names that it catches -/
structure CloI where
  params : Arguments
  body : Expr
  scope : Scope
  qual : Str
  caps : List Str
structure Cg where
  K : PySem.W.Frag
  mg : Str → Option Value
  ci : Nat → Option CloI
/-- the lambda's object at f -/
def LmO (f : Addr) (I : CloI) (cl : List (Str × Addr)) (c' : Addr) : HO := .ext fun h => ∃ pm ctv, h.get? f = some (PySem.W.kla_obj "<lambda>" I.qual I.params I.body I.scope cl pm c' ctv)
/-- a caught cell's object -/
def CelO (a : Addr) (o : Obj) : HO := .frz o (.own a)
/-- the cells that a lambda caught -/
structure CapA (Z : Addr → Prop) (H : Hp) (cl : List (Str × Addr)) (ys : List Str) (vs : List V) : Prop where
  len : vs.length = ys.length
  all : ∀ y a, cl.lookup y = some a → Z a ∧ ∃ o w, H a = some (CelO a o) ∧ o.data = .cell w
  inj : ∀ x y a, cl.lookup x = some a → cl.lookup y = some a → x = y
  has : ∀ (j : Nat) y v, ys[j]? = some y → vs[j]? = some v → ∃ a o u, cl.lookup y = some a ∧ H a = some (CelO a o) ∧ o.data = .cell (some u) ∧ RelV v u
theorem CapA.mono {Z Z' : Addr → Prop} {H H' : Hp} (hz : ∀ a, Z a → Z' a) (hk : ∀ a o, Z a → H a = some o → H' a = some o) {cl : List (Str × Addr)} {ys : List Str} {vs : List V} (h : CapA Z H cl ys vs) : CapA Z' H' cl ys vs :=
  ⟨h.len, fun y a e => let ⟨z, o, w, q, d⟩ := h.all y a e; ⟨hz a z, o, w, hk a _ z q, d⟩, h.inj, fun j y v e1 e2 => let ⟨a, o, u, q1, q2, q3⟩ := h.has j y v e1 e2; ⟨a, o, u, q1, hk a _ (h.all y a q1).1 q2, q3⟩⟩

def FzL (c : Cg) (Z : Addr → Prop) (H : Hp) (a : Addr) (xs : List V) : Prop := (Z a ∧ Rd H a (.lst xs)) ∨ ∀ H', SqL c.K H' a xs
def FzT (c : Cg) (Z : Addr → Prop) (H : Hp) (a : Addr) (xs : List V) : Prop := (Z a ∧ Rd H a (.tup xs)) ∨ ∀ H', SqT c.K H' a xs
theorem FzL.sq {c : Cg} {Z : Addr → Prop} {H : Hp} {a : Addr} {xs : List V} (h : FzL c Z H a xs) : SqL c.K H a xs := h.elim (fun h => .inl h.2) (fun h => h H)
theorem FzT.sq {c : Cg} {Z : Addr → Prop} {H : Hp} {a : Addr} {xs : List V} (h : FzT c Z H a xs) : SqT c.K H a xs := h.elim (fun h => .inl h.2) (fun h => h H)

section
variable (c : Cg) (Z : Addr → Prop) (H : Hp)
mutual
/-- frozen data in the heap -/
def RD : DV → V → Prop
  | .non, v => v = .non
  | .bl b, v => v = .bl b
  | .int i, v => v = .int i
  | .str x, v => v = .str x
  | .ty n, v => v = .ty n
  | .glo x, v => ∃ a, v = .ref a ∧ c.mg x = some (.ref a)
  | .tup xs, v => ∃ a vs, v = .ref a ∧ FzT c Z H a vs ∧ RDl xs vs
  | .lst xs, v => ∃ a vs, v = .ref a ∧ Z a ∧ H a = some (.lst vs) ∧ RDl xs vs
  | .rol xs, v => ∃ a vs, v = .ref a ∧ FzL c Z H a vs ∧ RDl xs vs
  | .dK kvs, v => ∃ a kws, v = .ref a ∧ Z a ∧ H a = some (.dK kws) ∧ RDk kvs kws
  | .dT kvs, v => ∃ a kws, v = .ref a ∧ Z a ∧ H a = some (.dT kws) ∧ RDt kvs kws
  | .ins C fs, v => ∃ a dx Ca gs, v = .ref a ∧ c.mg C = some (.ref Ca) ∧ Z a ∧ H a = some (.ins Ca dx gs) ∧ RDf fs gs
  | .exn C fs, v => ∃ a d Ca gs, v = .ref a ∧ c.mg C = some (.ref Ca) ∧ Z a ∧ H a = some (caught a (.ref Ca) (some d)) ∧ Z d ∧ H d = some (.xd gs) ∧ RDf fs gs
def RDl : List DV → List V → Prop
  | [], vs => vs = []
  | x :: xs, vs => ∃ v r, vs = v :: r ∧ RD x v ∧ RDl xs r
def RDk : List (Key × DV) → List (Key × V) → Prop
  | [], vs => vs = []
  | (k, x) :: xs, vs => ∃ v r, vs = (k, v) :: r ∧ RD x v ∧ RDk xs r
def RDt : List (List Key × DV) → List (List Key × V) → Prop
  | [], vs => vs = []
  | (k, x) :: xs, vs => ∃ v r, vs = (k, v) :: r ∧ RD x v ∧ RDt xs r
def RDf : List (Str × DV) → List (Str × V) → Prop
  | [], vs => vs = []
  | (k, x) :: xs, vs => ∃ v r, vs = (k, v) :: r ∧ RD x v ∧ RDf xs r
end
variable (ρ : List Addr)
mutual
/-- a value, and the addresses that it owns -/
def RU : UV → V → List Addr → Prop
  | .d x, v, F => F = [] ∧ RD c Z H x v
  | .ref i, v, F => F = [] ∧ ∃ a, ρ[i]? = some a ∧ v = .ref a
  | .tp xs, v, F => ∃ a vs, v = .ref a ∧ Z a ∧ Rd H a (.tup vs) ∧ RUl xs vs F
  | .fl xs, v, F => ∃ a vs, v = .ref a ∧ Z a ∧ H a = some (.lst vs) ∧ RUl xs vs F
  | .own xs, v, F => ∃ a vs G, v = .ref a ∧ H a = some (.lst vs) ∧ F = a :: G ∧ RUl xs vs G
  | .odK kvs, v, F => ∃ a kws G, v = .ref a ∧ H a = some (.dK kws) ∧ F = a :: G ∧ RUk kvs kws G
  | .odT kvs, v, F => ∃ a kws G, v = .ref a ∧ H a = some (.dT kws) ∧ F = a :: G ∧ RUt kvs kws G
  | .clo i caps, v, F => F = [] ∧ ∃ I f c' cl vs, c.ci i = some I ∧ v = .ref f ∧ Z f ∧ H f = some (LmO f I cl c') ∧ Z c' ∧ H c' = some (LamX.CodeO c' I.qual) ∧ CapA Z H cl I.caps vs ∧ RUl caps vs []
def RUl : List UV → List V → List Addr → Prop
  | [], vs, F => vs = [] ∧ F = []
  | x :: xs, vs, F => ∃ v r F1 F2, vs = v :: r ∧ F = F1 ++ F2 ∧ RU x v F1 ∧ RUl xs r F2
def RUk : List (Key × UV) → List (Key × V) → List Addr → Prop
  | [], vs, F => vs = [] ∧ F = []
  | (k, x) :: xs, vs, F => ∃ v r F1 F2, vs = (k, v) :: r ∧ F = F1 ++ F2 ∧ RU x v F1 ∧ RUk xs r F2
def RUt : List (List Key × UV) → List (List Key × V) → List Addr → Prop
  | [], vs, F => vs = [] ∧ F = []
  | (k, x) :: xs, vs, F => ∃ v r F1 F2, vs = (k, v) :: r ∧ F = F1 ++ F2 ∧ RU x v F1 ∧ RUt xs r F2
end
def RUf : List (Str × UV) → List (Str × V) → List Addr → Prop
  | [], vs, F => vs = [] ∧ F = []
  | (k, x) :: xs, vs, F => ∃ v r F1 F2, vs = (k, v) :: r ∧ F = F1 ++ F2 ∧ RU c Z H ρ x v F1 ∧ RUf xs r F2
end

theorem Rd.mono {H H' : Hp} {a : Addr} {u : HO} (hk : ∀ o, H a = some o → H' a = some o) (h : Rd H a u) : Rd H' a u := h.elim (fun h => .inl (hk _ h)) (fun ⟨o, h⟩ => .inr ⟨o, hk _ h⟩)
section
variable {c : Cg} {Z Z' : Addr → Prop} {H H' : Hp}
theorem FzL.mono (hz : ∀ a, Z a → Z' a) (hk : ∀ a o, Z a → H a = some o → H' a = some o) {a : Addr} {xs : List V} (h : FzL c Z H a xs) : FzL c Z' H' a xs :=
  h.elim (fun h => .inl ⟨hz a h.1, Rd.mono (hk a · h.1) h.2⟩) .inr
theorem FzT.mono (hz : ∀ a, Z a → Z' a) (hk : ∀ a o, Z a → H a = some o → H' a = some o) {a : Addr} {xs : List V} (h : FzT c Z H a xs) : FzT c Z' H' a xs :=
  h.elim (fun h => .inl ⟨hz a h.1, Rd.mono (hk a · h.1) h.2⟩) .inr
section
variable (hz : ∀ a, Z a → Z' a) (hk : ∀ a o, Z a → H a = some o → H' a = some o)
include hz hk
mutual
theorem RD.mono : ∀ {x : DV} {v : V}, RD c Z H x v → RD c Z' H' x v
  | .non, _, h => h
  | .bl _, _, h => h
  | .int _, _, h => h
  | .str _, _, h => h
  | .ty _, _, h => h
  | .glo _, _, h => h
  | .tup _, _, ⟨a, vs, e, f, r⟩ => ⟨a, vs, e, f.mono hz hk, RDl.mono r⟩
  | .lst _, _, ⟨a, vs, e, z, h, r⟩ => ⟨a, vs, e, hz _ z, hk _ _ z h, RDl.mono r⟩
  | .rol _, _, ⟨a, vs, e, f, r⟩ => ⟨a, vs, e, f.mono hz hk, RDl.mono r⟩
  | .dK _, _, ⟨a, vs, e, z, h, r⟩ => ⟨a, vs, e, hz _ z, hk _ _ z h, RDk.mono r⟩
  | .dT _, _, ⟨a, vs, e, z, h, r⟩ => ⟨a, vs, e, hz _ z, hk _ _ z h, RDt.mono r⟩
  | .ins _ _, _, ⟨a, dx, Ca, gs, e, m, z, h, r⟩ => ⟨a, dx, Ca, gs, e, m, hz _ z, hk _ _ z h, RDf.mono r⟩
  | .exn _ _, _, ⟨a, d, Ca, gs, e, m, z, h, z2, h2, r⟩ => ⟨a, d, Ca, gs, e, m, hz _ z, hk _ _ z h, hz _ z2, hk _ _ z2 h2, RDf.mono r⟩
theorem RDl.mono : ∀ {xs : List DV} {vs : List V}, RDl c Z H xs vs → RDl c Z' H' xs vs
  | [], _, h => h
  | _ :: _, _, ⟨v, r, e, h, t⟩ => ⟨v, r, e, RD.mono h, RDl.mono t⟩
theorem RDk.mono : ∀ {xs : List (Key × DV)} {vs : List (Key × V)}, RDk c Z H xs vs → RDk c Z' H' xs vs
  | [], _, h => h
  | (_, _) :: _, _, ⟨v, r, e, h, t⟩ => ⟨v, r, e, RD.mono h, RDk.mono t⟩
theorem RDt.mono : ∀ {xs : List (List Key × DV)} {vs : List (List Key × V)}, RDt c Z H xs vs → RDt c Z' H' xs vs
  | [], _, h => h
  | (_, _) :: _, _, ⟨v, r, e, h, t⟩ => ⟨v, r, e, RD.mono h, RDt.mono t⟩
theorem RDf.mono : ∀ {xs : List (Str × DV)} {vs : List (Str × V)}, RDf c Z H xs vs → RDf c Z' H' xs vs
  | [], _, h => h
  | (_, _) :: _, _, ⟨v, r, e, h, t⟩ => ⟨v, r, e, RD.mono h, RDf.mono t⟩
end
end
variable {ρ ρ' : List Addr}
section
variable (hr : ∀ (i : Nat) a, ρ[i]? = some a → ρ'[i]? = some a) (hz : ∀ a, Z a → Z' a) (hk : ∀ a o, Z a → H a = some o → H' a = some o)
include hr hz hk
mutual
theorem RU.mono : ∀ {x : UV} {v : V} {F : List Addr}, (∀ a ∈ F, ∀ o, H a = some o → H' a = some o) → RU c Z H ρ x v F → RU c Z' H' ρ' x v F
  | .d _, _, _, _, ⟨e, h⟩ => ⟨e, RD.mono hz hk h⟩
  | .ref _, _, _, _, ⟨e, a, h, q⟩ => ⟨e, a, hr _ _ h, q⟩
  | .tp _, _, _, f, ⟨a, vs, e, z, h, r⟩ => ⟨a, vs, e, hz _ z, Rd.mono (hk a · z) h, RUl.mono f r⟩
  | .fl _, _, _, f, ⟨a, vs, e, z, h, r⟩ => ⟨a, vs, e, hz _ z, hk _ _ z h, RUl.mono f r⟩
  | .own _, _, _, f, ⟨a, vs, G, e, h, eF, r⟩ => ⟨a, vs, G, e, f a (by rw [eF]; exact List.mem_cons_self) _ h, eF, RUl.mono (fun b hb => f b (by rw [eF]; exact List.mem_cons_of_mem _ hb)) r⟩
  | .odK _, _, _, f, ⟨a, vs, G, e, h, eF, r⟩ => ⟨a, vs, G, e, f a (by rw [eF]; exact List.mem_cons_self) _ h, eF, RUk.mono (fun b hb => f b (by rw [eF]; exact List.mem_cons_of_mem _ hb)) r⟩
  | .odT _, _, _, f, ⟨a, vs, G, e, h, eF, r⟩ => ⟨a, vs, G, e, f a (by rw [eF]; exact List.mem_cons_self) _ h, eF, RUt.mono (fun b hb => f b (by rw [eF]; exact List.mem_cons_of_mem _ hb)) r⟩
  | .clo _ _, _, _, _, ⟨e, I, f, c', cl, vs, h1, h2, h3, h4, h5, h6, h7, r⟩ => ⟨e, I, f, c', cl, vs, h1, h2, hz _ h3, hk _ _ h3 h4, hz _ h5, hk _ _ h5 h6, h7.mono hz hk, RUl.mono (fun _ z => absurd z (by simp)) r⟩
theorem RUl.mono : ∀ {xs : List UV} {vs : List V} {F : List Addr}, (∀ a ∈ F, ∀ o, H a = some o → H' a = some o) → RUl c Z H ρ xs vs F → RUl c Z' H' ρ' xs vs F
  | [], _, _, _, h => h
  | _ :: _, _, _, f, ⟨v, r, F1, F2, e, eF, h, t⟩ => ⟨v, r, F1, F2, e, eF, RU.mono (fun b hb => f b (by rw [eF]; exact List.mem_append_left _ hb)) h, RUl.mono (fun b hb => f b (by rw [eF]; exact List.mem_append_right _ hb)) t⟩
theorem RUk.mono : ∀ {xs : List (Key × UV)} {vs : List (Key × V)} {F : List Addr}, (∀ a ∈ F, ∀ o, H a = some o → H' a = some o) → RUk c Z H ρ xs vs F → RUk c Z' H' ρ' xs vs F
  | [], _, _, _, h => h
  | (_, _) :: _, _, _, f, ⟨v, r, F1, F2, e, eF, h, t⟩ => ⟨v, r, F1, F2, e, eF, RU.mono (fun b hb => f b (by rw [eF]; exact List.mem_append_left _ hb)) h, RUk.mono (fun b hb => f b (by rw [eF]; exact List.mem_append_right _ hb)) t⟩
theorem RUt.mono : ∀ {xs : List (List Key × UV)} {vs : List (List Key × V)} {F : List Addr}, (∀ a ∈ F, ∀ o, H a = some o → H' a = some o) → RUt c Z H ρ xs vs F → RUt c Z' H' ρ' xs vs F
  | [], _, _, _, h => h
  | (_, _) :: _, _, _, f, ⟨v, r, F1, F2, e, eF, h, t⟩ => ⟨v, r, F1, F2, e, eF, RU.mono (fun b hb => f b (by rw [eF]; exact List.mem_append_left _ hb)) h, RUt.mono (fun b hb => f b (by rw [eF]; exact List.mem_append_right _ hb)) t⟩
end
theorem RUf.mono : ∀ {xs : List (Str × UV)} {vs : List (Str × V)} {F : List Addr}, (∀ a ∈ F, ∀ o, H a = some o → H' a = some o) → RUf c Z H ρ xs vs F → RUf c Z' H' ρ' xs vs F
  | [], _, _, _, h => h
  | (_, _) :: _, _, _, f, ⟨v, r, F1, F2, e, eF, h, t⟩ => ⟨v, r, F1, F2, e, eF, RU.mono hr hz hk (fun b hb => f b (by rw [eF]; exact List.mem_append_left _ hb)) h, RUf.mono (fun b hb => f b (by rw [eF]; exact List.mem_append_right _ hb)) t⟩
end
end

/-! ### the slots, the store -/
/-- a cell at its address -/
def RC (c : Cg) (Z : Addr → Prop) (H : Hp) (ρ : List Addr) : Cel → Addr → List Addr → Prop
  | .lst xs, a, F => ∃ vs G, H a = some (.lst vs) ∧ F = a :: G ∧ RUl c Z H ρ xs vs G
  | .dK kvs, a, F => ∃ kws G, H a = some (.dK kws) ∧ F = a :: G ∧ RUk c Z H ρ kvs kws G
  | .dT kvs, a, F => ∃ kws G, H a = some (.dT kws) ∧ F = a :: G ∧ RUt c Z H ρ kvs kws G
  | .obj C fs, a, F => ∃ Ca dx gs G, c.mg C = some (.ref Ca) ∧ H a = some (.ins Ca dx gs) ∧ F = a :: G ∧ RUf c Z H ρ fs gs G
  | .tab P q, a, F => a = P ∧ F = [P] ∧ ∃ ps : Array Value, H P = some (.tbl ps) ∧ TriplesOk ps.toList ∧ ∀ (pos : Pos) (cv : Value), codeAmong pos ps.toList = some cv → ∃ c', cv = .ref c' ∧ Z c' ∧ H c' = some (LamX.CodeO c' q)
/-- the store h at the addresses l; ρ the whole list -/
def RHl (c : Cg) (Z : Addr → Prop) (H : Hp) (ρ : List Addr) : HS → List Addr → List Addr → Prop
  | [], l, F => l = [] ∧ F = []
  | x :: h, l, F => ∃ a r F1 F2, l = a :: r ∧ F = F1 ++ F2 ∧ RC c Z H ρ x a F1 ∧ RHl c Z H ρ h r F2
abbrev RH (c : Cg) (Z : Addr → Prop) (H : Hp) (ρ : List Addr) (h : HS) (F : List Addr) : Prop := RHl c Z H ρ h ρ F
abbrev SL := List (Option UV)
def RS (c : Cg) (Z : Addr → Prop) (H : Hp) (ρ : List Addr) : SL → L2.St → List Addr → Prop
  | [], l, F => l = [] ∧ F = []
  | none :: s, l, F => ∃ o r, l = o :: r ∧ RS c Z H ρ s r F
  | some x :: s, l, F => ∃ v r F1 F2, l = some v :: r ∧ F = F1 ++ F2 ∧ RU c Z H ρ x v F1 ∧ RS c Z H ρ s r F2
section
variable {c : Cg} {Z Z' : Addr → Prop} {H H' : Hp} {ρ ρ' : List Addr}
variable (hr : ∀ (i : Nat) a, ρ[i]? = some a → ρ'[i]? = some a) (hz : ∀ a, Z a → Z' a) (hk : ∀ a o, Z a → H a = some o → H' a = some o)
include hr hz hk
theorem RS.mono : ∀ {s : SL} {l : L2.St} {F : List Addr}, (∀ a ∈ F, ∀ o, H a = some o → H' a = some o) → RS c Z H ρ s l F → RS c Z' H' ρ' s l F
  | [], _, _, _, h => h
  | none :: _, _, _, f, ⟨o, r, e, t⟩ => ⟨o, r, e, RS.mono f t⟩
  | some _ :: _, _, _, f, ⟨v, r, F1, F2, e, eF, h, t⟩ => ⟨v, r, F1, F2, e, eF, RU.mono hr hz hk (fun b hb => f b (by rw [eF]; exact List.mem_append_left _ hb)) h, RS.mono (fun b hb => f b (by rw [eF]; exact List.mem_append_right _ hb)) t⟩
theorem RC.mono : ∀ {x : Cel} {a : Addr} {F : List Addr}, (∀ a ∈ F, ∀ o, H a = some o → H' a = some o) → RC c Z H ρ x a F → RC c Z' H' ρ' x a F
  | .lst _, _, _, f, ⟨vs, G, h, e, r⟩ => ⟨vs, G, f _ (by rw [e]; exact List.mem_cons_self) _ h, e, RUl.mono hr hz hk (fun b hb => f b (by rw [e]; exact List.mem_cons_of_mem _ hb)) r⟩
  | .dK _, _, _, f, ⟨vs, G, h, e, r⟩ => ⟨vs, G, f _ (by rw [e]; exact List.mem_cons_self) _ h, e, RUk.mono hr hz hk (fun b hb => f b (by rw [e]; exact List.mem_cons_of_mem _ hb)) r⟩
  | .dT _, _, _, f, ⟨vs, G, h, e, r⟩ => ⟨vs, G, f _ (by rw [e]; exact List.mem_cons_self) _ h, e, RUt.mono hr hz hk (fun b hb => f b (by rw [e]; exact List.mem_cons_of_mem _ hb)) r⟩
  | .obj _ _, _, _, f, ⟨Ca, dx, gs, G, m, h, e, r⟩ => ⟨Ca, dx, gs, G, m, f _ (by rw [e]; exact List.mem_cons_self) _ h, e, RUf.mono hr hz hk (fun b hb => f b (by rw [e]; exact List.mem_cons_of_mem _ hb)) r⟩
  | .tab _ _, _, _, f, ⟨e, eF, ps, h, t, r⟩ => ⟨e, eF, ps, f _ (by rw [eF]; exact List.mem_cons_self) _ h, t, fun pos cv q => let ⟨c', e1, e2, e3⟩ := r pos cv q; ⟨c', e1, hz _ e2, hk _ _ e2 e3⟩⟩
theorem RHl.mono : ∀ {x : HS} {l : List Addr} {F : List Addr}, (∀ a ∈ F, ∀ o, H a = some o → H' a = some o) → RHl c Z H ρ x l F → RHl c Z' H' ρ' x l F
  | [], _, _, _, h => h
  | _ :: _, _, _, f, ⟨v, r, F1, F2, e, eF, h, t⟩ => ⟨v, r, F1, F2, e, eF, RC.mono hr hz hk (fun b hb => f b (by rw [eF]; exact List.mem_append_left _ hb)) h, RHl.mono (fun b hb => f b (by rw [eF]; exact List.mem_append_right _ hb)) t⟩
end

/-! ### the world: cells' addresses, what is frozen, what may change -/
structure Wd where
  ρ : List Addr
  Z : Addr → Prop
  F : List Addr
structure WOk (w : Wd) (H : Hp) : Prop where
  nd : w.F.Nodup
  sep : ∀ a ∈ w.F, ¬ w.Z a
  trF : ∀ a ∈ w.F, H a ≠ none
  trZ : ∀ a, w.Z a → H a ≠ none
structure Ext (w : Wd) (H : Hp) (w' : Wd) (H' : Hp) : Prop where
  rho : ∀ (i : Nat) a, w.ρ[i]? = some a → w'.ρ[i]? = some a
  z : ∀ a, w.Z a → w'.Z a
  keep : ∀ a o, H a = some o → a ∉ w.F → H' a = some o
  new : ∀ a, w'.Z a ∨ a ∈ w'.F → w.Z a ∨ a ∈ w.F ∨ H a = none
  there : ∀ a, H a ≠ none → H' a ≠ none
theorem Ext.refl {w : Wd} {H : Hp} : Ext w H w H := ⟨fun _ _ h => h, fun _ h => h, fun _ _ h _ => h, fun _ h => h.elim .inl fun h => .inr (.inl h), fun _ h => h⟩
theorem Ext.trans {w w1 w2 : Wd} {H H1 H2 : Hp} (a : Ext w H w1 H1) (ok : WOk w1 H1) (b : Ext w1 H1 w2 H2) : Ext w H w2 H2 where
  rho := fun i x h => b.rho i x (a.rho i x h)
  z := fun x h => b.z x (a.z x h)
  keep := fun x o h n => b.keep x o (a.keep x o h n) fun hf => by
    rcases a.new x (.inr hf) with z | z | z
    · exact ok.sep x hf (a.z x z)
    · exact n z
    · rw [h] at z; cases z
  new := fun x h => by
    rcases b.new x h with z | z | z
    · exact a.new x (.inl z)
    · exact a.new x (.inr z)
    · by_cases q : H x = none
      · exact .inr (.inr q)
      · exact absurd z (a.there x q)
  there := fun x h => b.there x (a.there x h)
/-- less may change in the end -/
theorem Ext.less {w : Wd} {H H' : Hp} {ρ' : List Addr} {Z' : Addr → Prop} {F' F'' : List Addr} (a : Ext w H ⟨ρ', Z', F'⟩ H') (h : ∀ x ∈ F'', x ∈ F') : Ext w H ⟨ρ', Z', F''⟩ H' :=
  ⟨a.rho, a.z, a.keep, fun x hx => a.new x (hx.elim .inl fun q => .inr (h x q)), a.there⟩
theorem WOk.less {H : Hp} {ρ : List Addr} {Z : Addr → Prop} {F F' : List Addr} (a : WOk ⟨ρ, Z, F⟩ H) (h : F'.Sublist F) : WOk ⟨ρ, Z, F'⟩ H :=
  ⟨a.nd.sublist h, fun x hx => a.sep x (h.subset hx), fun x hx => a.trF x (h.subset hx), a.trZ⟩
/-- more may have changed from the start -/
theorem Ext.more {H H' : Hp} {ρ : List Addr} {Z : Addr → Prop} {F F' : List Addr} {ρ' : List Addr} {Z' : Addr → Prop} (a : Ext ⟨ρ, Z, F⟩ H ⟨ρ', Z', F'⟩ H') (G : List Addr) : Ext ⟨ρ, Z, G ++ F⟩ H ⟨ρ', Z', G ++ F'⟩ H' :=
  ⟨a.rho, a.z, fun x o h n => a.keep x o h fun q => n (List.mem_append_right _ q), fun x hx => by
    rcases hx with q | q
    · rcases a.new x (.inl q) with z | z | z
      · exact .inl z
      · exact .inr (.inl (List.mem_append_right _ z))
      · exact .inr (.inr z)
    · rcases List.mem_append.mp q with q | q
      · exact .inr (.inl (List.mem_append_left _ q))
      · rcases a.new x (.inr q) with z | z | z
        · exact .inl z
        · exact .inr (.inl (List.mem_append_right _ z))
        · exact .inr (.inr z), a.there⟩
/-- what stands aside stays well apart -/
theorem WOk.aside {ρ ρ' : List Addr} {Z Z' : Addr → Prop} {F F' G : List Addr} {H H' : Hp} (ok : WOk ⟨ρ, Z, G ++ F⟩ H) (a : Ext ⟨ρ, Z, F⟩ H ⟨ρ', Z', F'⟩ H') (ok' : WOk ⟨ρ', Z', F'⟩ H') : WOk ⟨ρ', Z', G ++ F'⟩ H' := by
  have nd := List.nodup_append.mp ok.nd
  have notIn : ∀ x ∈ G, ¬ (Z' x ∨ x ∈ F') := fun x hx q => by
    rcases a.new x q with z | z | z
    · exact ok.sep x (List.mem_append_left _ hx) z
    · exact nd.2.2 x hx x z rfl
    · exact ok.trF x (List.mem_append_left _ hx) z
  refine ⟨List.nodup_append.mpr ⟨nd.1, ok'.nd, fun x hx y hy e => notIn x hx (.inr (e ▸ hy))⟩, fun x hx => ?_, fun x hx => ?_, ok'.trZ⟩
  · rcases List.mem_append.mp hx with q | q
    · exact fun z => notIn x q (.inl z)
    · exact ok'.sep x q
  · rcases List.mem_append.mp hx with q | q
    · exact a.there x (ok.trF x (List.mem_append_left _ q))
    · exact ok'.trF x q
theorem aside_kept {ρ ρ' : List Addr} {Z Z' : Addr → Prop} {F F' G : List Addr} {H H' : Hp} (ok : WOk ⟨ρ, Z, G ++ F⟩ H) (a : Ext ⟨ρ, Z, F⟩ H ⟨ρ', Z', F'⟩ H') : ∀ x ∈ G, ∀ o, H x = some o → H' x = some o := fun x hx o h =>
  a.keep x o h fun q => (List.nodup_append.mp ok.nd).2.2 x hx x q rfl
theorem frozen_kept {w w' : Wd} {H H' : Hp} (ok : WOk w H) (a : Ext w H w' H') : ∀ x o, w.Z x → H x = some o → H' x = some o := fun x o z h => a.keep x o h fun q => ok.sep x q z
end MM

/-! MM1: the judgements: an expression is worth what a function of slots and store gives. -/
namespace MM
open PySem PySem.Spec PyProof.Rows L2

structure Sta (c : Cg) (w : Wd) (Fs : List Addr) (σd : SL) (hd : HS) (σ : L2.St) (H : Hp) : Prop where
  s : RS c w.Z H w.ρ σd σ Fs
  h : RH c w.Z H w.ρ hd w.F
  ok : WOk ⟨w.ρ, w.Z, Fs ++ w.F⟩ H
/-- an exception of a class of the module, its fields -/
def RX (c : Cg) (Z : Addr → Prop) (H : Hp) (e : Exn) (cls : Value) (dx : Option Addr) : Prop :=
  ∃ Ca d gs, cls = .ref Ca ∧ c.mg e.cls = some (.ref Ca) ∧ dx = some d ∧ Z d ∧ H d = some (.xd gs) ∧ RDf c Z H e.fs gs

theorem WOk.right {ρ : List Addr} {Z : Addr → Prop} {F G : List Addr} {H : Hp} (ok : WOk ⟨ρ, Z, G ++ F⟩ H) : WOk ⟨ρ, Z, F⟩ H := ok.less (List.sublist_append_right _ _)
theorem WOk.left {ρ : List Addr} {Z : Addr → Prop} {F G : List Addr} {H : Hp} (ok : WOk ⟨ρ, Z, G ++ F⟩ H) : WOk ⟨ρ, Z, G⟩ H := ok.less (List.sublist_append_left _ _)
theorem Sta.wok {c : Cg} {w : Wd} {Fs : List Addr} {σd : SL} {hd : HS} {σ : L2.St} {H : Hp} (S : Sta c w Fs σd hd σ H) : WOk w H := S.ok.right
/-- behind an expression -/
theorem Sta.ext {c : Cg} {w w' : Wd} {Fs : List Addr} {σd : SL} {hd hd' : HS} {σ : L2.St} {H H' : Hp} (S : Sta c w Fs σd hd σ H) (e : Ext w H w' H') (ok : WOk w' H') (h : RH c w'.Z H' w'.ρ hd' w'.F) : Sta c w' Fs σd hd' σ H' :=
  ⟨S.s.mono e.rho e.z (frozen_kept S.wok e) (aside_kept S.ok e), h, S.ok.aside e ok⟩

inductive Md where | E | B | C
/-- what a result's own addresses are: fresh; not the store's; any -/
def MdOk (m : Md) (w : Wd) (H : Hp) (w' : Wd) (H' : Hp) (Fv : List Addr) : Prop :=
  match m with
  | .E => Ext w H ⟨w'.ρ, w'.Z, w'.F ++ Fv⟩ H' ∧ WOk ⟨w'.ρ, w'.Z, w'.F ++ Fv⟩ H'
  | .B => Ext w H w' H' ∧ WOk w' H' ∧ ∀ a ∈ Fv, a ∉ w'.F ∧ ¬ w'.Z a ∧ H' a ≠ none
  | .C => Ext w H w' H' ∧ WOk w' H'
theorem MdOk.ext {m : Md} {w w' : Wd} {H H' : Hp} {Fv : List Addr} (h : MdOk m w H w' H' Fv) : Ext w H w' H' ∧ WOk w' H' := by
  cases m with
  | E => exact ⟨h.1.less (F'' := w'.F) fun x hx => List.mem_append_left _ hx, WOk.left h.2⟩
  | B => exact ⟨h.1, h.2.1⟩
  | C => exact h
theorem MdOk.EB {w w' : Wd} {H H' : Hp} {Fv : List Addr} (h : MdOk .E w H w' H' Fv) : MdOk .B w H w' H' Fv :=
  ⟨h.ext.1, h.ext.2, fun a ha => ⟨fun q => (List.nodup_append.mp h.2.nd).2.2 a q a ha rfl, h.2.sep a (List.mem_append_right _ ha), h.2.trF a (List.mem_append_right _ ha)⟩⟩
theorem MdOk.toC {m : Md} {w w' : Wd} {H H' : Hp} {Fv : List Addr} (h : MdOk m w H w' H' Fv) : MdOk .C w H w' H' Fv := h.ext
theorem MdOk.trans {m : Md} {w w1 w' : Wd} {H H1 H' : Hp} {Fv : List Addr} (e : Ext w H w1 H1) (ok : WOk w1 H1) (h : MdOk m w1 H1 w' H' Fv) : MdOk m w H w' H' Fv := by
  cases m with
  | E => exact ⟨e.trans ok h.1, h.2⟩
  | B => exact ⟨e.trans ok h.1, h.2⟩
  | C => exact ⟨e.trans ok h.1, h.2⟩

/-- nothing that stood is changed (where that is asked) -/
def Pu (pu : Bool) (H H' : Hp) : Prop := pu = true → ∀ a o, H a = some o → H' a = some o
theorem Pu.refl {pu : Bool} {H : Hp} : Pu pu H H := fun _ _ _ h => h
theorem Pu.trans {pu : Bool} {H H1 H2 : Hp} (a : Pu pu H H1) (b : Pu pu H1 H2) : Pu pu H H2 := fun p x o h => b p x o (a p x o h)
theorem Pu.no {H H' : Hp} : Pu false H H' := fun h => by cases h
/-- what is wanted behind an expression -/
def EPo (pu : Bool) (md : Md) (c : Cg) (W : WX) (σ : L2.St) (w : Wd) (H : Hp) (Q : VK) : MR UV → Prop
  | .ok u h' => ∀ (w' : Wd) (H' : Hp) (v : V) (Fv : List Addr), MdOk md w H w' H' Fv → Pu pu H H' → RH c w'.Z H' w'.ρ h' w'.F → RU c w'.Z H' w'.ρ u v Fv → Q v H'
  | .err e h' => ∀ (w' : Wd) (H' : Hp) (cls : Value) (dx : Option Addr), Ext w H w' H' → WOk w' H' → RH c w'.Z H' w'.ρ h' w'.F → RX c w'.Z H' e cls dx → W cls dx σ H'
  | .bad => False
abbrev ME := SL → HS → MR UV
def tV (pu : Bool) (md : Md) (c : Cg) (W : WX) (m : ME) : TE := fun σ H Q => ∃ w Fs σd hd, Sta c w Fs σd hd σ H ∧ EPo pu md c W σ w H Q (m σd hd)
theorem EPo.shift {pu : Bool} {md : Md} {c : Cg} {W : WX} {σ : L2.St} {w w1 : Wd} {H H1 : Hp} {Q : VK} {r : MR UV} (e : Ext w H w1 H1) (ok : WOk w1 H1) (pq : Pu pu H H1) (h : EPo pu md c W σ w H Q r) : EPo pu md c W σ w1 H1 Q r := by
  cases r with
  | ok u h' => exact fun w' H' v Fv m pp rh ru => h w' H' v Fv (m.trans e ok) (pq.trans pp) rh ru
  | err x h' => exact fun w' H' cls dx e' ok' rh rx => h w' H' cls dx (e.trans ok e') ok' rh rx
  | bad => exact h
theorem PE.imp {X : Cx} {e : Expr} {t t' : TE} (h : PE X e t) (i : ∀ σ H Q, t' σ H Q → t σ H Q) : PE X e t' := ⟨fun pins s σ H Q I q => h.run pins s σ H Q I (i σ H Q q)⟩
theorem PT.imp {X : Cx} {e : Expr} {t t' : TT} (h : PT X e t) (i : ∀ σ H Q, t' σ H Q → t σ H Q) : PT X e t' := ⟨fun pins s σ H Q I q => h.run pins s σ H Q I (i σ H Q q)⟩
theorem PS.imp {X : Cx} {e : Stmt} {t t' : TS} (h : PS X e t) (i : ∀ D σ H, t' D σ H → t D σ H) : PS X e t' := ⟨fun pins s σ H Q I q => h.run pins s σ H Q I (i Q σ H q)⟩
theorem PSs.imp {X : Cx} {e : List Stmt} {t t' : TS} (h : PSs X e t) (i : ∀ D σ H, t' D σ H → t D σ H) : PSs X e t' := ⟨fun pins s σ H Q I q => h.run pins s σ H Q I (i Q σ H q)⟩
theorem eB {pu : Bool} {X : Cx} {e : Expr} {c : Cg} {W : WX} {m : ME} (h : PE X e (tV pu .E c W m)) : PE X e (tV pu .B c W m) := PE.imp h fun σ H Q ⟨w, Fs, σd, hd, S, p⟩ => ⟨w, Fs, σd, hd, S, by
  revert p
  cases m σd hd with
  | ok u h' => exact fun p w' H' v Fv md pp rh ru => p w' H' v Fv md.EB pp rh ru
  | err x h' => exact id
  | bad => exact id⟩
theorem bC {pu : Bool} {md : Md} {X : Cx} {e : Expr} {c : Cg} {W : WX} {m : ME} (h : PE X e (tV pu md c W m)) : PE X e (tV pu .C c W m) := PE.imp h fun σ H Q ⟨w, Fs, σd, hd, S, p⟩ => ⟨w, Fs, σd, hd, S, by
  revert p
  cases m σd hd with
  | ok u h' => exact fun p w' H' v Fv md pp rh ru => p w' H' v Fv md.toC pp rh ru
  | err x h' => exact id
  | bad => exact id⟩

def bindM {α β : Type} (m : MR α) (f : α → HS → MR β) : MR β := match m with
  | .ok a h => f a h
  | .err e h => .err e h
  | .bad => .bad
@[simp] theorem bindM_ok {α β : Type} (a : α) (h : HS) (f : α → HS → MR β) : bindM (.ok a h) f = f a h := rfl
@[simp] theorem bindM_err {α β : Type} (e : Exn) (h : HS) (f : α → HS → MR β) : bindM (.err e h) f = .err e h := rfl
@[simp] theorem bindM_bad {α β : Type} (f : α → HS → MR β) : bindM .bad f = .bad := rfl
def ofO {α : Type} (o : Option α) (h : HS) : MR α := match o with
  | some a => .ok a h
  | none => .bad
@[simp] theorem ofO_some {α : Type} (a : α) (h : HS) : ofO (some a) h = .ok a h := rfl
@[simp] theorem ofO_none {α : Type} (h : HS) : ofO (none : Option α) h = .bad := rfl
/-- one expression, then the rest -/
theorem step1 {pu : Bool} {md : Md} {md' : Md} {c : Cg} {W : WX} {m : ME} {f : UV → HS → MR UV} {σ : L2.St} {H : Hp} {w : Wd} {Fs : List Addr} {σd : SL} {hd : HS} {Q : VK} {R : VK} (S : Sta c w Fs σd hd σ H)
    (p : EPo pu md' c W σ w H Q (bindM (m σd hd) f))
    (k : ∀ (u : UV) (h1 : HS) (w1 : Wd) (H1 : Hp) (x : V) (Fx : List Addr), Sta c w1 Fs σd h1 σ H1 → MdOk md w H w1 H1 Fx → RU c w1.Z H1 w1.ρ u x Fx → EPo pu md' c W σ w1 H1 Q (f u h1) → R x H1) : tV pu md c W m σ H R := by
  refine ⟨w, Fs, σd, hd, S, ?_⟩
  revert p
  cases m σd hd with
  | ok u h' => exact fun p w' H' v Fv mo pp rh ru => k u h' w' H' v Fv (S.ext mo.ext.1 mo.ext.2 rh) mo ru (EPo.shift mo.ext.1 mo.ext.2 pp p)
  | err x h' => exact fun p => p
  | bad => exact fun p => p
/-- a borrowed value stands through what follows -/
theorem RU.after {c : Cg} {w w' : Wd} {H H' : Hp} {u : UV} {x : V} {Fx : List Addr} (h : RU c w.Z H w.ρ u x Fx) (ok : WOk w H) (hb : ∀ a ∈ Fx, a ∉ w.F) (e : Ext w H w' H') : RU c w'.Z H' w'.ρ u x Fx :=
  h.mono e.rho e.z (frozen_kept ok e) fun a ha o ho => e.keep a o ho (hb a ha)
end MM

/-! MM2: operators, names, items, built-in calls. -/
namespace MM
open PySem PySem.Spec PyProof.Rows L2

section
variable {c : Cg} {Z : Addr → Prop} {H : Hp} {ρ : List Addr}
theorem RDl.up : ∀ {xs : List DV} {vs : List V}, RDl c Z H xs vs → RUl c Z H ρ (xs.map .d) vs []
  | [], _, h => ⟨h, rfl⟩
  | _ :: _, _, ⟨v, r, e, h, t⟩ => ⟨v, r, [], [], e, rfl, ⟨rfl, h⟩, RDl.up t⟩
theorem RUl.length : ∀ {xs : List UV} {vs : List V} {F : List Addr}, RUl c Z H ρ xs vs F → vs.length = xs.length
  | [], _, _, h => by rw [h.1]; rfl
  | _ :: _, _, _, ⟨v, r, _, _, e, _, _, t⟩ => by rw [e, List.length_cons, List.length_cons, t.length]
theorem RUl.get : ∀ {xs : List UV} {vs : List V} {F : List Addr} {i : Nat} {u : UV}, RUl c Z H ρ xs vs F → xs[i]? = some u → ∃ v G, vs[i]? = some v ∧ RU c Z H ρ u v G ∧ ∀ a ∈ G, a ∈ F
  | [], _, _, _, _, _, h => by simp at h
  | x :: xs, _, _, 0, u, ⟨v, r, F1, F2, e, eF, h, t⟩, q => by
    have q' : x = u := by simpa using q
    subst q'
    exact ⟨v, F1, by rw [e]; rfl, h, fun a ha => by rw [eF]; exact List.mem_append_left _ ha⟩
  | x :: xs, _, _, i + 1, u, ⟨v, r, F1, F2, e, eF, h, t⟩, q => by
    obtain ⟨v', G, e', h', s⟩ := RUl.get (i := i) t (by simpa using q)
    exact ⟨v', G, by rw [e]; simpa using e', h', fun a ha => by rw [eF]; exact List.mem_append_right _ (s a ha)⟩
theorem RS.get : ∀ {s : SL} {l : L2.St} {F : List Addr} {i : Nat} {u : UV}, RS c Z H ρ s l F → s[i]? = some (some u) → ∃ v G, l[i]? = some (some v) ∧ RU c Z H ρ u v G ∧ ∀ a ∈ G, a ∈ F
  | [], _, _, _, _, _, h => by simp at h
  | none :: s, _, _, 0, u, _, q => by simp at q
  | none :: s, _, _, i + 1, u, ⟨o, r, e, t⟩, q => by
    obtain ⟨v', G, e', h', s⟩ := RS.get (i := i) t (by simpa using q)
    exact ⟨v', G, by rw [e]; simpa using e', h', s⟩
  | some x :: s, _, _, 0, u, ⟨v, r, F1, F2, e, eF, h, t⟩, q => by
    have q' : x = u := by simpa using q
    subst q'
    exact ⟨v, F1, by rw [e]; rfl, h, fun a ha => by rw [eF]; exact List.mem_append_left _ ha⟩
  | some x :: s, _, _, i + 1, u, ⟨v, r, F1, F2, e, eF, h, t⟩, q => by
    obtain ⟨v', G, e', h', s⟩ := RS.get (i := i) t (by simpa using q)
    exact ⟨v', G, by rw [e]; simpa using e', h', fun a ha => by rw [eF]; exact List.mem_append_right _ (s a ha)⟩
theorem RHl.get : ∀ {h : HS} {l : List Addr} {F : List Addr} {i : Nat} {x : Cel}, RHl c Z H ρ h l F → h[i]? = some x → ∃ a G, l[i]? = some a ∧ RC c Z H ρ x a G ∧ ∀ a ∈ G, a ∈ F
  | [], _, _, _, _, _, q => by simp at q
  | x :: s, _, _, 0, u, ⟨v, r, F1, F2, e, eF, h, t⟩, q => by
    have q' : x = u := by simpa using q
    subst q'
    exact ⟨v, F1, by rw [e]; rfl, h, fun a ha => by rw [eF]; exact List.mem_append_left _ ha⟩
  | x :: s, _, _, i + 1, u, ⟨v, r, F1, F2, e, eF, h, t⟩, q => by
    obtain ⟨v', G, e', h', s⟩ := RHl.get (i := i) t (by simpa using q)
    exact ⟨v', G, by rw [e]; simpa using e', h', fun a ha => by rw [eF]; exact List.mem_append_right _ (s a ha)⟩
end

/-! ### views -/
def asL (h : HS) : UV → Option (List UV)
  | .d (.lst xs) => some (xs.map .d)
  | .d (.rol xs) => some (xs.map .d)
  | .own xs => some xs
  | .fl xs => some xs
  | .ref i => match h[i]? with
    | some (.lst xs) => some xs
    | _ => none
  | _ => none
/-- a list that is not locked -/
def asM (h : HS) : UV → Option (List UV)
  | .d (.rol _) => none
  | u => asL h u
def asT : UV → Option (List UV)
  | .d (.tup xs) => some (xs.map .d)
  | .tp xs => some xs
  | _ => none
section
variable {c : Cg} {w : Wd} {H : Hp} {h : HS} {u : UV} {v : V} {Fu : List Addr} {xs : List UV}
theorem asM_ok (hh : RH c w.Z H w.ρ h w.F) (r : RU c w.Z H w.ρ u v Fu) (e : asM h u = some xs) : ∃ a vs G, v = .ref a ∧ H a = some (.lst vs) ∧ RUl c w.Z H w.ρ xs vs G ∧ ∀ b ∈ G, b ∈ Fu ∨ b ∈ w.F := by
  cases u with
  | d x =>
    cases x with
    | lst ys =>
      obtain ⟨_, a, vs, e1, _, e2, t⟩ := r
      have e' : ys.map UV.d = xs := by simpa [asM, asL] using e
      subst e'
      exact ⟨a, vs, [], e1, e2, t.up, fun b hb => absurd hb (by simp)⟩
    | _ => simp [asM, asL] at e
  | own ys =>
    obtain ⟨a, vs, G, e1, e2, e3, t⟩ := r
    have e' : ys = xs := by simpa [asM, asL] using e
    subst e'
    exact ⟨a, vs, G, e1, e2, t, fun b hb => .inl (by rw [e3]; exact List.mem_cons_of_mem _ hb)⟩
  | fl ys =>
    obtain ⟨a, vs, e1, _, e2, t⟩ := r
    have e' : ys = xs := by simpa [asM, asL] using e
    subst e'
    exact ⟨a, vs, Fu, e1, e2, t, fun b hb => .inl hb⟩
  | ref i =>
    obtain ⟨_, a, e1, e2⟩ := r
    simp only [asM, asL] at e
    split at e
    · rename_i ys q
      cases e
      obtain ⟨a', G, e3, rc, s⟩ := hh.get q
      rw [e1] at e3; cases e3
      obtain ⟨vs, G', e4, e5, t⟩ := rc
      exact ⟨a, vs, G', e2, e4, t, fun b hb => .inr (s b (by rw [e5]; exact List.mem_cons_of_mem _ hb))⟩
    · cases e
  | _ => simp [asM, asL] at e
theorem asL_ok (hh : RH c w.Z H w.ρ h w.F) (r : RU c w.Z H w.ρ u v Fu) (e : asL h u = some xs) : ∃ a vs G, v = .ref a ∧ SqL c.K H a vs ∧ RUl c w.Z H w.ρ xs vs G ∧ ∀ b ∈ G, b ∈ Fu ∨ b ∈ w.F := by
  by_cases q : ∃ ys, u = .d (.rol ys)
  · obtain ⟨ys, rfl⟩ := q
    obtain ⟨_, a, vs, e1, f, t⟩ := r
    have e' : ys.map UV.d = xs := by simpa [asL] using e
    subst e'
    exact ⟨a, vs, [], e1, f.sq, t.up, fun b hb => absurd hb (by simp)⟩
  · have e' : asM h u = some xs := by
      rw [← e]
      unfold asM
      split
      · exact absurd ⟨_, rfl⟩ q
      · rfl
    obtain ⟨a, vs, G, e1, e2, t, s⟩ := asM_ok hh r e'
    exact ⟨a, vs, G, e1, .of e2, t, s⟩
theorem asT_ok (r : RU c w.Z H w.ρ u v Fu) (e : asT u = some xs) : ∃ a vs G, v = .ref a ∧ SqT c.K H a vs ∧ RUl c w.Z H w.ρ xs vs G ∧ ∀ b ∈ G, b ∈ Fu := by
  cases u with
  | d x =>
    cases x with
    | tup ys =>
      obtain ⟨_, a, vs, e1, f, t⟩ := r
      have e' : ys.map UV.d = xs := by simpa [asT] using e
      subst e'
      exact ⟨a, vs, [], e1, f.sq, t.up, fun b hb => absurd hb (by simp)⟩
    | _ => simp [asT] at e
  | tp ys =>
    obtain ⟨a, vs, e1, z, e2, t⟩ := r
    have e' : ys = xs := by simpa [asT] using e
    subst e'
    exact ⟨a, vs, Fu, e1, .inl e2, t, fun b hb => hb⟩
  | _ => simp [asT] at e
end
/- nothing of its own -/
mutual
def noOwn : UV → Bool
  | .d _ => true
  | .ref _ => true
  | .tp xs => noOwnL xs
  | .fl xs => noOwnL xs
  | .own _ => false
  | .odK _ => false
  | .odT _ => false
  | .clo _ _ => true
def noOwnL : List UV → Bool
  | [] => true
  | x :: xs => noOwn x && noOwnL xs
end
theorem noOwnL_eq : ∀ xs : List UV, noOwnL xs = xs.all noOwn
  | [] => by simp [noOwnL]
  | x :: xs => by simp [noOwnL, noOwnL_eq xs]
section
variable {c : Cg} {Z : Addr → Prop} {H : Hp} {ρ : List Addr}
mutual
theorem noOwn_F : ∀ {u : UV} {v : V} {F : List Addr}, noOwn u = true → RU c Z H ρ u v F → F = []
  | .d x, _, _, _, r => r.1
  | .ref i, _, _, _, r => r.1
  | .tp xs, _, _, h, ⟨a, vs, _, _, _, t⟩ => noOwnL_F (by simpa [noOwn] using h) t
  | .fl xs, _, _, h, ⟨a, vs, _, _, _, t⟩ => noOwnL_F (by simpa [noOwn] using h) t
  | .own xs, _, _, h, _ => by simp [noOwn] at h
  | .odK xs, _, _, h, _ => by simp [noOwn] at h
  | .odT xs, _, _, h, _ => by simp [noOwn] at h
  | .clo _ _, _, _, _, r => r.1
theorem noOwnL_F : ∀ {xs : List UV} {vs : List V} {F : List Addr}, noOwnL xs = true → RUl c Z H ρ xs vs F → F = []
  | [], _, _, _, r => r.2
  | x :: xs, _, _, h, ⟨v, r, F1, F2, e, eF, hx, t⟩ => by
    simp only [noOwnL, Bool.and_eq_true] at h
    rw [eF, noOwn_F h.1 hx, noOwnL_F h.2 t]; rfl
end
theorem noOwn_all {xs : List UV} {vs : List V} {F : List Addr} (h : xs.all noOwn = true) (r : RUl c Z H ρ xs vs F) : F = [] := noOwnL_F (by rw [noOwnL_eq]; exact h) r
end

/-! ### how a result is handed on -/
section
variable {c : Cg} {W : WX} {σ : L2.St} {w : Wd} {H : Hp} {Q : VK} {h : HS} {md : Md} {pu : Bool}
theorem MdOk.same {w : Wd} {H : Hp} (ok : WOk w H) : MdOk .E w H w H [] := ⟨by simpa using Ext.refl, by simpa using ok⟩
/-- a result that is data, nothing new in the heap -/
theorem fin_d {x : DV} {v : V} (p : EPo pu .E c W σ w H Q (.ok (.d x) h)) (ok : WOk w H) (hh : RH c w.Z H w.ρ h w.F) (r : RD c w.Z H x v) : Q v H := p w H v [] (.same ok) .refl hh ⟨rfl, r⟩
theorem upd_keep {H : Hp} {p : Addr} {o : HO} (hp : H p = none) : ∀ a u, H a = some u → upd H p o a = some u := fun a u e => by rw [upd_ne (ne_of_none e hp)]; exact e
theorem upd_there {H : Hp} {p : Addr} {o : HO} : ∀ a, H a ≠ none → upd H p o a ≠ none := fun a e => by
  by_cases q : a = p
  · rw [q, upd_same]; exact fun z => by cases z
  · rw [upd_ne q]; exact e
/-- a new object that is the result's own, on top of what the result's items own -/
theorem ext_new {H : Hp} {p : Addr} {o : HO} (hp : H p = none) {w : Wd} {G : List Addr} (ok : WOk ⟨w.ρ, w.Z, w.F ++ G⟩ H) : Ext ⟨w.ρ, w.Z, w.F ++ G⟩ H ⟨w.ρ, w.Z, w.F ++ (p :: G)⟩ (upd H p o) ∧ WOk ⟨w.ρ, w.Z, w.F ++ (p :: G)⟩ (upd H p o) := by
  have np : p ∉ w.F ++ G := fun q => ok.trF p q hp
  refine ⟨⟨fun _ _ e => e, fun _ e => e, fun a u e _ => upd_keep hp a u e, fun a e => ?_, upd_there⟩, ?_, fun a ha => ?_, fun a ha => ?_, fun a z => upd_there a (ok.trZ a z)⟩
  · rcases e with e | e
    · exact .inl e
    · rcases List.mem_append.mp e with q | q
      · exact .inr (.inl (List.mem_append_left _ q))
      · rcases List.mem_cons.mp q with q | q
        · rw [q]; exact .inr (.inr hp)
        · exact .inr (.inl (List.mem_append_right _ q))
  · have nd := List.nodup_append.mp ok.nd
    refine List.nodup_append.mpr ⟨nd.1, List.nodup_cons.mpr ⟨fun q => np (List.mem_append_right _ q), nd.2.1⟩, fun a ha b hb e => ?_⟩
    rcases List.mem_cons.mp hb with q | q
    · rw [q] at e; rw [e] at ha; exact np (List.mem_append_left _ ha)
    · exact nd.2.2 a ha b q e
  · rcases List.mem_append.mp ha with q | q
    · exact ok.sep a (List.mem_append_left _ q)
    · rcases List.mem_cons.mp q with q | q
      · rw [q]; exact fun z => ok.trZ p z hp
      · exact ok.sep a (List.mem_append_right _ q)
  · rcases List.mem_append.mp ha with q | q
    · exact upd_there a (ok.trF a (List.mem_append_left _ q))
    · rcases List.mem_cons.mp q with q | q
      · rw [q, upd_same]; exact fun z => by cases z
      · exact upd_there a (ok.trF a (List.mem_append_right _ q))
theorem RH_upd {c : Cg} {w : Wd} {H : Hp} {h : HS} {p : Addr} {o : HO} (hp : H p = none) (hh : RH c w.Z H w.ρ h w.F) : RH c w.Z (upd H p o) w.ρ h w.F :=
  RHl.mono (fun _ _ e => e) (fun _ z => z) (fun a u _ e => upd_keep hp a u e) (fun a _ u e => upd_keep hp a u e) hh
/-- a new list of things that own nothing -/
theorem fin_own {xs : List UV} {vs : List V} (p : EPo pu .E c W σ w H Q (.ok (.own xs) h)) (ok : WOk w H) (hh : RH c w.Z H w.ρ h w.F) {G : List Addr} (r : RUl c w.Z H w.ρ xs vs G) (hn : xs.all noOwn = true) (a : Addr) (ha : H a = none) : Q (.ref a) (upd H a (.lst vs)) := by
  have eG := noOwn_all hn r
  subst eG
  have x := ext_new (o := .lst vs) ha (w := w) (G := []) (by simpa using ok)
  refine p w _ _ [a] ⟨?_, x.2⟩ (fun _ => upd_keep ha) (RH_upd ha hh) ⟨a, vs, [], rfl, upd_same, rfl, ?_⟩
  · simpa using x.1
  · exact RUl.mono (fun _ _ e => e) (fun _ z => z) (fun a' u _ e => upd_keep ha a' u e) (fun b hb => absurd hb (by simp)) r
/-- a new tuple of data -/
theorem ext_tup {H : Hp} {p : Addr} {o : HO} (hp : H p = none) {w : Wd} (ok : WOk w H) : Ext w H ⟨w.ρ, fun a => w.Z a ∨ a = p, w.F⟩ (upd H p o) ∧ WOk ⟨w.ρ, fun a => w.Z a ∨ a = p, w.F⟩ (upd H p o) := by
  refine ⟨⟨fun _ _ e => e, fun _ e => .inl e, fun a u e _ => upd_keep hp a u e, fun a e => ?_, upd_there⟩, ok.nd, fun a ha z => ?_, fun a ha => upd_there a (ok.trF a ha), fun a z => ?_⟩
  · rcases e with (e | e) | e
    · exact .inl e
    · rw [e]; exact .inr (.inr hp)
    · exact .inr (.inl e)
  · rcases z with z | z
    · exact ok.sep a ha z
    · rw [z] at ha; exact ok.trF p ha hp
  · rcases z with z | z
    · exact upd_there a (ok.trZ a z)
    · rw [z, upd_same]; exact fun q => by cases q
theorem RH_updZ {c : Cg} {w : Wd} {H : Hp} {h : HS} {p : Addr} {o : HO} (hp : H p = none) (hh : RH c w.Z H w.ρ h w.F) : RH c (fun a => w.Z a ∨ a = p) (upd H p o) w.ρ h w.F :=
  RHl.mono (fun _ _ e => e) (fun _ z => .inl z) (fun a u _ e => upd_keep hp a u e) (fun a _ u e => upd_keep hp a u e) hh
theorem fin_tup {xs : List DV} {vs : List V} (p : EPo pu .E c W σ w H Q (.ok (.d (.tup xs)) h)) (ok : WOk w H) (hh : RH c w.Z H w.ρ h w.F) (r : RDl c w.Z H xs vs) (a : Addr) (ha : H a = none) : Q (.ref a) (upd H a (.tup vs)) := by
  have x := ext_tup (o := .tup vs) ha ok
  refine p ⟨w.ρ, fun b => w.Z b ∨ b = a, w.F⟩ _ _ [] ⟨?_, ?_⟩ (fun _ => upd_keep ha) (RH_updZ ha hh) ⟨rfl, a, vs, rfl, .inl ⟨.inr rfl, .inl upd_same⟩, ?_⟩
  · simpa using x.1
  · simpa using x.2
  · exact RDl.mono (fun _ z => .inl z) (fun b u _ e => upd_keep ha b u e) r
end
end MM

/-! MM3: freezing, argument lists, displays, operators by their functions. -/
namespace MM
open PySem PySem.Spec PyProof.Rows L2

theorem WOk.perm {ρ : List Addr} {Z : Addr → Prop} {F F' : List Addr} {H : Hp} (ok : WOk ⟨ρ, Z, F⟩ H) (p : F'.Perm F) : WOk ⟨ρ, Z, F'⟩ H :=
  ⟨p.nodup_iff.mpr ok.nd, fun a ha => ok.sep a (p.mem_iff.mp ha), fun a ha => ok.trF a (p.mem_iff.mp ha), ok.trZ⟩
theorem Ext.set {ρ ρ' : List Addr} {Z Z' : Addr → Prop} {F F' G G' : List Addr} {H H' : Hp} (e : Ext ⟨ρ, Z, F⟩ H ⟨ρ', Z', F'⟩ H') (h : ∀ a, a ∈ G ↔ a ∈ F) (h' : ∀ a, a ∈ G' ↔ a ∈ F') : Ext ⟨ρ, Z, G⟩ H ⟨ρ', Z', G'⟩ H' :=
  ⟨e.rho, e.z, fun a o q n => e.keep a o q fun z => n ((h a).mpr z), fun a q => by
    rcases e.new a (q.elim .inl fun z => .inr ((h' a).mp z)) with z | z | z
    · exact .inl z
    · exact .inr (.inl ((h a).mpr z))
    · exact .inr (.inr z), e.there⟩
theorem memApp {F G : List Addr} : ∀ a, a ∈ F ++ G ↔ a ∈ G ++ F := fun a => by rw [List.mem_append, List.mem_append]; exact Or.comm
/-- two fresh results, one behind the other -/
theorem MdOk.two {w w1 w2 : Wd} {H H1 H2 : Hp} {Fa Fr : List Addr} (a : MdOk .E w H w1 H1 Fa) (b : MdOk .E w1 H1 w2 H2 Fr) : MdOk .E w H w2 H2 (Fa ++ Fr) := by
  obtain ⟨ea, oa⟩ := a
  obtain ⟨eb, ob⟩ := b
  have pa : (Fa ++ w1.F).Perm (w1.F ++ Fa) := List.perm_append_comm
  have oa' := oa.perm pa
  have eb' := Ext.more eb Fa
  have ob' := oa'.aside eb ob
  have ea' : Ext w H ⟨w1.ρ, w1.Z, Fa ++ w1.F⟩ H1 := Ext.set (F := w.F) (F' := w1.F ++ Fa) ea (fun _ => .rfl) memApp
  have e := ea'.trans oa' eb'
  have p2 : (w2.F ++ (Fa ++ Fr)).Perm (Fa ++ (w2.F ++ Fr)) := by
    rw [← List.append_assoc, ← List.append_assoc]
    exact List.Perm.append_right _ List.perm_append_comm
  exact ⟨Ext.set (F := w.F) (F' := Fa ++ (w2.F ++ Fr)) e (fun _ => .rfl) fun x => p2.mem_iff, ob'.perm p2⟩
/-- a fresh result stands through what follows -/
theorem RU.afterE {c : Cg} {w w1 w2 : Wd} {H H1 H2 : Hp} {Fa : List Addr} {u : UV} {x : V} (a : MdOk .E w H w1 H1 Fa) (r : RU c w1.Z H1 w1.ρ u x Fa) (e : Ext w1 H1 w2 H2) : RU c w2.Z H2 w2.ρ u x Fa :=
  r.after a.ext.2 (fun b hb q => (List.nodup_append.mp a.2.nd).2.2 b q b hb rfl) e

/-! ### freezing -/
mutual
def toD : UV → Option DV
  | .d x => some x
  | .ref _ => none
  | .tp xs => (toDl xs).map .tup
  | .fl xs => (toDl xs).map .lst
  | .own xs => (toDl xs).map .lst
  | .odK kvs => (toDk kvs).map .dK
  | .odT kvs => (toDt kvs).map .dT
  | .clo _ _ => none
def toDl : List UV → Option (List DV)
  | [] => some []
  | x :: xs => match toD x, toDl xs with
    | some y, some ys => some (y :: ys)
    | _, _ => none
def toDk : List (Key × UV) → Option (List (Key × DV))
  | [] => some []
  | (k, x) :: xs => match toD x, toDk xs with
    | some y, some ys => some ((k, y) :: ys)
    | _, _ => none
def toDt : List (List Key × UV) → Option (List (List Key × DV))
  | [] => some []
  | (k, x) :: xs => match toD x, toDt xs with
    | some y, some ys => some ((k, y) :: ys)
    | _, _ => none
end
section
variable {c : Cg} {Z Z' : Addr → Prop} {H : Hp} {ρ : List Addr} (hz : ∀ a, Z a → Z' a)
include hz
mutual
theorem toD_ok : ∀ {u : UV} {v : V} {F : List Addr} {x : DV}, (∀ a ∈ F, Z' a) → RU c Z H ρ u v F → toD u = some x → RD c Z' H x v
  | .d y, _, _, _, _, r, e => by
    cases e
    exact RD.mono hz (fun _ _ _ q => q) r.2
  | .ref _, _, _, _, _, _, e => by cases e
  | .tp xs, _, _, _, f, ⟨a, vs, e1, z, e2, t⟩, e => by
    simp only [toD, Option.map_eq_some_iff] at e
    obtain ⟨ys, e3, rfl⟩ := e
    exact ⟨a, vs, e1, .inl ⟨hz _ z, e2⟩, toDl_ok f t e3⟩
  | .fl xs, _, _, _, f, ⟨a, vs, e1, z, e2, t⟩, e => by
    simp only [toD, Option.map_eq_some_iff] at e
    obtain ⟨ys, e3, rfl⟩ := e
    exact ⟨a, vs, e1, hz _ z, e2, toDl_ok f t e3⟩
  | .own xs, _, _, _, f, ⟨a, vs, G, e1, e2, eF, t⟩, e => by
    simp only [toD, Option.map_eq_some_iff] at e
    obtain ⟨ys, e3, rfl⟩ := e
    exact ⟨a, vs, e1, f a (by rw [eF]; exact List.mem_cons_self), e2, toDl_ok (fun b hb => f b (by rw [eF]; exact List.mem_cons_of_mem _ hb)) t e3⟩
  | .odK xs, _, _, _, f, ⟨a, vs, G, e1, e2, eF, t⟩, e => by
    simp only [toD, Option.map_eq_some_iff] at e
    obtain ⟨ys, e3, rfl⟩ := e
    exact ⟨a, vs, e1, f a (by rw [eF]; exact List.mem_cons_self), e2, toDk_ok (fun b hb => f b (by rw [eF]; exact List.mem_cons_of_mem _ hb)) t e3⟩
  | .odT xs, _, _, _, f, ⟨a, vs, G, e1, e2, eF, t⟩, e => by
    simp only [toD, Option.map_eq_some_iff] at e
    obtain ⟨ys, e3, rfl⟩ := e
    exact ⟨a, vs, e1, f a (by rw [eF]; exact List.mem_cons_self), e2, toDt_ok (fun b hb => f b (by rw [eF]; exact List.mem_cons_of_mem _ hb)) t e3⟩
  | .clo _ _, _, _, _, _, _, e => by cases e
theorem toDl_ok : ∀ {u : List UV} {v : List V} {F : List Addr} {x : List DV}, (∀ a ∈ F, Z' a) → RUl c Z H ρ u v F → toDl u = some x → RDl c Z' H x v
  | [], _, _, _, _, r, e => by
    cases e
    exact r.1
  | y :: ys, _, _, _, f, ⟨v, r, F1, F2, e1, eF, h, t⟩, e => by
    simp only [toDl] at e
    split at e
    · rename_i y' ys' q1 q2
      cases e
      exact ⟨v, r, e1, toD_ok (fun b hb => f b (by rw [eF]; exact List.mem_append_left _ hb)) h q1, toDl_ok (fun b hb => f b (by rw [eF]; exact List.mem_append_right _ hb)) t q2⟩
    · cases e
theorem toDk_ok : ∀ {u : List (Key × UV)} {v : List (Key × V)} {F : List Addr} {x : List (Key × DV)}, (∀ a ∈ F, Z' a) → RUk c Z H ρ u v F → toDk u = some x → RDk c Z' H x v
  | [], _, _, _, _, r, e => by
    cases e
    exact r.1
  | (k, y) :: ys, _, _, _, f, ⟨v, r, F1, F2, e1, eF, h, t⟩, e => by
    simp only [toDk] at e
    split at e
    · rename_i y' ys' q1 q2
      cases e
      exact ⟨v, r, e1, toD_ok (fun b hb => f b (by rw [eF]; exact List.mem_append_left _ hb)) h q1, toDk_ok (fun b hb => f b (by rw [eF]; exact List.mem_append_right _ hb)) t q2⟩
    · cases e
theorem toDt_ok : ∀ {u : List (List Key × UV)} {v : List (List Key × V)} {F : List Addr} {x : List (List Key × DV)}, (∀ a ∈ F, Z' a) → RUt c Z H ρ u v F → toDt u = some x → RDt c Z' H x v
  | [], _, _, _, _, r, e => by
    cases e
    exact r.1
  | (k, y) :: ys, _, _, _, f, ⟨v, r, F1, F2, e1, eF, h, t⟩, e => by
    simp only [toDt] at e
    split at e
    · rename_i y' ys' q1 q2
      cases e
      exact ⟨v, r, e1, toD_ok (fun b hb => f b (by rw [eF]; exact List.mem_append_left _ hb)) h q1, toDt_ok (fun b hb => f b (by rw [eF]; exact List.mem_append_right _ hb)) t q2⟩
    · cases e
end
end
/-- data, or a cell -/
def fz (u : UV) : Option UV := match toD u with
  | some x => some (.d x)
  | none => match u with
    | .ref i => some (.ref i)
    | .clo i cs => some (.clo i cs)
    | .own xs => if xs.all noOwn then some (.fl xs) else none
    | .fl xs => if xs.all noOwn then some (.fl xs) else none
    | .tp xs => if xs.all noOwn then some (.tp xs) else none
    | _ => none
theorem fz_noOwn {u v : UV} (h : fz u = some v) : noOwn v = true := by
  unfold fz at h
  split at h
  · cases h; rfl
  · split at h
    · cases h; rfl
    · cases h; rfl
    · split at h
      · rename_i hn; cases h; simpa [noOwn, noOwnL_eq] using hn
      · cases h
    · split at h
      · rename_i hn; cases h; simpa [noOwn, noOwnL_eq] using hn
      · cases h
    · split at h
      · rename_i hn; cases h; simpa [noOwn, noOwnL_eq] using hn
      · cases h
    · cases h
/-- what a fresh result owned is frozen -/
theorem MdOk.frz {w w1 : Wd} {H H1 : Hp} {Fa : List Addr} (a : MdOk .E w H w1 H1 Fa) : MdOk .E w H ⟨w1.ρ, fun x => w1.Z x ∨ x ∈ Fa, w1.F⟩ H1 [] := by
  obtain ⟨e, ok⟩ := a
  refine ⟨⟨e.rho, fun x z => .inl (e.z x z), e.keep, fun x h => e.new x ?_, e.there⟩, ?_⟩
  · rcases h with (h | h) | h
    · exact .inl h
    · exact .inr (List.mem_append_right _ h)
    · exact .inr (List.mem_append_left _ (by simpa using h))
  · have nd := List.nodup_append.mp ok.nd
    refine ⟨by simpa using nd.1, fun x hx z => ?_, fun x hx => ok.trF x (List.mem_append_left _ (by simpa using hx)), fun x z => ?_⟩
    · have hx' : x ∈ w1.F := by simpa using hx
      rcases z with z | z
      · exact ok.sep x (List.mem_append_left _ hx') z
      · exact nd.2.2 x hx' x z rfl
    · rcases z with z | z
      · exact ok.trZ x z
      · exact ok.trF x (List.mem_append_right _ z)
theorem RH_frz {c : Cg} {Z Z' : Addr → Prop} {H : Hp} {ρ F : List Addr} {h : HS} (hz : ∀ a, Z a → Z' a) (hh : RH c Z H ρ h F) : RH c Z' H ρ h F := RHl.mono (fun _ _ e => e) hz (fun _ _ _ e => e) (fun _ _ _ e => e) hh
theorem fz_ok {c : Cg} {Z : Addr → Prop} {H : Hp} {ρ : List Addr} {u u' : UV} {v : V} {F : List Addr} (r : RU c Z H ρ u v F) (h : fz u = some u') : RU c (fun x => Z x ∨ x ∈ F) H ρ u' v [] := by
  unfold fz at h
  split at h
  · rename_i x e
    cases h
    exact ⟨rfl, toD_ok (fun _ z => .inl z) (fun a ha => .inr ha) r e⟩
  · split at h
    · cases h
      exact ⟨rfl, r.2⟩
    · cases h
      exact RU.mono (fun _ _ e => e) (fun _ z => .inl z) (fun _ _ _ e => e) (fun _ _ _ e => e) (by obtain ⟨e, k⟩ := r; exact ⟨rfl, k⟩)
    · split at h
      · rename_i hn
        cases h
        obtain ⟨a, vs, G, e1, e2, e3, t⟩ := r
        have eG := noOwn_all hn t
        subst eG
        exact ⟨a, vs, e1, .inr (by rw [e3]; exact List.mem_cons_self), e2, RUl.mono (fun _ _ e => e) (fun _ z => .inl z) (fun _ _ _ e => e) (fun _ _ _ e => e) t⟩
      · cases h
    · split at h
      · rename_i hn
        cases h
        obtain ⟨a, vs, e1, z, e2, t⟩ := r
        have eG := noOwn_all hn t
        subst eG
        exact ⟨a, vs, e1, .inl z, e2, RUl.mono (fun _ _ e => e) (fun _ z => .inl z) (fun _ _ _ e => e) (fun _ _ _ e => e) t⟩
      · cases h
    · split at h
      · rename_i hn
        cases h
        obtain ⟨a, vs, e1, z, e2, t⟩ := r
        have eG := noOwn_all hn t
        subst eG
        exact ⟨a, vs, e1, .inl z, e2, RUl.mono (fun _ _ e => e) (fun _ z => .inl z) (fun _ _ _ e => e) (fun _ _ _ e => e) t⟩
      · cases h
    · cases h

/-! ### an expression's result frozen -/
def mFz (m : ME) : ME := fun σ h => bindM (m σ h) fun u h1 => ofO (fz u) h1
section
variable {X : Cx} {c : Cg} {W : WX} {e : Expr} {m : ME} {pu : Bool}
theorem eFz (h : PE X e (tV pu .E c W m)) : PE X e (tV pu .E c W (mFz m)) := PE.imp h fun σ H Q ⟨w, Fs, σd, hd, S, p⟩ => ⟨w, Fs, σd, hd, S, by
  unfold mFz at p
  revert p
  cases m σd hd with
  | ok u h' =>
    intro p w' H' v Fv mo pp rh ru
    have p' : EPo pu .E c W σ w H Q (ofO (fz u) h') := p
    cases q : fz u with
    | none => rw [q] at p'; exact p'.elim
    | some z =>
      rw [q] at p'
      exact p' _ H' v [] mo.frz pp (RH_frz (fun _ z => .inl z) rh) (fz_ok ru q)
  | err x h' => exact id
  | bad => exact id⟩
end

/-! ### argument lists -/
abbrev MAs := SL → HS → MR (List UV)
def APo (pu : Bool) (c : Cg) (W : WX) (σ : L2.St) (w : Wd) (H : Hp) (Q : List V → Hp → Prop) : MR (List UV) → Prop
  | .ok us h' => ∀ (w' : Wd) (H' : Hp) (vs : List V) (Fv : List Addr), MdOk .E w H w' H' Fv → Pu pu H H' → RH c w'.Z H' w'.ρ h' w'.F → RUl c w'.Z H' w'.ρ us vs Fv → Q vs H'
  | .err e h' => ∀ (w' : Wd) (H' : Hp) (cls : Value) (dx : Option Addr), Ext w H w' H' → WOk w' H' → RH c w'.Z H' w'.ρ h' w'.F → RX c w'.Z H' e cls dx → W cls dx σ H'
  | .bad => False
def tAs (pu : Bool) (c : Cg) (W : WX) (m : MAs) : TA := fun σ H Q => ∃ w Fs σd hd, Sta c w Fs σd hd σ H ∧ APo pu c W σ w H Q (m σd hd)
def aNil : MAs := fun _ h => .ok [] h
def aCons (m : ME) (ms : MAs) : MAs := fun σ h => bindM (m σ h) fun u h1 => bindM (ms σ h1) fun us h2 => .ok (u :: us) h2
section
variable {X : Cx} {c : Cg} {W : WX} {e : Expr} {es : List Expr} {m : ME} {ms : MAs} {pu : Bool}
theorem PA.imp {t t' : TA} (h : PA X es t) (i : ∀ σ H Q, t' σ H Q → t σ H Q) : PA X es t' := ⟨fun pos pins s σ H Q I q => h.run pos pins s σ H Q I (i σ H Q q)⟩
theorem as_nil : PA X [] (tAs pu c W aNil) := PA.imp pa_nil fun σ H Q ⟨w, Fs, σd, hd, S, p⟩ => p w H [] [] (.same S.wok) .refl S.h ⟨rfl, rfl⟩
theorem as_cons (ha : PE X e (tV pu .E c W m)) (hr : PA X es (tAs pu c W ms)) (hs : starEach (e :: es) X.env = (false, eval e X.env) :: starEach es X.env := by rfl) : PA X (e :: es) (tAs pu c W (aCons m ms)) :=
  PA.imp (pa_cons ha hr hs) fun σ H Q ⟨w, Fs, σd, hd, S, p⟩ => ⟨w, Fs, σd, hd, S, by
    unfold aCons at p
    revert p
    cases m σd hd with
    | err x h' => exact fun p => p
    | bad => exact fun p => p
    | ok u h1 =>
      intro p w1 H1 x Fx mo pp rh ru
      have p : APo pu c W σ w H Q (bindM (ms σd h1) fun us h2 => .ok (u :: us) h2) := p
      refine ⟨w1, Fs, σd, h1, S.ext mo.ext.1 mo.ext.2 rh, ?_⟩
      revert p
      cases ms σd h1 with
      | err x h' => exact fun p w' H' cls dx e' ok' => p w' H' cls dx (mo.ext.1.trans mo.ext.2 e') ok'
      | bad => exact fun p => p
      | ok us h2 =>
        intro p w2 H2 vs Fv mo2 pp2 rh2 ru2
        exact p w2 H2 (x :: vs) (Fx ++ Fv) (mo.two mo2) (pp.trans pp2) rh2 ⟨x, vs, Fx, Fv, rfl, rfl, ru.afterE mo mo2.ext.1, ru2⟩⟩
end
/-! ### displays -/
def mLst (ms : MAs) : ME := fun σ h => bindM (ms σ h) fun us h1 => if us.length ≤ sizeLine then .ok (.own us) h1 else .bad
def mTup (ms : MAs) : ME := fun σ h => bindM (ms σ h) fun us h1 => if us.length ≤ sizeLine then ofO ((toDl us).map fun xs => .d (.tup xs)) h1 else .bad
def mTp (ms : MAs) : ME := fun σ h => bindM (ms σ h) fun us h1 => if us.length ≤ sizeLine then .ok (.tp us) h1 else .bad
section
variable {X : Cx} {c : Cg} {W : WX} {es : List Expr} {ms : MAs} {pos : Pos} {pu : Bool}
theorem ext_newE {w w1 : Wd} {H H1 : Hp} {G : List Addr} {p : Addr} {o : HO} (mo : MdOk .E w H w1 H1 G) (hp : H1 p = none) : MdOk .E w H w1 (upd H1 p o) (p :: G) := by
  have x := ext_new (o := o) hp (w := w1) (G := G) mo.2
  exact ⟨mo.1.trans mo.2 x.1, x.2⟩
theorem e_lst (h : PA X es (tAs pu c W ms)) : PE X (.List es pos) (tV pu .E c W (mLst ms)) := PE.imp (pe_lst h) fun σ H Q ⟨w, Fs, σd, hd, S, p⟩ => ⟨w, Fs, σd, hd, S, by
  unfold mLst at p
  revert p
  cases ms σd hd with
  | err x h' => exact fun p => p
  | bad => exact fun p => p
  | ok us h1 =>
    intro p w1 H1 vs G mo pp rh ru
    have p : EPo pu .E c W σ w H Q (if us.length ≤ sizeLine then .ok (.own us) h1 else .bad) := p
    by_cases hz : us.length ≤ sizeLine
    · rw [if_pos hz] at p
      refine ⟨by rw [ru.length]; exact hz, fun a ha => ?_⟩
      refine p w1 _ _ (a :: G) (ext_newE mo ha) (pp.trans fun _ => upd_keep ha) (RH_upd ha rh) ⟨a, vs, G, rfl, upd_same, rfl, ?_⟩
      exact RUl.mono (fun _ _ e => e) (fun _ z => z) (fun b u _ e => upd_keep ha b u e) (fun b _ u e => upd_keep ha b u e) ru
    · rw [if_neg hz] at p; exact p.elim⟩
theorem e_tup {k : Nat} (h : PA X es (tAs pu c W ms)) : PE X (.Tuple es k pos) (tV pu .E c W (mTup ms)) := PE.imp (pe_tup h) fun σ H Q ⟨w, Fs, σd, hd, S, p⟩ => ⟨w, Fs, σd, hd, S, by
  unfold mTup at p
  revert p
  cases ms σd hd with
  | err x h' => exact fun p => p
  | bad => exact fun p => p
  | ok us h1 =>
    intro p w1 H1 vs G mo pp rh ru
    have p : EPo pu .E c W σ w H Q (if us.length ≤ sizeLine then ofO ((toDl us).map fun xs => .d (.tup xs)) h1 else .bad) := p
    by_cases hz : us.length ≤ sizeLine
    · rw [if_pos hz] at p
      cases q : toDl us with
      | none => rw [q] at p; exact p.elim
      | some xs =>
        rw [q] at p
        refine ⟨by rw [ru.length]; exact hz, fun a ha => ?_⟩
        have mf := mo.frz
        exact fin_tup (EPo.shift mf.ext.1 mf.ext.2 pp p) mf.ext.2 (RH_frz (fun _ z => .inl z) rh) (toDl_ok (fun _ z => .inl z) (fun b hb => .inr hb) ru q) a ha
    · rw [if_neg hz] at p; exact p.elim⟩
theorem e_tp {k : Nat} (h : PA X es (tAs pu c W ms)) : PE X (.Tuple es k pos) (tV pu .E c W (mTp ms)) := PE.imp (pe_tup h) fun σ H Q ⟨w, Fs, σd, hd, S, p⟩ => ⟨w, Fs, σd, hd, S, by
  unfold mTp at p
  revert p
  cases ms σd hd with
  | err x h' => exact fun p => p
  | bad => exact fun p => p
  | ok us h1 =>
    intro p w1 H1 vs G mo pp rh ru
    have p : EPo pu .E c W σ w H Q (if us.length ≤ sizeLine then .ok (.tp us) h1 else .bad) := p
    by_cases hz : us.length ≤ sizeLine
    · rw [if_pos hz] at p
      refine ⟨by rw [ru.length]; exact hz, fun a ha => ?_⟩
      have x := ext_tup (o := .tup vs) ha (w := ⟨w1.ρ, w1.Z, w1.F ++ G⟩) mo.2
      refine p ⟨w1.ρ, fun b => w1.Z b ∨ b = a, w1.F⟩ _ _ G ⟨mo.1.trans mo.2 x.1, x.2⟩ (pp.trans fun _ => upd_keep ha) (RH_updZ ha rh) ⟨a, vs, rfl, .inr rfl, .inl upd_same, ?_⟩
      exact RUl.mono (fun _ _ e => e) (fun _ z => .inl z) (fun b u _ e => upd_keep ha b u e) (fun b _ u e => upd_keep ha b u e) ru
    · rw [if_neg hz] at p; exact p.elim⟩
end
end MM

/-! MM4: operators, comparisons, tests. -/
namespace MM
open PySem PySem.Spec PyProof.Rows L2

instance (i j : Int) : Decidable (CMul i j) := by unfold CMul; infer_instance
instance (i j : Int) : Decidable (CDiv i j) := by unfold CDiv; infer_instance
instance (i j : Int) : Decidable (CPow i j) := by unfold CPow; infer_instance

/-! ### constants, names -/
def mK (x : DV) : ME := fun _ h => .ok (.d x) h
def mVar (i : Nat) : ME := fun σ h => match σ[i]? with
  | some (some u) => .ok u h
  | _ => .bad
def mVarE (i : Nat) : ME := fun σ h => match σ[i]? with
  | some (some u) => if noOwn u then .ok u h else .bad
  | _ => .bad
section
variable {X : Cx} {c : Cg} {W : WX} {pos : Pos} {pu : Bool}
theorem e_const {e : Expr} {v : V} {x : DV} (h : PE X e (tC v)) (r : ∀ Z H, RD c Z H x v) : PE X e (tV pu .E c W (mK x)) := PE.imp h fun σ H Q ⟨w, Fs, σd, hd, S, p⟩ => fin_d (h := hd) p S.wok S.h (r _ _)
theorem e_int {i j} : PE X (.Constant (.int i) j pos) (tV pu .E c W (mK (.int i))) := e_const pe_int fun _ _ => rfl
theorem e_bl {b j} : PE X (.Constant (.bool b) j pos) (tV pu .E c W (mK (.bl b))) := e_const pe_bl fun _ _ => rfl
theorem e_non {j} : PE X (.Constant .none j pos) (tV pu .E c W (mK .non)) := e_const pe_non fun _ _ => rfl
theorem e_str {x j} : PE X (.Constant (.str x) j pos) (tV pu .E c W (mK (.str x))) := e_const pe_str fun _ _ => rfl
theorem b_var (i : Nat) {x : Str} (h : PE X (.Name x pos) (tVar i)) : PE X (.Name x pos) (tV pu .B c W (mVar i)) := PE.imp h fun σ H Q ⟨w, Fs, σd, hd, S, p⟩ => by
  unfold mVar at p
  split at p
  · rename_i u q
    obtain ⟨v, G, e, r, s⟩ := S.s.get q
    refine ⟨v, e, p w H v G ⟨Ext.refl, S.wok, fun a ha => ?_⟩ .refl S.h r⟩
    have nd := List.nodup_append.mp S.ok.nd
    exact ⟨fun q => nd.2.2 a (s a ha) a q rfl, S.ok.sep a (List.mem_append_left _ (s a ha)), S.ok.trF a (List.mem_append_left _ (s a ha))⟩
  · exact p.elim
theorem e_var (i : Nat) {x : Str} (h : PE X (.Name x pos) (tVar i)) : PE X (.Name x pos) (tV pu .E c W (mVarE i)) := PE.imp h fun σ H Q ⟨w, Fs, σd, hd, S, p⟩ => by
  unfold mVarE at p
  split at p
  · rename_i u q
    obtain ⟨v, G, e, r, s⟩ := S.s.get q
    by_cases hn : noOwn u = true
    · rw [if_pos hn] at p
      have eG := noOwn_F hn r
      subst eG
      exact ⟨v, e, p w H v [] (.same S.wok) .refl S.h r⟩
    · rw [if_neg hn] at p; exact p.elim
  · exact p.elim
theorem e_glo {x : Str} {a : Addr} (hg : Gl X x) (hm : X.mg x = some (.ref a)) (hc : c.mg = X.mg) (hd : (x == ("__debug__" : Str)) = false := by decide) : PE X (.Name x pos) (tV pu .E c W (mK (.glo x))) :=
  e_const (pe_glob (v := .ref a) hg hm rfl hd) fun _ _ => ⟨a, rfl, by rw [hc]; exact hm⟩
theorem e_ty {x : Str} {n : String} (hg : Gl X x) (hm : X.mg x = none) (hv : bootBuiltins x = some (.type n)) (hn : x ≠ "__name__" := by decide) (hd : (x == ("__debug__" : Str)) = false := by decide) : PE X (.Name x pos) (tV pu .E c W (mK (.ty n))) :=
  e_const (pe_bltn (v := .ty n) hg hm hv rfl hn hd) fun _ _ => rfl
end

/-! ### one, two values in, one out -/
def UnS (c : Cg) (r : V → Hp → VK → Prop) (f : HS → UV → Option UV) : Prop :=
  ∀ (pu : Bool) (W : WX) (σ : L2.St) (w : Wd) (H : Hp) (h : HS) (u : UV) (x : V) (Fx : List Addr) (z : UV) (Q : VK), WOk w H → RH c w.Z H w.ρ h w.F → RU c w.Z H w.ρ u x Fx → f h u = some z → EPo pu .E c W σ w H Q (.ok z h) → r x H Q
def OpS (c : Cg) (r : R2) (f : HS → UV → UV → Option UV) : Prop :=
  ∀ (pu : Bool) (W : WX) (σ : L2.St) (w : Wd) (H : Hp) (h : HS) (u u' : UV) (x y : V) (Fx Fy : List Addr) (z : UV) (Q : VK), WOk w H → RH c w.Z H w.ρ h w.F → RU c w.Z H w.ρ u x Fx → RU c w.Z H w.ρ u' y Fy → f h u u' = some z → EPo pu .E c W σ w H Q (.ok z h) → r x y H Q
def mUn (f : HS → UV → Option UV) (m : ME) : ME := fun σ h => bindM (m σ h) fun u h1 => ofO (f h1 u) h1
def mBin (f : HS → UV → UV → Option UV) (ma mb : ME) : ME := fun σ h => bindM (ma σ h) fun u h1 => bindM (mb σ h1) fun v h2 => ofO (f h2 u v) h2
section
variable {X : Cx} {c : Cg} {W : WX} {ma mb m : ME} {σ : L2.St} {H : Hp} {Q : VK} {pu : Bool}
theorem un_ok {r : V → Hp → VK → Prop} {f : HS → UV → Option UV} (hf : UnS c r f) (h : tV pu .E c W (mUn f m) σ H Q) : tV pu .C c W m σ H fun x H1 => r x H1 Q := by
  obtain ⟨w, Fs, σd, hd, S, p⟩ := h
  refine step1 (md := .C) S p fun u h1 w1 H1 x Fx S1 mo ru p1 => ?_
  cases q : f h1 u with
  | none => rw [q] at p1; exact p1.elim
  | some z =>
    rw [q] at p1
    exact hf pu W σ w1 H1 h1 u x Fx z Q S1.wok S1.h ru q p1
theorem bin_ok {r : R2} {f : HS → UV → UV → Option UV} (hf : OpS c r f) (h : tV pu .E c W (mBin f ma mb) σ H Q) : tV pu .B c W ma σ H fun x H1 => tV pu .C c W mb σ H1 fun y H2 => r x y H2 Q := by
  obtain ⟨w, Fs, σd, hd, S, p⟩ := h
  refine step1 (md := .B) S p fun u h1 w1 H1 x Fx S1 mo ru p1 => ?_
  refine step1 (md := .C) S1 p1 fun v h2 w2 H2 y Fy S2 mo2 rv p2 => ?_
  cases q : f h2 u v with
  | none => rw [q] at p2; exact p2.elim
  | some z =>
    rw [q] at p2
    exact hf pu W σ w2 H2 h2 u v x y Fx Fy z Q S2.wok S2.h (ru.after S1.wok (fun a ha => (mo.2.2 a ha).1) mo2.ext.1) rv q p2
variable {a b : Expr} {pos : Pos}
theorem e_op {op : Operator} {r : R2} {f : HS → UV → UV → Option UV} (ho : OpR X (binaryOp op) r) (hf : OpS c r f) (ha : PE X a (tV pu .B c W ma)) (hb : PE X b (tV pu .C c W mb)) : PE X (.BinOp a op b pos) (tV pu .E c W (mBin f ma mb)) :=
  PE.imp (pe_op ho ha hb) fun _ _ _ h => bin_ok hf h
theorem e_un {op : UnaryOp} {r : V → Hp → VK → Prop} {f : HS → UV → Option UV} (ho : UnR X (unaryOp op) r) (hf : UnS c r f) (ha : PE X a (tV pu .C c W ma)) : PE X (.UnaryOp op a pos) (tV pu .E c W (mUn f ma)) :=
  PE.imp (pe_un ho ha) fun _ _ _ h => un_ok hf h
theorem e_cmp {op : CmpOp} {r : R2} {f : HS → UV → UV → Option UV} (ho : OpR X (compareOp op) r) (hf : OpS c r f) (ha : PE X a (tV pu .B c W ma)) (hb : PE X b (tV pu .C c W mb)) (hm : behindInMarks op b = false) : PE X (.Compare a [op] [b] pos) (tV pu .E c W (mBin f ma mb)) :=
  PE.imp (pe_cmpR ho ha hb hm) fun _ _ _ h => bin_ok hf h
/-- f(e), f a built-in function -/
theorem e_call1 {x : Str} {p : Pos} {id : String} {r : List V → Hp → VK → Prop} {f : HS → UV → Option UV} (hc : CallR X (.builtin id) r) (hf : UnS c (fun x H Q => r [x] H Q) f) (hg : Gl X x) (hm : X.mg x = none) (hv : bootBuiltins x = some (.builtin id)) (ha : PE X a (tV pu .C c W ma))
    (hs : starEach [a] X.env = (false, eval a X.env) :: starEach [] X.env := by rfl) (hn : x ≠ "__name__" := by decide) (hdb : (x == ("__debug__" : Str)) = false := by decide) : PE X (.Call (.Name x p) [a] [] pos) (tV pu .E c W (mUn f ma)) :=
  PE.imp (pe_callB hc hg hm hv (pa_cons ha pa_nil hs) hn hdb hs rfl) fun _ _ _ h => un_ok hf h
theorem e_call2 {x : Str} {p : Pos} {id : String} {r : List V → Hp → VK → Prop} {f : HS → UV → UV → Option UV} (hc : CallR X (.builtin id) r) (hf : OpS c (fun x y H Q => r [x, y] H Q) f) (hg : Gl X x) (hm : X.mg x = none) (hv : bootBuiltins x = some (.builtin id)) (ha : PE X a (tV pu .B c W ma)) (hb : PE X b (tV pu .C c W mb))
    (hs : starEach [a, b] X.env = (false, eval a X.env) :: starEach [b] X.env := by rfl) (hs2 : starEach [b] X.env = (false, eval b X.env) :: starEach [] X.env := by rfl) (hn : x ≠ "__name__" := by decide) (hdb : (x == ("__debug__" : Str)) = false := by decide) (hpl : (backTo pos (starEach [b] X.env)).any (·.1) = false := by rfl) : PE X (.Call (.Name x p) [a, b] [] pos) (tV pu .E c W (mBin f ma mb)) :=
  PE.imp (pe_callB hc hg hm hv (pa_cons ha (pa_cons hb pa_nil hs2) hs) hn hdb hs hpl) fun _ _ _ h => bin_ok hf h
theorem e_callTy1 {x : Str} {p : Pos} {T : String} {r : List V → Hp → VK → Prop} {f : HS → UV → Option UV} (hc : CallR X (.type T) r) (hf : UnS c (fun x H Q => r [x] H Q) f) (hg : Gl X x) (hm : X.mg x = none) (hv : bootBuiltins x = some (.type T)) (ha : PE X a (tV pu .C c W ma))
    (hs : starEach [a] X.env = (false, eval a X.env) :: starEach [] X.env := by rfl) (hn : x ≠ "__name__" := by decide) (hdb : (x == ("__debug__" : Str)) = false := by decide) : PE X (.Call (.Name x p) [a] [] pos) (tV pu .E c W (mUn f ma)) :=
  PE.imp (pe_callTy hc hg hm hv (pa_cons ha pa_nil hs) hn hdb hs rfl) fun _ _ _ h => un_ok hf h
end

/-! ### results that are data -/
theorem UnS.data {c : Cg} {r : V → Hp → VK → Prop} {f : HS → UV → Option UV}
    (k : ∀ (w : Wd) (H : Hp) (h : HS) (u : UV) (x : V) (Fx : List Addr) (z : UV) (Q : VK), WOk w H → RH c w.Z H w.ρ h w.F → RU c w.Z H w.ρ u x Fx → f h u = some z → (∀ d v, z = .d d → RD c w.Z H d v → Q v H) → (∃ d, z = .d d) ∧ r x H Q) : UnS c r f :=
  fun pu W σ w H h u x Fx z Q ok hh ru e p => (k w H h u x Fx z Q ok hh ru e fun d v ez rd => fin_d (ez ▸ p) ok hh rd).2
theorem OpS.data {c : Cg} {r : R2} {f : HS → UV → UV → Option UV}
    (k : ∀ (w : Wd) (H : Hp) (h : HS) (u u' : UV) (x y : V) (Fx Fy : List Addr) (z : UV) (Q : VK), WOk w H → RH c w.Z H w.ρ h w.F → RU c w.Z H w.ρ u x Fx → RU c w.Z H w.ρ u' y Fy → f h u u' = some z → (∀ d v, z = .d d → RD c w.Z H d v → Q v H) → r x y H Q) : OpS c r f :=
  fun pu W σ w H h u u' x y Fx Fy z Q ok hh ru ru' e p => k w H h u u' x y Fx Fy z Q ok hh ru ru' e fun d v ez rd => fin_d (ez ▸ p) ok hh rd

/-! ### arithmetic -/
def iOp (C : Int → Int → Bool) (g : Int → Int → DV) : HS → UV → UV → Option UV := fun _ u v => match u, v with
  | .d (.int i), .d (.int j) => if C i j then some (.d (g i j)) else none
  | _, _ => none
theorem iOp_ok {c : Cg} {C : Int → Int → Prop} {D : Int → Int → Bool} {g : Int → Int → DV} {gv : Int → Int → V} (hC : ∀ i j, D i j = true → C i j) (hg : ∀ i j Z H, RD c Z H (g i j) (gv i j)) : OpS c (rI C gv) (iOp D g) := OpS.data fun w H h u u' x y Fx Fy z Q ok hh ru ru' e q => by
  unfold iOp at e
  split at e
  · split at e
    · rename_i i j hd
      cases e
      exact ⟨i, j, ru.2, ru'.2, hC i j hd, q _ _ rfl (hg i j _ _)⟩
    · cases e
  · cases e
theorem iOp_ok0 {c : Cg} {g : Int → Int → DV} {gv : Int → Int → V} (hg : ∀ i j Z H, RD c Z H (g i j) (gv i j)) : OpS c (rI0 gv) (iOp (fun _ _ => true) g) := OpS.data fun w H h u u' x y Fx Fy z Q ok hh ru ru' e q => by
  unfold iOp at e
  split at e
  · rename_i i j
    cases e
    exact ⟨i, j, ru.2, ru'.2, q _ _ rfl (hg i j _ _)⟩
  · cases e
def oAdd : HS → UV → UV → Option UV := fun h u v => match u, v with
  | .d (.int i), .d (.int j) => some (.d (.int (i + j)))
  | .d (.str x), .d (.str y) => if x.length + y.length ≤ sizeLine then some (.d (.str (x ++ y))) else none
  | .d (.tup xs), .d (.tup ys) => if xs.length + ys.length ≤ sizeLine then some (.d (.tup (xs ++ ys))) else none
  | u, v => match asM h u, asM h v with
    | some xs, some ys => if xs.all noOwn && ys.all noOwn && decide (xs.length + ys.length ≤ sizeLine) then some (.own (xs ++ ys)) else none
    | _, _ => none
def rAddM (K : PySem.W.Frag) : R2 := fun x y H Q => (rI0 (fun i j => .int (i + j)) x y H Q ∨ (∃ i j, x = .str i ∧ y = .str j ∧ i.length + j.length ≤ sizeLine ∧ Q (.str (i ++ j)) H)) ∨ (rCatA K x y H Q ∨ rCat x y H Q)
theorem op_addM {X : Cx} : OpR X (binaryOp .Add) (rAddM X.K) := (op_add.or op_add_str).or (op_catA.or op_cat)
theorem RUl.app {c : Cg} {Z : Addr → Prop} {H : Hp} {ρ : List Addr} : ∀ {xs ys : List UV} {vs ws : List V} {F G : List Addr}, RUl c Z H ρ xs vs F → RUl c Z H ρ ys ws G → RUl c Z H ρ (xs ++ ys) (vs ++ ws) (F ++ G)
  | [], _, _, _, _, _, h, t => by rw [h.1, h.2]; exact t
  | _ :: _, _, _, _, _, _, ⟨v, r, F1, F2, e, eF, h, t⟩, q => ⟨v, r ++ _, F1, F2 ++ _, by rw [e]; rfl, by rw [eF, List.append_assoc], h, t.app q⟩
theorem RDl.app {c : Cg} {Z : Addr → Prop} {H : Hp} : ∀ {xs ys : List DV} {vs ws : List V}, RDl c Z H xs vs → RDl c Z H ys ws → RDl c Z H (xs ++ ys) (vs ++ ws)
  | [], _, _, _, h, t => by rw [show _ = [] from h]; exact t
  | _ :: _, _, _, _, ⟨v, r, e, h, t⟩, q => ⟨v, r ++ _, by rw [e]; rfl, h, t.app q⟩
theorem RDl.length {c : Cg} {Z : Addr → Prop} {H : Hp} : ∀ {xs : List DV} {vs : List V}, RDl c Z H xs vs → vs.length = xs.length
  | [], _, h => by rw [show _ = [] from h]; rfl
  | _ :: _, _, ⟨v, r, e, h, t⟩ => by rw [e, List.length_cons, List.length_cons, t.length]
theorem oAdd_ok {c : Cg} : OpS c (rAddM c.K) oAdd := fun pu W σ w H h u u' x y Fx Fy z Q ok hh ru ru' e p => by
  unfold oAdd at e
  split at e
  · cases e
    exact .inl (.inl ⟨_, _, ru.2, ru'.2, fin_d p ok hh rfl⟩)
  · split at e
    · rename_i hz
      cases e
      exact .inl (.inr ⟨_, _, ru.2, ru'.2, hz, fin_d p ok hh rfl⟩)
    · cases e
  · split at e
    · rename_i xs ys hz
      cases e
      obtain ⟨_, a, vs, rfl, fa, ta⟩ := ru
      obtain ⟨_, b, ws, rfl, fb, tb⟩ := ru'
      refine .inr (.inl ⟨a, b, vs, ws, rfl, rfl, fa.sq, fb.sq, by rw [ta.length, tb.length]; exact hz, fun e0 => ?_, fun e1 e2 => ?_, fun e1 e2 q hq => fin_tup p ok hh (ta.app tb) q hq⟩)
      · subst e0
        refine fin_d p ok hh ⟨b, ws, rfl, fb, ?_⟩
        have := ta.app tb
        simpa using this
      · subst e2
        refine fin_d p ok hh ⟨a, vs, rfl, fa, ?_⟩
        have := ta.app tb
        simpa using this
    · cases e
  · split at e
    · rename_i xs ys q1 q2
      split at e
      · rename_i hz
        cases e
        simp only [Bool.and_eq_true, decide_eq_true_eq] at hz
        obtain ⟨a, vs, G, rfl, ha, ta, _⟩ := asM_ok hh ru q1
        obtain ⟨b, ws, G', rfl, hb, tb, _⟩ := asM_ok hh ru' q2
        refine .inr (.inr ⟨a, b, vs, ws, rfl, rfl, ha, hb, by rw [ta.length, tb.length]; exact hz.2, fun q hq => fin_own p ok hh (ta.app tb) (by rw [List.all_append, hz.1.1, hz.1.2]; rfl) q hq⟩)
      · cases e
    · cases e
end MM

/-! MM5: more operators, comparisons, built-in functions. -/
namespace MM
open PySem PySem.Spec PyProof.Rows L2

def mapO {α β : Type} (f : α → Option β) : List α → Option (List β)
  | [] => some []
  | x :: xs => match f x, mapO f xs with
    | some y, some ys => some (y :: ys)
    | _, _ => none
theorem mapO_map {α β γ : Type} {f : α → Option β} {g : γ → α} {k : γ → β} (h : ∀ x, f (g x) = some (k x)) : ∀ xs : List γ, mapO f (xs.map g) = some (xs.map k)
  | [] => rfl
  | x :: xs => by simp only [List.map_cons, mapO, h x, mapO_map h xs]
theorem mapO_len {α β : Type} {f : α → Option β} : ∀ {xs : List α} {ys : List β}, mapO f xs = some ys → ys.length = xs.length
  | [], _, h => by cases h; rfl
  | x :: xs, _, h => by
    simp only [mapO] at h
    split at h
    · rename_i y ys q1 q2
      cases h
      rw [List.length_cons, List.length_cons, mapO_len q2]
    · cases h
/-! ### scalars -/
def uInt : UV → Option Int
  | .d (.int i) => some i
  | _ => none
def fV : UV → Option V
  | .d .non => some .non
  | .d (.bl b) => some (.bl b)
  | .d (.int i) => some (.int i)
  | .d (.str x) => some (.str x)
  | _ => none
section
variable {c : Cg} {Z : Addr → Prop} {H : Hp} {ρ : List Addr}
theorem uInt_ok {u : UV} {i : Int} {v : V} {F : List Addr} (e : uInt u = some i) (r : RU c Z H ρ u v F) : v = .int i := by
  unfold uInt at e
  split at e
  · cases e; exact r.2
  · cases e
theorem uInts_ok : ∀ {us : List UV} {ns : List Int} {vs : List V} {F : List Addr}, mapO uInt us = some ns → RUl c Z H ρ us vs F → vs = ns.map V.int
  | [], _, _, _, e, r => by cases e; exact r.1
  | u :: us, _, _, _, e, ⟨v, r, F1, F2, ev, eF, h, t⟩ => by
    simp only [mapO] at e
    split at e
    · rename_i i ns q1 q2
      cases e
      rw [ev, uInt_ok q1 h, uInts_ok q2 t]; rfl
    · cases e
theorem fV_ok {u : UV} {x : V} {v : V} {F : List Addr} (e : fV u = some x) (r : RU c Z H ρ u v F) : v = x ∧ flatV x = true := by
  unfold fV at e
  split at e <;> first | (cases e; exact ⟨r.2, rfl⟩) | cases e
theorem fVs_ok : ∀ {us : List UV} {ns : List V} {vs : List V} {F : List Addr}, mapO fV us = some ns → RUl c Z H ρ us vs F → vs = ns ∧ ns.all flatV = true
  | [], _, _, _, e, r => by cases e; exact ⟨r.1, rfl⟩
  | u :: us, _, _, _, e, ⟨v, r, F1, F2, ev, eF, h, t⟩ => by
    simp only [mapO] at e
    split at e
    · rename_i i ns q1 q2
      cases e
      have h1 := fV_ok q1 h
      have h2 := fVs_ok q2 t
      exact ⟨by rw [ev, h1.1, h2.1], by rw [List.all_cons, h1.2, h2.2]; rfl⟩
    · cases e
theorem ints_RUl : ∀ (ns : List Int), RUl c Z H ρ (ns.map fun i => .d (.int i)) (ns.map V.int) []
  | [] => ⟨rfl, rfl⟩
  | n :: ns => ⟨.int n, ns.map V.int, [], [], rfl, rfl, ⟨rfl, rfl⟩, ints_RUl ns⟩
theorem ints_RDl : ∀ (ns : List Int), RDl c Z H (ns.map .int) (ns.map V.int)
  | [] => rfl
  | n :: ns => ⟨.int n, ns.map V.int, rfl, rfl, ints_RDl ns⟩
end
/-- list or tuple -/
def asQ (h : HS) (u : UV) : Option (List UV) := match asT u with
  | some xs => some xs
  | none => asL h u
theorem asQ_ok {c : Cg} {w : Wd} {H : Hp} {h : HS} {u : UV} {v : V} {Fu : List Addr} {xs : List UV} (hh : RH c w.Z H w.ρ h w.F) (r : RU c w.Z H w.ρ u v Fu) (e : asQ h u = some xs) :
    ∃ a vs G, v = .ref a ∧ (SqL c.K H a vs ∨ SqT c.K H a vs) ∧ RUl c w.Z H w.ρ xs vs G ∧ ∀ b ∈ G, b ∈ Fu ∨ b ∈ w.F := by
  unfold asQ at e
  split at e
  · rename_i ys q
    cases e
    obtain ⟨a, vs, G, e1, e2, e3, e4⟩ := asT_ok r q
    exact ⟨a, vs, G, e1, .inr e2, e3, fun b hb => .inl (e4 b hb)⟩
  · obtain ⟨a, vs, G, e1, e2, e3, e4⟩ := asL_ok hh r e
    exact ⟨a, vs, G, e1, .inl e2, e3, e4⟩

/-! ### arithmetic -/
abbrev oSub := iOp (fun _ _ => true) (fun i j => .int (i - j))
abbrev oFdiv := iOp (fun i j => decide (CDiv i j)) (fun i j => .int (i / j))
abbrev oMod := iOp (fun _ j => decide (0 < j)) (fun i j => .int (i % j))
abbrev oPow := iOp (fun i j => decide (CPow i j)) (fun i j => .int (i ^ j.toNat))
def oMul : HS → UV → UV → Option UV := fun h u v => match u, v with
  | .d (.int i), .d (.int j) => if CMul i j then some (.d (.int (i * j))) else none
  | u, .d (.int k) => match asM h u with
    | some xs => if xs.all noOwn && decide (-(2 ^ 63) ≤ k ∧ k < 2 ^ 63 ∧ xs.length * k.toNat ≤ sizeLine) then some (.own (List.replicate k.toNat xs).flatten) else none
    | _ => none
  | _, _ => none
def oNeg : HS → UV → Option UV := fun _ u => (uInt u).map fun i => .d (.int (-i))
def rMulM : R2 := fun x y H Q => rI CMul (fun i j => .int (i * j)) x y H Q ∨ rRep x y H Q
theorem RUl.rep {c : Cg} {Z : Addr → Prop} {H : Hp} {ρ : List Addr} {xs : List UV} {vs : List V} (h : RUl c Z H ρ xs vs []) : ∀ k : Nat, RUl c Z H ρ (List.replicate k xs).flatten (List.replicate k vs).flatten []
  | 0 => ⟨rfl, rfl⟩
  | k + 1 => by
    rw [List.replicate_succ, List.replicate_succ, List.flatten_cons, List.flatten_cons]
    exact h.app (RUl.rep h k)
theorem all_rep {xs : List UV} (h : xs.all noOwn = true) : ∀ k : Nat, (List.replicate k xs).flatten.all noOwn = true
  | 0 => rfl
  | k + 1 => by
    rw [List.replicate_succ, List.flatten_cons, List.all_append, h, all_rep h k]; rfl
section
variable {X : Cx} {c : Cg}
theorem oSub_ok : OpS c (rI0 fun i j => .int (i - j)) oSub := iOp_ok0 fun _ _ _ _ => rfl
theorem oFdiv_ok : OpS c (rI CDiv fun i j => .int (i / j)) oFdiv := iOp_ok (fun _ _ h => of_decide_eq_true h) fun _ _ _ _ => rfl
theorem oMod_ok : OpS c (rI (fun _ j => 0 < j) fun i j => .int (i % j)) oMod := iOp_ok (fun _ _ h => of_decide_eq_true h) fun _ _ _ _ => rfl
theorem oPow_ok : OpS c (rI CPow fun i j => .int (i ^ j.toNat)) oPow := iOp_ok (fun _ _ h => of_decide_eq_true h) fun _ _ _ _ => rfl
theorem op_mulM : OpR X (binaryOp .Mult) rMulM := op_mul.or op_rep
theorem oMul_ok : OpS c rMulM oMul := fun pu W σ w H h u u' x y Fx Fy z Q ok hh ru ru' e p => by
  unfold oMul at e
  split at e
  · split at e
    · rename_i hc
      cases e
      exact .inl ⟨_, _, ru.2, ru'.2, hc, fin_d p ok hh rfl⟩
    · cases e
  · split at e
    · rename_i xs q
      split at e
      · rename_i hz
        cases e
        simp only [Bool.and_eq_true, decide_eq_true_eq] at hz
        obtain ⟨a, vs, G, rfl, ha, ta, _⟩ := asM_ok hh ru q
        have eG := noOwn_all hz.1 ta
        subst eG
        exact .inr ⟨a, _, vs, rfl, ru'.2, ha, hz.2.1, hz.2.2.1, by rw [ta.length]; exact hz.2.2.2, fun q hq => fin_own p ok hh (ta.rep _) (all_rep hz.1 _) q hq⟩
      · cases e
    · cases e
  · cases e
theorem oNeg_ok : UnS c (rU fun i => .int (-i)) oNeg := fun pu W σ w H h u x Fx z Q ok hh ru e p => by
  unfold oNeg at e
  rw [Option.map_eq_some_iff] at e
  obtain ⟨i, q, rfl⟩ := e
  exact ⟨i, uInt_ok q ru, fin_d p ok hh rfl⟩

/-! ### comparisons -/
def oLt (s : Bool) (g : Int → Int → Bool) : HS → UV → UV → Option UV := fun _ u v => match u, v with
  | .d (.int i), .d (.int j) => some (.d (.bl (g i j)))
  | _, _ => none
abbrev cLt := oLt true fun i j => decide (i < j)
abbrev cLe := oLt true fun i j => decide (i ≤ j)
abbrev cGt := oLt true fun i j => decide (j < i)
abbrev cGe := oLt true fun i j => decide (j ≤ i)
theorem oLt_ok {s : Bool} {g : Int → Int → Bool} : OpS c (rI0 fun i j => .bl (g i j)) (oLt s g) := OpS.data fun w H h u u' x y Fx Fy z Q ok hh ru ru' e q => by
  unfold oLt at e
  split at e
  · rename_i i j
    cases e
    exact ⟨i, j, ru.2, ru'.2, q _ _ rfl rfl⟩
  · cases e
/-- is None -/
def isNon : UV → Bool
  | .d .non => true
  | _ => false
def oIs : HS → UV → UV → Option UV := fun _ u v => match v with
  | .d .non => some (.d (.bl (isNon u)))
  | _ => none
def oIsNot : HS → UV → UV → Option UV := fun _ u v => match v with
  | .d .non => some (.d (.bl (!isNon u)))
  | _ => none
theorem isNon_ok {Z : Addr → Prop} {H : Hp} {ρ : List Addr} {u : UV} {x : V} {F : List Addr} (r : RU c Z H ρ u x F) : decide (x = .non) = isNon u := by
  cases u with
  | d y =>
    obtain ⟨_, r⟩ := r
    cases y with
    | non => rw [show x = _ from r]; rfl
    | bl b => rw [show x = _ from r]; rfl
    | int b => rw [show x = _ from r]; rfl
    | str b => rw [show x = _ from r]; rfl
    | ty b => rw [show x = _ from r]; rfl
    | tup xs => obtain ⟨a, _, rfl, _⟩ := r; rfl
    | lst xs => obtain ⟨a, _, rfl, _⟩ := r; rfl
    | rol xs => obtain ⟨a, _, rfl, _⟩ := r; rfl
    | dK xs => obtain ⟨a, _, rfl, _⟩ := r; rfl
    | dT xs => obtain ⟨a, _, rfl, _⟩ := r; rfl
    | ins C xs => obtain ⟨a, _, _, _, rfl, _⟩ := r; rfl
    | exn C xs => obtain ⟨a, _, _, _, rfl, _⟩ := r; rfl
    | glo x => obtain ⟨a, rfl, _⟩ := r; rfl
  | ref i => obtain ⟨_, a, _, rfl⟩ := r; rfl
  | tp xs => obtain ⟨a, _, rfl, _⟩ := r; rfl
  | fl xs => obtain ⟨a, _, rfl, _⟩ := r; rfl
  | own xs => obtain ⟨a, _, _, rfl, _⟩ := r; rfl
  | odK xs => obtain ⟨a, _, _, rfl, _⟩ := r; rfl
  | odT xs => obtain ⟨a, _, _, rfl, _⟩ := r; rfl
  | clo i xs => obtain ⟨_, _, f, _, _, _, _, rfl, _⟩ := r; rfl
theorem oIs_ok : OpS c (fun x y H Q => y = .non ∧ Q (.bl (decide (x = .non))) H) oIs := OpS.data fun w H h u u' x y Fx Fy z Q ok hh ru ru' e q => by
  unfold oIs at e
  split at e
  · cases e
    refine ⟨ru'.2, ?_⟩
    rw [isNon_ok ru]
    exact q _ _ rfl rfl
  · cases e
theorem oIsNot_ok : OpS c (fun x y H Q => y = .non ∧ Q (.bl (!decide (x = .non))) H) oIsNot := OpS.data fun w H h u u' x y Fx Fy z Q ok hh ru ru' e q => by
  unfold oIsNot at e
  split at e
  · cases e
    refine ⟨ru'.2, ?_⟩
    rw [isNon_ok ru]
    exact q _ _ rfl rfl
  · cases e
end

/-! ### == of data -/
mutual
def dP : DV → Option PyData
  | .non => some .none
  | .bl b => some (.bool b)
  | .int i => some (.int i)
  | .str x => some (.str x)
  | .tup xs => (dPl xs).map .tuple
  | .lst xs => (dPl xs).map .list
  | .rol xs => (dPl xs).map .list
  | .dK _ => none
  | .dT _ => none
  | .ins _ _ => none
  | .exn _ _ => none
  | .glo _ => none
  | .ty _ => none
def dPl : List DV → Option (List PyData)
  | [] => some []
  | x :: xs => match dP x, dPl xs with
    | some y, some ys => some (y :: ys)
    | _, _ => none
end
section
variable {c : Cg} {Z : Addr → Prop} {H : Hp}
mutual
theorem dP_ok : ∀ {x : DV} {v : V} {d : PyData}, RD c Z H x v → dP x = some d → Dp c.K H v d
  | .non, _, _, r, e => by cases e; rw [show _ = _ from r]; exact .non
  | .bl _, _, _, r, e => by cases e; rw [show _ = _ from r]; exact .bl _
  | .int _, _, _, r, e => by cases e; rw [show _ = _ from r]; exact .int _
  | .str _, _, _, r, e => by cases e; rw [show _ = _ from r]; exact .str _
  | .tup xs, _, _, ⟨a, vs, e1, f, t⟩, e => by
    simp only [dP, Option.map_eq_some_iff] at e
    obtain ⟨ds, q, rfl⟩ := e
    rw [e1]; exact .tup f.sq (dPl_ok t q)
  | .lst xs, _, _, ⟨a, vs, e1, _, f, t⟩, e => by
    simp only [dP, Option.map_eq_some_iff] at e
    obtain ⟨ds, q, rfl⟩ := e
    rw [e1]; exact .lst (.of f) (dPl_ok t q)
  | .rol xs, _, _, ⟨a, vs, e1, f, t⟩, e => by
    simp only [dP, Option.map_eq_some_iff] at e
    obtain ⟨ds, q, rfl⟩ := e
    rw [e1]; exact .lst f.sq (dPl_ok t q)
  | .dK _, _, _, _, e => by cases e
  | .dT _, _, _, _, e => by cases e
  | .ins _ _, _, _, _, e => by cases e
  | .exn _ _, _, _, _, e => by cases e
  | .glo _, _, _, _, e => by cases e
  | .ty _, _, _, _, e => by cases e
theorem dPl_ok : ∀ {x : List DV} {v : List V} {d : List PyData}, RDl c Z H x v → dPl x = some d → DpAll c.K H v d
  | [], _, _, r, e => by cases e; rw [show _ = _ from r]; exact .nil
  | x :: xs, _, _, ⟨v, r, e1, h, t⟩, e => by
    simp only [dPl] at e
    split at e
    · rename_i y ys q1 q2
      cases e
      rw [e1]; exact .cons (dP_ok h q1) (dPl_ok t q2)
    · cases e
end
end
/-- data as it is now -/
def dat (h : HS) : UV → Option DV
  | .ref i => match h[i]? with
    | some (.lst xs) => (toDl xs).map .lst
    | _ => none
  | u => toD u
theorem dat_ok {c : Cg} {w : Wd} {H : Hp} {h : HS} {u : UV} {v : V} {F : List Addr} {x : DV} (hh : RH c w.Z H w.ρ h w.F) (r : RU c w.Z H w.ρ u v F) (e : dat h u = some x) : RD c (fun _ => True) H x v := by
  unfold dat at e
  split at e
  · rename_i i
    split at e
    · rename_i xs q
      rw [Option.map_eq_some_iff] at e
      obtain ⟨ys, q2, rfl⟩ := e
      obtain ⟨_, a, e1, rfl⟩ := r
      obtain ⟨a', G, e3, ⟨vs, G', e4, e5, t⟩, s⟩ := hh.get q
      rw [e1] at e3; cases e3
      exact ⟨a, vs, rfl, trivial, e4, toDl_ok (fun _ _ => trivial) (fun _ _ => trivial) t q2⟩
    · cases e
  · exact toD_ok (fun _ _ => trivial) (fun _ _ => trivial) r e
def eqD (x y : DV) : Option Bool := match dP x, dP y with
  | some a, some b => if SeqAt.shaped a && SeqAt.shaped b then some (PyData.eqv a b) else none
  | _, _ => none
def oEq (neg : Bool) : HS → UV → UV → Option UV := fun h u v => match dat h u, dat h v with
  | some x, some y => (eqD x y).map fun b => .d (.bl (if neg then !b else b))
  | _, _ => none
section
variable {c : Cg}
theorem eqD_ok {Z : Addr → Prop} {H : Hp} {x y : DV} {v u : V} {b : Bool} (rx : RD c Z H x v) (ry : RD c Z H y u) (e : eqD x y = some b) : ∃ d f, Dp c.K H v d ∧ Dp c.K H u f ∧ SeqAt.shaped d = true ∧ SeqAt.shaped f = true ∧ b = PyData.eqv d f := by
  unfold eqD at e
  split at e
  · rename_i d f q1 q2
    split at e
    · rename_i hs
      cases e
      rw [Bool.and_eq_true] at hs
      exact ⟨d, f, dP_ok rx q1, dP_ok ry q2, hs.1, hs.2, rfl⟩
    · cases e
  · cases e
theorem oEq_ok : OpS c (rEqD c.K) (oEq false) := OpS.data fun w H h u u' x y Fx Fy z Q ok hh ru ru' e q => by
  unfold oEq at e
  split at e
  · rename_i d f q1 q2
    rw [Option.map_eq_some_iff] at e
    obtain ⟨b, e1, rfl⟩ := e
    obtain ⟨d', f', h1, h2, h3, h4, rfl⟩ := eqD_ok (dat_ok hh ru q1) (dat_ok hh ru' q2) e1
    exact ⟨d', f', h1, h2, h3, h4, q _ _ rfl rfl⟩
  · cases e
theorem oNe_ok : OpS c (rNeD c.K) (oEq true) := OpS.data fun w H h u u' x y Fx Fy z Q ok hh ru ru' e q => by
  unfold oEq at e
  split at e
  · rename_i d f q1 q2
    rw [Option.map_eq_some_iff] at e
    obtain ⟨b, e1, rfl⟩ := e
    obtain ⟨d', f', h1, h2, h3, h4, rfl⟩ := eqD_ok (dat_ok hh ru q1) (dat_ok hh ru' q2) e1
    exact ⟨d', f', h1, h2, h3, h4, q _ _ rfl rfl⟩
  · cases e
end

/-! ### in -/
def oIn (neg : Bool) : HS → UV → UV → Option UV := fun h u v => match fV u, (asQ h v).bind (mapO fV) with
  | some x, some vs => some (.d (.bl (if neg then !inV x vs else inV x vs)))
  | _, _ => none
section
variable {c : Cg} {X : Cx}
theorem oIn_ok {neg : Bool} : OpS c (rIn c.K neg) (oIn neg) := OpS.data fun w H h u u' x y Fx Fy z Q ok hh ru ru' e q => by
  unfold oIn at e
  split at e
  · rename_i x' vs q1 q2
    cases e
    rw [Option.bind_eq_some_iff] at q2
    obtain ⟨us, q2, q3⟩ := q2
    obtain ⟨a, ws, G, e1, e2, e3, _⟩ := asQ_ok hh ru' q2
    obtain ⟨e4, e5⟩ := fVs_ok q3 e3
    subst e4
    obtain ⟨e6, e7⟩ := fV_ok q1 ru
    subst e6
    exact ⟨a, ws, e1, e2, e7, e5, q _ _ rfl rfl⟩
  · cases e

/-! ### built-in functions -/
def lenU (h : HS) : UV → Option Nat
  | .d (.str x) => if x.length ≤ sizeLine then some x.length else none
  | u => (asQ h u).map (·.length)
def fLen : HS → UV → Option UV := fun h u => (lenU h u).map fun (n : Nat) => .d (.int (n : Int))
theorem fLen_ok : UnS c (fun x H Q => ∃ y n, [x] = [y] ∧ LenV c.K y H n ∧ Q (.int n) H) fLen := fun pu W σ w H h u x Fx z Q ok hh ru e p => by
  unfold fLen at e
  rw [Option.map_eq_some_iff] at e
  obtain ⟨n, q, rfl⟩ := e
  refine ⟨x, n, rfl, ?_, fin_d p ok hh rfl⟩
  unfold lenU at q
  split at q
  · split at q
    · rename_i hz
      cases q
      rw [show x = _ from ru.2]
      exact ⟨hz, rfl⟩
    · cases q
  · rw [Option.map_eq_some_iff] at q
    obtain ⟨xs, q, rfl⟩ := q
    obtain ⟨a, ws, G, rfl, e2, e3, _⟩ := asQ_ok hh ru q
    rcases e2 with e2 | e2
    · exact .inl ⟨ws, e2, e3.length.symm⟩
    · exact .inr ⟨ws, e2, e3.length.symm⟩
def fAbs : HS → UV → Option UV := fun _ u => (uInt u).map fun i => .d (.int (if i < 0 then -i else i))
theorem fAbs_ok : UnS c (fun x H Q => ∃ i, [x] = [.int i] ∧ Q (.int (if i < 0 then -i else i)) H) fAbs := fun pu W σ w H h u x Fx z Q ok hh ru e p => by
  unfold fAbs at e
  rw [Option.map_eq_some_iff] at e
  obtain ⟨i, q, rfl⟩ := e
  exact ⟨i, by rw [uInt_ok q ru], fin_d p ok hh rfl⟩
def fInt : HS → UV → Option UV := fun _ u => match u with
  | .d (.int i) => some (.d (.int i))
  | .d (.bl k) => some (.d (.int (if k then 1 else 0)))
  | _ => none
theorem fInt_ok : UnS c (fun x H Q => (∃ i, [x] = [.int i] ∧ Q (.int i) H) ∨ ∃ k, [x] = [.bl k] ∧ Q (.int (if k then 1 else 0)) H) fInt := fun pu W σ w H h u x Fx z Q ok hh ru e p => by
  unfold fInt at e
  split at e
  · cases e
    exact .inl ⟨_, by rw [show x = _ from ru.2], fin_d p ok hh rfl⟩
  · cases e
    exact .inr ⟨_, by rw [show x = _ from ru.2], fin_d p ok hh rfl⟩
  · cases e
end
end MM

/-! MM6: items, slices, sums, tests. -/
namespace MM
open PySem PySem.Spec PyProof.Rows L2

/-! ### items -/
def OpM (md : Md) (c : Cg) (r : R2) (f : HS → UV → UV → Option UV) : Prop :=
  ∀ (pu : Bool) (W : WX) (σ : L2.St) (w : Wd) (H : Hp) (h : HS) (u u' : UV) (x y : V) (Fx Fy : List Addr) (z : UV) (Q : VK), WOk w H → RH c w.Z H w.ρ h w.F → RU c w.Z H w.ρ u x Fx → RU c w.Z H w.ρ u' y Fy → f h u u' = some z → EPo pu md c W σ w H Q (.ok z h) → r x y H Q
section
variable {X : Cx} {c : Cg} {W : WX} {ma mb m : ME} {σ : L2.St} {H : Hp} {Q : VK} {a b : Expr} {pos : Pos} {pu : Bool}
theorem bin_okM {md : Md} {r : R2} {f : HS → UV → UV → Option UV} (hf : OpM md c r f) (h : tV pu md c W (mBin f ma mb) σ H Q) : tV pu .B c W ma σ H fun x H1 => tV pu .C c W mb σ H1 fun y H2 => r x y H2 Q := by
  obtain ⟨w, Fs, σd, hd, S, p⟩ := h
  refine step1 (md := .B) S p fun u h1 w1 H1 x Fx S1 mo ru p1 => ?_
  refine step1 (md := .C) S1 p1 fun v h2 w2 H2 y Fy S2 mo2 rv p2 => ?_
  cases q : f h2 u v with
  | none => rw [q] at p2; exact p2.elim
  | some z =>
    rw [q] at p2
    exact hf pu W σ w2 H2 h2 u v x y Fx Fy z Q S2.wok S2.h (ru.after S1.wok (fun a ha => (mo.2.2 a ha).1) mo2.ext.1) rv q p2
def itemU (h : HS) (u v : UV) : Option UV := match uInt v with
  | some i => match asQ h u with
    | some xs => atI xs i
    | none => match u with
      | .d (.str x) => if x.length ≤ sizeLine then (atI x.cps.toList i).map fun k => .d (.str ⟨#[k]⟩) else none
      | _ => none
  | none => none
def oItem (h : HS) (u v : UV) : Option UV := match itemU h u v with
  | some z => if noOwn z then some z else none
  | none => none
theorem atI_RU {c : Cg} {Z : Addr → Prop} {H : Hp} {ρ : List Addr} {xs : List UV} {vs : List V} {F : List Addr} {i : Int} {z : UV} (h : RUl c Z H ρ xs vs F) (e : atI xs i = some z) : ∃ v G, atI vs i = some v ∧ RU c Z H ρ z v G := by
  unfold atI at e ⊢
  rw [h.length]
  cases q : ixN xs.length i with
  | none => rw [q] at e; cases e
  | some j =>
    rw [q] at e
    obtain ⟨v, G, e1, e2, _⟩ := h.get (i := j) (by simpa using e)
    exact ⟨v, G, by simpa using e1, e2⟩
theorem itemU_ok {w : Wd} {h : HS} {u v z : UV} {x y : V} {Fx Fy : List Addr} (hh : RH c w.Z H w.ρ h w.F) (ru : RU c w.Z H w.ρ u x Fx) (rv : RU c w.Z H w.ρ v y Fy) (e : itemU h u v = some z) (q : ∀ t G, RU c w.Z H w.ρ z t G → Q t H) : rIx c.K x y H Q := by
  unfold itemU at e
  split at e
  · rename_i i q1
    have ey := uInt_ok q1 rv
    split at e
    · rename_i xs q2
      obtain ⟨a, vs, G, e1, e2, e3, _⟩ := asQ_ok hh ru q2
      obtain ⟨t, G', e4, e5⟩ := atI_RU e3 e
      rcases e2 with e2 | e2
      · exact .inl ⟨a, vs, i, t, e1, ey, e2, e4, q t G' e5⟩
      · exact .inr (.inl ⟨a, vs, i, t, e1, ey, e2, e4, q t G' e5⟩)
    · split at e
      · split at e
        · rename_i hz
          rw [Option.map_eq_some_iff] at e
          obtain ⟨k, e, rfl⟩ := e
          exact .inr (.inr ⟨_, i, k, ru.2, ey, hz, e, q _ [] ⟨rfl, rfl⟩⟩)
        · cases e
      · cases e
  · cases e
theorem itemC_ok : OpM .C c (rIx c.K) itemU := fun pu W σ w H h u u' x y Fx Fy z Q ok hh ru ru' e p =>
  itemU_ok hh ru ru' e fun t G r => p w H t G ⟨Ext.refl, ok⟩ .refl hh r
theorem oItem_ok : OpS c (rIx c.K) oItem := fun pu W σ w H h u u' x y Fx Fy z Q ok hh ru ru' e p => by
  unfold oItem at e
  split at e
  · rename_i z' q
    split at e
    · rename_i hn
      cases e
      refine itemU_ok hh ru ru' q fun t G r => ?_
      have eG := noOwn_F hn r
      subst eG
      exact p w H t [] (.same ok) .refl hh r
    · cases e
  · cases e
/-- a[b], handed on -/
theorem e_ix (hK : c.K = X.K) (ha : PE X a (tV pu .B c W ma)) (hb : PE X b (tV pu .C c W mb)) (hs : PlainIx b) : PE X (.Subscript a b pos) (tV pu .E c W (mBin oItem ma mb)) :=
  PE.imp (pe_ix ix_seq ha hb hs) fun _ _ _ h => by rw [← hK]; exact bin_ok oItem_ok h
/-- a[b], looked at -/
theorem c_ix (hK : c.K = X.K) (ha : PE X a (tV pu .B c W ma)) (hb : PE X b (tV pu .C c W mb)) (hs : PlainIx b) : PE X (.Subscript a b pos) (tV pu .C c W (mBin itemU ma mb)) :=
  PE.imp (pe_ix ix_seq ha hb hs) fun _ _ _ h => by rw [← hK]; exact bin_okM itemC_ok h

/-- a written dict of the module by text keys -/
def tabGet (t : List (Str × DV)) : HS → UV → Option UV := fun _ u => match u with
  | .d (.str x) => (t.lookup x).map .d
  | _ => none
def TabOk (c : Cg) (w0 : World) (p : Addr) (t : List (Str × DV)) : Prop := ∀ x d, t.lookup x = some d → ∃ v, KDct c.K w0 p x v ∧ ∀ Z H, RD c Z H d v
theorem e_tab {x : Str} {px : Pos} {p : Addr} {t : List (Str × DV)} (hK : c.K = X.K) (hg : Gl X x) (hm : X.mg x = some (.ref p)) (ht : TabOk c X.w p t) (hb : PE X b (tV pu .C c W mb)) (hs : PlainIx b) (hd : (x == ("__debug__" : Str)) = false := by decide) :
    PE X (.Subscript (.Name x px) b pos) (tV pu .E c W (mUn (tabGet t) mb)) :=
  PE.imp (pe_ix ix_kdict (pe_glob (v := .ref p) hg hm rfl hd) hb hs) fun σ H Q h => by
    refine un_ok (r := fun y H2 Q => rIxD X.K X.w (.ref p) y H2 Q) (fun pu W σ w H h u x Fx z Q ok hh ru e q => ?_) h
    unfold tabGet at e
    split at e
    · rename_i y
      rw [Option.map_eq_some_iff] at e
      obtain ⟨d, e, rfl⟩ := e
      obtain ⟨v, k, r⟩ := ht y d e
      rw [hK] at k
      exact ⟨p, y, v, rfl, ru.2, k, fin_d q ok hh (r _ _)⟩
    · cases e

/-! ### slices -/
def cutL {α : Type} (xs : List α) (lo hi : Option Int) : List α := (xs.drop (HT.sIx xs.length 0 lo)).take (HT.sIx xs.length xs.length hi - HT.sIx xs.length 0 lo)
theorem RUl.drop {Z : Addr → Prop} {ρ : List Addr} : ∀ {xs : List UV} {vs : List V} (n : Nat), RUl c Z H ρ xs vs [] → RUl c Z H ρ (xs.drop n) (vs.drop n) []
  | _, _, 0, h => h
  | [], _, n + 1, h => by rw [h.1]; exact ⟨rfl, rfl⟩
  | _ :: _, _, n + 1, ⟨v, r, F1, F2, e, eF, h, t⟩ => by
    have := List.append_eq_nil_iff.mp eF.symm
    rw [this.2] at t
    rw [e]; exact RUl.drop n t
theorem RUl.take {Z : Addr → Prop} {ρ : List Addr} : ∀ {xs : List UV} {vs : List V} (n : Nat), RUl c Z H ρ xs vs [] → RUl c Z H ρ (xs.take n) (vs.take n) []
  | _, _, 0, h => ⟨rfl, rfl⟩
  | [], _, n + 1, h => by rw [h.1]; exact ⟨rfl, rfl⟩
  | _ :: _, _, n + 1, ⟨v, r, F1, F2, e, eF, h, t⟩ => by
    have := List.append_eq_nil_iff.mp eF.symm
    rw [this.2] at t
    rw [this.1] at h
    rw [e]; exact ⟨v, r.take n, [], [], rfl, rfl, h, RUl.take n t⟩
theorem RDl.drop {Z : Addr → Prop} : ∀ {xs : List DV} {vs : List V} (n : Nat), RDl c Z H xs vs → RDl c Z H (xs.drop n) (vs.drop n)
  | _, _, 0, h => h
  | [], _, n + 1, h => by rw [show _ = [] from h]; rfl
  | _ :: _, _, n + 1, ⟨v, r, e, h, t⟩ => by rw [e]; exact RDl.drop n t
theorem RDl.take {Z : Addr → Prop} : ∀ {xs : List DV} {vs : List V} (n : Nat), RDl c Z H xs vs → RDl c Z H (xs.take n) (vs.take n)
  | _, _, 0, h => rfl
  | [], _, n + 1, h => by rw [show _ = [] from h]; rfl
  | _ :: _, _, n + 1, ⟨v, r, e, h, t⟩ => by rw [e]; exact ⟨v, r.take n, rfl, h, RDl.take n t⟩
theorem all_cut {xs : List UV} {lo hi : Option Int} (h : xs.all noOwn = true) : (cutL xs lo hi).all noOwn = true := by
  rw [List.all_eq_true] at h ⊢
  exact fun x hx => h x (List.mem_of_mem_drop (List.mem_of_mem_take hx))
def sliceU (h : HS) (u : UV) (lo hi : Option Int) : Option UV := match u with
  | .d (.tup xs) => some (.d (.tup (cutL xs lo hi)))
  | u => match asL h u with
    | some xs => if xs.all noOwn then some (.own (cutL xs lo hi)) else none
    | none => none
abbrev MO := SL → HS → MR (Option Int)
def oNo : MO := fun _ h => .ok none h
def oYes (m : ME) : MO := fun σ h => bindM (m σ h) fun u h1 => ofO ((uInt u).map some) h1
def mSlice (m : ME) (lo hi : MO) : ME := fun σ h => bindM (m σ h) fun u h1 => bindM (lo σ h1) fun l h2 => bindM (hi σ h2) fun r h3 => ofO (sliceU h3 u l r) h3
def tO (pu : Bool) (c : Cg) (W : WX) (m : MO) : TO := fun σ H Q => ∃ w Fs σd hd, Sta c w Fs σd hd σ H ∧ match m σd hd with
  | .ok o h' => ∀ (w' : Wd) (H' : Hp), Ext w H w' H' → WOk w' H' → Pu pu H H' → RH c w'.Z H' w'.ρ h' w'.F → Q o H'
  | .err e h' => ∀ (w' : Wd) (H' : Hp) (cls : Value) (dx : Option Addr), Ext w H w' H' → WOk w' H' → RH c w'.Z H' w'.ρ h' w'.F → RX c w'.Z H' e cls dx → W cls dx σ H'
  | .bad => False
theorem PO.imp {e : Option Expr} {t t' : TO} (h : PO X e t) (i : ∀ σ H Q, t' σ H Q → t σ H Q) : PO X e t' := ⟨fun pins s σ H Q I q => h.run pins s σ H Q I (i σ H Q q)⟩
theorem o_no : PO X none (tO pu c W oNo) := PO.imp po_none fun σ H Q ⟨w, Fs, σd, hd, S, p⟩ => p w H Ext.refl S.wok .refl S.h
theorem o_yes (h : PE X a (tV pu .C c W m)) : PO X (some a) (tO pu c W (oYes m)) := PO.imp (po_some h) fun σ H Q ⟨w, Fs, σd, hd, S, p⟩ => ⟨w, Fs, σd, hd, S, by
  unfold oYes at p
  revert p
  cases m σd hd with
  | err x h' => exact fun p => p
  | bad => exact fun p => p
  | ok u h1 =>
    intro p w1 H1 x Fx mo pp rh ru
    cases q : uInt u with
    | none => simp only [bindM_ok, q, Option.map_none, ofO_none] at p
    | some i =>
      simp only [bindM_ok, q, Option.map_some, ofO_some] at p
      exact ⟨i, uInt_ok q ru, p w1 H1 mo.1 mo.2 pp rh⟩⟩
def rSlM (K : PySem.W.Frag) : V → Option Int → Option Int → Hp → VK → Prop := fun x lo hi H Q => rSlA K x lo hi H Q ∨ rSlL K x lo hi H Q
theorem cut_whole {α : Type} {xs : List α} {lo hi : Option Int} (h1 : HT.sIx xs.length 0 lo = 0) (h2 : HT.sIx xs.length xs.length hi = xs.length) : cutL xs lo hi = xs := by
  unfold cutL
  rw [h1, h2]
  simp
theorem sliceU_ok {w : Wd} {h : HS} {u z : UV} {x : V} {Fx : List Addr} {lo hi : Option Int} (ok : WOk w H) (hh : RH c w.Z H w.ρ h w.F) (ru : RU c w.Z H w.ρ u x Fx) (e : sliceU h u lo hi = some z) (p : EPo pu .E c W σ w H Q (.ok z h)) : rSlM c.K x lo hi H Q := by
  unfold sliceU at e
  split at e
  · rename_i xs
    cases e
    obtain ⟨_, a, vs, rfl, f, t⟩ := ru
    have tt : RDl c w.Z H (cutL xs lo hi) (cutV vs lo hi) := by
      show RDl c w.Z H ((xs.drop _).take _) ((vs.drop _).take _)
      rw [t.length]
      exact (t.drop _).take _
    refine .inl ⟨a, vs, rfl, f.sq, fun e => ?_, fun _ q hq => fin_tup p ok hh tt q hq⟩
    rw [t.length] at e
    rw [cut_whole e.1 e.2] at p
    exact fin_d p ok hh ⟨a, vs, rfl, f, t⟩
  · split at e
    · rename_i xs q
      split at e
      · rename_i hn
        cases e
        obtain ⟨a, vs, G, rfl, e1, t, _⟩ := asL_ok hh ru q
        have eG := noOwn_all hn t
        subst eG
        have tt : RUl c w.Z H w.ρ (cutL xs lo hi) (cutV vs lo hi) [] := by
          show RUl c w.Z H w.ρ ((xs.drop _).take _) ((vs.drop _).take _) []
          rw [t.length]
          exact (t.drop _).take _
        exact .inr ⟨a, vs, rfl, e1, fun q hq => fin_own p ok hh tt (all_cut hn) q hq⟩
      · cases e
    · cases e
theorem e_slice {lo hi : Option Expr} {ml mh : MO} {p2 : Pos} (hK : c.K = X.K) (ha : PE X a (tV pu .B c W m)) (hl : PO X lo (tO pu c W ml)) (hh : PO X hi (tO pu c W mh)) : PE X (.Subscript a (.Slice lo hi none p2) pos) (tV pu .E c W (mSlice m ml mh)) :=
  PE.imp (pe_slice (sl_tupA.or sl_list) ha hl hh) fun σ H Q ⟨w, Fs, σd, hd, S, p⟩ => by
    refine step1 (md := .B) S p fun u h1 w1 H1 x Fx S1 mo ru p1 => ?_
    refine ⟨w1, Fs, σd, h1, S1, ?_⟩
    revert p1
    cases ml σd h1 with
    | err e h' => exact fun p => p
    | bad => exact fun p => p
    | ok l h2 =>
      intro p1 w2 H2 e2 o2 pp2 r2
      have S2 := S1.ext e2 o2 r2
      have p2 := EPo.shift e2 o2 pp2 p1
      refine ⟨w2, Fs, σd, h2, S2, ?_⟩
      revert p2
      simp only [bindM_ok]
      cases mh σd h2 with
      | err e h' => exact fun p => p
      | bad => exact fun p => p
      | ok r h3 =>
        intro p2 w3 H3 e3 o3 pp3 r3
        have p3 := EPo.shift e3 o3 pp3 p2
        simp only [bindM_ok] at p3
        cases q : sliceU h3 u l r with
        | none => rw [q] at p3; exact p3.elim
        | some z =>
          rw [q] at p3
          have := sliceU_ok o3 r3 (ru.after S1.wok (fun a ha => (mo.2.2 a ha).1) (e2.trans o2 e3)) q p3
          rw [hK] at this
          exact this
end

/-! ### sum, max, min -/
section
variable {X : Cx} {c : Cg}
theorem iter_intTup {prog : Program} {w : World} {A : Around} {E : Value → Shared → Prop} {s : Shared} {l : Addr} {items : Array Value} {Q : Value → Shared → Prop} (hl : s.heap.IsTuple l items)
    (h : ∀ s₂ : Shared, s₂ = { s with heap := s.heap.push { cls := .type "tuple_iterator", data := .fields #[.ref l, .int 0 0] } } →
      (s₂.heap.IsTupleIter s.heap.objs.size l 0 ∧ s₂.heap.IsTuple l items) → (∀ b ∈ [s.heap.objs.size, l], b < s₂.heap.objs.size) → l ≠ s.heap.objs.size → Q (.ref s.heap.objs.size) s₂) :
    wpAny (model prog w) A (pyIter (.ref l)) Q E s := by
  have hlt : l < s.heap.objs.size := by obtain ⟨_, e, _⟩ := hl; exact Heap.lt_size e
  refine wpAny_pyIter_tuple hl (h _ rfl ⟨⟨_, Heap.get?_push_size _ rfl, rfl, rfl⟩, ?_⟩ (fun b hb => ?_) (Nat.ne_of_lt hlt))
  · obtain ⟨o, e, r⟩ := hl
    exact ⟨o, Heap.get?_push_of_some _ e, r⟩
  · show b < (s.heap.push _).objs.size
    rw [Heap.size_push]
    rcases List.mem_cons.mp hb with rfl | hb
    · exact Nat.lt_succ_self _
    · rcases List.mem_cons.mp hb with rfl | hb
      · exact Nat.lt_succ_of_lt hlt
      · cases hb
theorem kept_of1 {s : Shared} {h' : Heap} {ob : Obj} (hk : ∀ b o, b ∉ [s.heap.objs.size] → (s.heap.push ob).get? b = some o → h'.get? b = some o) : ∀ b o, s.heap.get? b = some o → h'.get? b = some o := fun b o e => by
  refine hk b o (fun hm => ?_) (Heap.get?_push_of_some _ e)
  rcases List.mem_cons.mp hm with e1 | hm
  · exact absurd (e1 ▸ Heap.lt_size e) (Nat.lt_irrefl _)
  · cases hm
def rSumT (K : PySem.W.Frag) : List V → Hp → VK → Prop := fun vs H Q => ∃ (a : Addr) (ns : List Int), vs = [V.ref a] ∧ SqT K H a (ns.map V.int) ∧ Q (.int ns.sum) H
theorem cr_sumT (hc : X.calm = true) : CallR X (.builtin "sum") (rSumT X.K) := by
  intro pins s σ H vs us Q I r h
  obtain ⟨a, ns, rfl, hs, q⟩ := h
  obtain ⟨its, rv, hl, _⟩ := I.tuple hs
  rw [Vals.ref1 r]
  have hi := rv.ints
  obtain ⟨xs, e⟩ := hi.allInts.items
  have hn : numsOf (intItems xs).toList = ns := by rw [← e]; exact hi.numsOf
  rw [nums_intItems] at hn
  rw [e] at hl
  refine call_sum_walkG (iter_intTup (show s.heap.IsTuple a (intItems xs) from hl) fun s₂ e st hfp hlI => ?_)
  subst e
  refine ⟨_, _, _, _, _, _, numAt xs, rfl, Walks.tuple (A := X.A.in1) (I.ok.hd hc) _ a hlI (intItems xs), st, hfp, (fun _ _ => intItems_at), fun h' tk t' hk => ?_⟩
  refine ⟨.int ns.sum, H, I.kept (kept_of1 hk), ⟨t', ?_⟩, q⟩
  rw [show (intItems xs).size = xs.size by simp [intItems], preSum_eq, List.take_of_length_le (by simp), hn]
def fSum : HS → UV → Option UV := fun h u => ((asQ h u).bind (mapO uInt)).map fun ns => .d (.int ns.sum)
theorem fSum_ok : UnS c (fun x H Q => rSum c.K [x] H Q ∨ rSumT c.K [x] H Q) fSum := fun pu W σ w H h u x Fx z Q ok hh ru e p => by
  unfold fSum at e
  rw [Option.map_eq_some_iff] at e
  obtain ⟨ns, e, rfl⟩ := e
  rw [Option.bind_eq_some_iff] at e
  obtain ⟨us, e1, e2⟩ := e
  obtain ⟨a, vs, G, rfl, e3, e4, _⟩ := asQ_ok hh ru e1
  have ev := uInts_ok e2 e4
  subst ev
  rcases e3 with e3 | e3
  · exact .inl ⟨a, ns, rfl, e3, fin_d p ok hh rfl⟩
  · exact .inr ⟨a, ns, rfl, e3, fin_d p ok hh rfl⟩
theorem cr_sumM (hc : X.calm = true) : CallR X (.builtin "sum") (fun xs H Q => rSum X.K xs H Q ∨ rSumT X.K xs H Q) := (cr_sum hc).or (cr_sumT hc)
def lmax : List Int → Int
  | [] => 0
  | [x] => x
  | x :: y :: r => max x (lmax (y :: r))
def lmin : List Int → Int
  | [] => 0
  | [x] => x
  | x :: y :: r => min x (lmin (y :: r))
theorem lmax_mem : ∀ {ns : List Int}, ns ≠ [] → lmax ns ∈ ns
  | [], h => absurd rfl h
  | [x], _ => by simp [lmax]
  | x :: y :: r, _ => by
    have ih := lmax_mem (ns := y :: r) (by simp)
    simp only [lmax]
    rcases Int.le_total x (lmax (y :: r)) with h | h
    · rw [Int.max_eq_right h]; exact List.mem_cons_of_mem _ ih
    · rw [Int.max_eq_left h]; exact List.mem_cons_self
theorem lmax_ge : ∀ {ns : List Int} {m : Int}, m ∈ ns → m ≤ lmax ns
  | [], _, h => absurd h (by simp)
  | [x], m, h => by simp at h; simp [lmax, h]
  | x :: y :: r, m, h => by
    simp only [lmax]
    rcases List.mem_cons.mp h with h | h
    · rw [h]; exact Int.le_max_left _ _
    · exact Int.le_trans (lmax_ge h) (Int.le_max_right _ _)
theorem lmin_mem : ∀ {ns : List Int}, ns ≠ [] → lmin ns ∈ ns
  | [], h => absurd rfl h
  | [x], _ => by simp [lmin]
  | x :: y :: r, _ => by
    have ih := lmin_mem (ns := y :: r) (by simp)
    simp only [lmin]
    rcases Int.le_total x (lmin (y :: r)) with h | h
    · rw [Int.min_eq_left h]; exact List.mem_cons_self
    · rw [Int.min_eq_right h]; exact List.mem_cons_of_mem _ ih
theorem lmin_le : ∀ {ns : List Int} {m : Int}, m ∈ ns → lmin ns ≤ m
  | [], _, h => absurd h (by simp)
  | [x], m, h => by simp at h; simp [lmin, h]
  | x :: y :: r, m, h => by
    simp only [lmin]
    rcases List.mem_cons.mp h with h | h
    · rw [h]; exact Int.min_le_left _ _
    · exact Int.le_trans (Int.min_le_right _ _) (lmin_le h)
def fMax : HS → UV → Option UV := fun h u => match (asL h u).bind (mapO uInt) with
  | some (n :: ns) => some (.d (.int (lmax (n :: ns))))
  | _ => none
def fMin : HS → UV → Option UV := fun h u => match (asL h u).bind (mapO uInt) with
  | some (n :: ns) => some (.d (.int (lmin (n :: ns))))
  | _ => none
theorem fMax_ok : UnS c (fun x H Q => rMax c.K [x] H Q) fMax := fun pu W σ w H h u x Fx z Q ok hh ru e p => by
  unfold fMax at e
  split at e
  · rename_i n ns q
    cases e
    rw [Option.bind_eq_some_iff] at q
    obtain ⟨us, e1, e2⟩ := q
    obtain ⟨a, vs, G, rfl, e3, e4, _⟩ := asL_ok hh ru e1
    have ev := uInts_ok e2 e4
    subst ev
    refine ⟨a, n :: ns, rfl, e3, by simp, fun m h1 h2 => ?_⟩
    have : m = lmax (n :: ns) := Int.le_antisymm (lmax_ge h1) (h2 _ (lmax_mem (by simp)))
    rw [this]
    exact fin_d p ok hh rfl
  · cases e
theorem fMin_ok : UnS c (fun x H Q => rMin c.K [x] H Q) fMin := fun pu W σ w H h u x Fx z Q ok hh ru e p => by
  unfold fMin at e
  split at e
  · rename_i n ns q
    cases e
    rw [Option.bind_eq_some_iff] at q
    obtain ⟨us, e1, e2⟩ := q
    obtain ⟨a, vs, G, rfl, e3, e4, _⟩ := asL_ok hh ru e1
    have ev := uInts_ok e2 e4
    subst ev
    refine ⟨a, n :: ns, rfl, e3, by simp, fun m h1 h2 => ?_⟩
    have : m = lmin (n :: ns) := Int.le_antisymm (h2 _ (lmin_mem (by simp))) (lmin_le h1)
    rw [this]
    exact fin_d p ok hh rfl
  · cases e
def fMax2 : HS → UV → UV → Option UV := fun _ u v => match uInt u, uInt v with
  | some i, some j => some (.d (.int (if j > i then j else i)))
  | _, _ => none
def fMin2 : HS → UV → UV → Option UV := fun _ u v => match uInt u, uInt v with
  | some i, some j => some (.d (.int (if j < i then j else i)))
  | _, _ => none
theorem fMax2_ok : OpS c (fun x y H Q => ∃ i j, [x, y] = [.int i, .int j] ∧ Q (.int (if j > i then j else i)) H) fMax2 := OpS.data fun w H h u u' x y Fx Fy z Q ok hh ru ru' e q => by
  unfold fMax2 at e
  split at e
  · rename_i i j q1 q2
    cases e
    exact ⟨i, j, by rw [uInt_ok q1 ru, uInt_ok q2 ru'], q _ _ rfl rfl⟩
  · cases e
theorem fMin2_ok : OpS c (fun x y H Q => ∃ i j, [x, y] = [.int i, .int j] ∧ Q (.int (if j < i then j else i)) H) fMin2 := OpS.data fun w H h u u' x y Fx Fy z Q ok hh ru ru' e q => by
  unfold fMin2 at e
  split at e
  · rename_i i j q1 q2
    cases e
    exact ⟨i, j, by rw [uInt_ok q1 ru, uInt_ok q2 ru'], q _ _ rfl rfl⟩
  · cases e

/-! ### list, tuple -/
def fList : HS → UV → Option UV := fun h u => match asQ h u with
  | some xs => if xs.all noOwn then some (.own xs) else none
  | none => none
theorem fList_ok : UnS c (fun x H Q => ∃ p ys, [x] = [.ref p] ∧ (SqL c.K H p ys ∨ SqT c.K H p ys) ∧ ∀ l, H l = none → Q (.ref l) (upd H l (.lst ys))) fList := fun pu W σ w H h u x Fx z Q ok hh ru e p => by
  unfold fList at e
  split at e
  · rename_i xs q
    split at e
    · rename_i hn
      cases e
      obtain ⟨a, vs, G, rfl, e1, t, _⟩ := asQ_ok hh ru q
      exact ⟨a, vs, rfl, e1, fun q hq => fin_own p ok hh t hn q hq⟩
    · cases e
  · cases e
def uD : UV → Option DV
  | .d x => some x
  | _ => none
theorem uDs_ok {Z : Addr → Prop} {H : Hp} {ρ : List Addr} : ∀ {us : List UV} {ns : List DV} {vs : List V} {F : List Addr}, mapO uD us = some ns → RUl c Z H ρ us vs F → RDl c Z H ns vs
  | [], _, _, _, e, r => by cases e; exact r.1
  | u :: us, _, _, _, e, ⟨v, r, F1, F2, ev, eF, h, t⟩ => by
    simp only [mapO] at e
    split at e
    · rename_i i ns q1 q2
      cases e
      refine ⟨v, r, ev, ?_, uDs_ok q2 t⟩
      cases u with
      | d x => cases q1; exact h.2
      | _ => cases q1
    · cases e
def fTuple : HS → UV → Option UV := fun h u => match u with
  | .d (.tup xs) => some (.d (.tup xs))
  | u => ((asL h u).bind (mapO uD)).map fun xs => .d (.tup xs)
theorem fTuple_ok : UnS c (fun x H Q => ∃ p ys, [x] = [.ref p] ∧ ((SqL c.K H p ys ∧ ∀ l, H l = none → Q (.ref l) (upd H l (.tup ys))) ∨ (SqT c.K H p ys ∧ Q (.ref p) H))) fTuple := fun pu W σ w H h u x Fx z Q ok hh ru e p => by
  unfold fTuple at e
  split at e
  · cases e
    obtain ⟨_, a, vs, rfl, f, t⟩ := ru
    exact ⟨a, vs, rfl, .inr ⟨f.sq, fin_d p ok hh ⟨a, vs, rfl, f, t⟩⟩⟩
  · rw [Option.map_eq_some_iff] at e
    obtain ⟨xs, e, rfl⟩ := e
    rw [Option.bind_eq_some_iff] at e
    obtain ⟨us, e1, e2⟩ := e
    obtain ⟨a, vs, G, rfl, e3, t, _⟩ := asL_ok hh ru e1
    exact ⟨a, vs, rfl, .inl ⟨e3, fun q hq => fin_tup p ok hh (uDs_ok e2 t) q hq⟩⟩
end
end MM

/-! MM7: isinstance, tests, and, or, not, conditional expressions. -/
namespace MM
open PySem PySem.Spec PyProof.Rows L2

/-! ### isinstance of built-in types -/
def tyName (h : HS) : UV → Option String
  | .d .non => some "NoneType"
  | .d (.bl _) => some "bool"
  | .d (.int _) => some "int"
  | .d (.str _) => some "str"
  | .d (.tup _) => some "tuple"
  | .d (.lst _) => some "list"
  | .d (.dK _) => some "dict"
  | .d (.dT _) => some "dict"
  | .tp _ => some "tuple"
  | .own _ => some "list"
  | .fl _ => some "list"
  | .odK _ => some "dict"
  | .odT _ => some "dict"
  | .ref i => match h[i]? with
    | some (.lst _) => some "list"
    | some (.dK _) => some "dict"
    | some (.dT _) => some "dict"
    | _ => none
  | _ => none
def isTy (t n : String) : Option Bool :=
  if n = "bool" ∨ n = "int" ∨ n = "str" ∨ n = "list" ∨ n = "tuple" ∨ n = "dict" then
    if t = "NoneType" ∨ t = "bool" ∨ t = "int" ∨ t = "str" ∨ t = "list" ∨ t = "tuple" ∨ t = "dict" then some (t == n || (t == "bool" && n == "int")) else none
  else none
theorem isTy_ok {t n : String} {b : Bool} (h : isTy t n = some b) : kitB t n = some b := by
  unfold isTy at h
  split at h
  · rename_i h1
    split at h
    · rename_i h2
      cases h
      rcases h1 with h1 | h1 | h1 | h1 | h1 | h1 <;> subst h1 <;> rcases h2 with h2 | h2 | h2 | h2 | h2 | h2 | h2 <;> subst h2 <;> decide +kernel
    · cases h
  · cases h
theorem tyName_ok {c : Cg} {w : Wd} {H : Hp} {h : HS} {u : UV} {v : V} {F : List Addr} {t : String} (hh : RH c w.Z H w.ρ h w.F) (r : RU c w.Z H w.ρ u v F) (e : tyName h u = some t) : TyX c.K H v (.type t) := by
  cases u with
  | d x =>
    obtain ⟨_, r⟩ := r
    cases x with
    | non => cases e; rw [show v = _ from r]; exact .base .non
    | bl b => cases e; rw [show v = _ from r]; exact .base (.bl _)
    | int b => cases e; rw [show v = _ from r]; exact .base (.int _)
    | str b => cases e; rw [show v = _ from r]; exact .base (.str _)
    | lst xs =>
      cases e
      obtain ⟨a, vs, rfl, _, f, _⟩ := r
      exact .base (.lst f)
    | tup xs =>
      cases e
      obtain ⟨a, vs, rfl, f, _⟩ := r
      rcases f with ⟨_, f | ⟨o, f⟩⟩ | f
      · exact .base (.tup f)
      · exact .fTuple f
      · rcases f (fun _ => none) with (f | ⟨o, f⟩) | ⟨o, its, n, k, k2, _⟩
        · cases f
        · cases f
        · exact .kTuple k k2
    | dK xs =>
      cases e
      obtain ⟨a, vs, rfl, _, f, _⟩ := r
      exact .base (.dK f)
    | dT xs =>
      cases e
      obtain ⟨a, vs, rfl, _, f, _⟩ := r
      exact .base (.dT f)
    | _ => cases e
  | tp xs =>
    cases e
    obtain ⟨a, vs, rfl, _, f | ⟨o, f⟩, _⟩ := r
    · exact .base (.tup f)
    · exact .fTuple f
  | own xs =>
    cases e
    obtain ⟨a, vs, G, rfl, f, _⟩ := r
    exact .base (.lst f)
  | fl xs =>
    cases e
    obtain ⟨a, vs, rfl, _, f, _⟩ := r
    exact .base (.lst f)
  | odK xs =>
    cases e
    obtain ⟨a, vs, G, rfl, f, _⟩ := r
    exact .base (.dK f)
  | odT xs =>
    cases e
    obtain ⟨a, vs, G, rfl, f, _⟩ := r
    exact .base (.dT f)
  | clo i xs => cases e
  | ref i =>
    obtain ⟨_, a, e1, rfl⟩ := r
    unfold tyName at e
    dsimp only at e
    split at e
    · rename_i xs q
      cases e
      obtain ⟨a', G, e3, ⟨vs, G', e4, _⟩, _⟩ := hh.get q
      rw [e1] at e3; cases e3
      exact .base (.lst e4)
    · rename_i xs q
      cases e
      obtain ⟨a', G, e3, ⟨vs, G', e4, _⟩, _⟩ := hh.get q
      rw [e1] at e3; cases e3
      exact .base (.dK e4)
    · rename_i xs q
      cases e
      obtain ⟨a', G, e3, ⟨vs, G', e4, _⟩, _⟩ := hh.get q
      rw [e1] at e3; cases e3
      exact .base (.dT e4)
    · cases e
def fIsi : HS → UV → UV → Option UV := fun h u v => match v with
  | .d (.ty n) => ((tyName h u).bind fun t => isTy t n).map fun b => .d (.bl b)
  | _ => none
theorem fIsi_ok {c : Cg} : OpS c (fun x y H Q => rIsi c.K [x, y] H Q) fIsi := OpS.data fun w H h u u' x y Fx Fy z Q ok hh ru ru' e q => by
  unfold fIsi at e
  split at e
  · rename_i n
    rw [Option.map_eq_some_iff] at e
    obtain ⟨b, e, rfl⟩ := e
    rw [Option.bind_eq_some_iff] at e
    obtain ⟨t, e1, e2⟩ := e
    rw [show y = _ from ru'.2]
    exact ⟨x, .ty n, .type t, .type n, b, rfl, .ty n, tyName_ok hh ru e1, kit_ty (isTy_ok e2), q _ _ rfl rfl⟩
  · cases e

/-! ### tests -/
abbrev MT := SL → HS → MR Bool
def TPo (pu : Bool) (c : Cg) (W : WX) (σ : L2.St) (w : Wd) (H : Hp) (Q : Bool → Hp → Prop) : MR Bool → Prop
  | .ok b h' => ∀ (w' : Wd) (H' : Hp), Ext w H w' H' → WOk w' H' → Pu pu H H' → RH c w'.Z H' w'.ρ h' w'.F → Q b H'
  | .err e h' => ∀ (w' : Wd) (H' : Hp) (cls : Value) (dx : Option Addr), Ext w H w' H' → WOk w' H' → RH c w'.Z H' w'.ρ h' w'.F → RX c w'.Z H' e cls dx → W cls dx σ H'
  | .bad => False
def tB2 (pu : Bool) (c : Cg) (W : WX) (m : MT) : TT := fun σ H Q => ∃ w Fs σd hd, Sta c w Fs σd hd σ H ∧ TPo pu c W σ w H Q (m σd hd)
theorem TPo.shift {pu : Bool} {c : Cg} {W : WX} {σ : L2.St} {w w1 : Wd} {H H1 : Hp} {Q : Bool → Hp → Prop} {r : MR Bool} (e : Ext w H w1 H1) (ok : WOk w1 H1) (pq : Pu pu H H1) (h : TPo pu c W σ w H Q r) : TPo pu c W σ w1 H1 Q r := by
  cases r with
  | ok u h' => exact fun w' H' m o pp rh => h w' H' (e.trans ok m) o (pq.trans pp) rh
  | err x h' => exact fun w' H' cls dx e' ok' rh rx => h w' H' cls dx (e.trans ok e') ok' rh rx
  | bad => exact h
def uBl : UV → Option Bool
  | .d (.bl b) => some b
  | _ => none
theorem uBl_ok {c : Cg} {Z : Addr → Prop} {H : Hp} {ρ : List Addr} {u : UV} {i : Bool} {v : V} {F : List Addr} (e : uBl u = some i) (r : RU c Z H ρ u v F) : v = .bl i := by
  unfold uBl at e
  split at e
  · cases e; exact r.2
  · cases e
/-- a value's truth -/
def truU (h : HS) : UV → Option Bool
  | .d .non => some false
  | .d (.bl b) => some b
  | .d (.int i) => some (i != 0)
  | .d (.str x) => if x.length ≤ sizeLine then some ((x.length : Int) != 0) else none
  | .d (.dK kvs) => some (!kvs.isEmpty)
  | .odK kvs => some (!kvs.isEmpty)
  | u => (asQ h u).map fun xs => !xs.isEmpty
theorem isEmpty_RUl {c : Cg} {Z : Addr → Prop} {H : Hp} {ρ : List Addr} {xs : List UV} {vs : List V} {F : List Addr} (t : RUl c Z H ρ xs vs F) : vs.isEmpty = xs.isEmpty := by
  have := t.length
  cases xs <;> cases vs <;> simp_all
theorem isEmpty_RDk {c : Cg} {Z : Addr → Prop} {H : Hp} {xs : List (Key × DV)} {vs : List (Key × V)} (t : RDk c Z H xs vs) : vs.isEmpty = xs.isEmpty := by
  cases xs with
  | nil => rw [show vs = _ from t]; rfl
  | cons x xs => obtain ⟨v, r, rfl, _⟩ := t; rfl
theorem isEmpty_RUk {c : Cg} {Z : Addr → Prop} {H : Hp} {ρ : List Addr} {xs : List (Key × UV)} {vs : List (Key × V)} {F : List Addr} (t : RUk c Z H ρ xs vs F) : vs.isEmpty = xs.isEmpty := by
  cases xs with
  | nil => rw [t.1]; rfl
  | cons x xs => obtain ⟨v, r, _, _, rfl, _⟩ := t; rfl
theorem truU_ok {c : Cg} {w : Wd} {H : Hp} {h : HS} {u : UV} {v : V} {F : List Addr} {b : Bool} (hh : RH c w.Z H w.ρ h w.F) (r : RU c w.Z H w.ρ u v F) (e : truU h u = some b) : TruV c.K v H b := by
  unfold truU at e
  split at e
  · cases e; rw [show v = _ from r.2]; rfl
  · cases e; rw [show v = _ from r.2]; rfl
  · cases e; rw [show v = _ from r.2]; rfl
  · split at e
    · rename_i hz
      cases e; rw [show v = _ from r.2]; exact ⟨hz, rfl⟩
    · cases e
  · cases e
    obtain ⟨_, a, vs, rfl, _, f, t⟩ := r
    exact .inr (.inr ⟨vs, f, by rw [isEmpty_RDk t]⟩)
  · cases e
    obtain ⟨a, vs, G, rfl, f, _, t⟩ := r
    exact .inr (.inr ⟨vs, f, by rw [isEmpty_RUk t]⟩)
  · rw [Option.map_eq_some_iff] at e
    obtain ⟨xs, e, rfl⟩ := e
    obtain ⟨a, vs, G, rfl, e2, t, _⟩ := asQ_ok hh r e
    rcases e2 with e2 | e2
    · exact .inl ⟨vs, e2, by rw [isEmpty_RUl t]⟩
    · exact .inr (.inl ⟨vs, e2, by rw [isEmpty_RUl t]⟩)
/-- a bool's value as a test -/
def mTst (m : ME) : MT := fun σ h => bindM (m σ h) fun u h1 => ofO (uBl u) h1
/-- a value's truth as a test -/
def mTru (m : ME) : MT := fun σ h => bindM (m σ h) fun u h1 => ofO (truU h1 u) h1
def mNot (m : MT) : MT := fun σ h => bindM (m σ h) fun b h1 => .ok (!b) h1
def mAnd (m n : MT) : MT := fun σ h => bindM (m σ h) fun b h1 => if b then n σ h1 else .ok false h1
def mOr (m n : MT) : MT := fun σ h => bindM (m σ h) fun b h1 => if b then .ok true h1 else n σ h1
section
variable {X : Cx} {c : Cg} {W : WX} {ma mb m : ME} {mt mu : MT} {σ : L2.St} {H : Hp} {a b : Expr} {rest : List Expr} {pos : Pos} {pu : Bool}
/-- a value, then what a test makes of it -/
theorem stepT {md : Md} {f : UV → HS → MR Bool} {w : Wd} {Fs : List Addr} {σd : SL} {hd : HS} {Q : Bool → Hp → Prop} {R : VK} (S : Sta c w Fs σd hd σ H) (p : TPo pu c W σ w H Q (bindM (m σd hd) f))
    (k : ∀ (u : UV) (h1 : HS) (w1 : Wd) (H1 : Hp) (x : V) (Fx : List Addr), Sta c w1 Fs σd h1 σ H1 → MdOk md w H w1 H1 Fx → RU c w1.Z H1 w1.ρ u x Fx → TPo pu c W σ w1 H1 Q (f u h1) → R x H1) : tV pu md c W m σ H R := by
  refine ⟨w, Fs, σd, hd, S, ?_⟩
  revert p
  cases m σd hd with
  | ok u h' => exact fun p w' H' v Fv mo pp rh ru => k u h' w' H' v Fv (S.ext mo.ext.1 mo.ext.2 rh) mo ru (TPo.shift mo.ext.1 mo.ext.2 pp p)
  | err x h' => exact fun p => p
  | bad => exact fun p => p
/-- a test, then the rest -/
theorem stepB {md : Md} {f : Bool → HS → MR UV} {w : Wd} {Fs : List Addr} {σd : SL} {hd : HS} {Q : VK} {R : Bool → Hp → Prop} (S : Sta c w Fs σd hd σ H) (p : EPo pu md c W σ w H Q (bindM (mt σd hd) f))
    (k : ∀ (u : Bool) (h1 : HS) (w1 : Wd) (H1 : Hp), Sta c w1 Fs σd h1 σ H1 → EPo pu md c W σ w1 H1 Q (f u h1) → R u H1) : tB2 pu c W mt σ H R := by
  refine ⟨w, Fs, σd, hd, S, ?_⟩
  revert p
  cases mt σd hd with
  | ok u h' => exact fun p w' H' e o pp rh => k u h' w' H' (S.ext e o rh) (EPo.shift e o pp p)
  | err x h' => exact fun p => p
  | bad => exact fun p => p
theorem stepBB {f : Bool → HS → MR Bool} {w : Wd} {Fs : List Addr} {σd : SL} {hd : HS} {Q R : Bool → Hp → Prop} (S : Sta c w Fs σd hd σ H) (p : TPo pu c W σ w H Q (bindM (mt σd hd) f))
    (k : ∀ (u : Bool) (h1 : HS) (w1 : Wd) (H1 : Hp), Sta c w1 Fs σd h1 σ H1 → TPo pu c W σ w1 H1 Q (f u h1) → R u H1) : tB2 pu c W mt σ H R := by
  refine ⟨w, Fs, σd, hd, S, ?_⟩
  revert p
  cases mt σd hd with
  | ok u h' => exact fun p w' H' e o pp rh => k u h' w' H' (S.ext e o rh) (TPo.shift e o pp p)
  | err x h' => exact fun p => p
  | bad => exact fun p => p
theorem TPo.fin {h : HS} {w : Wd} {Q : Bool → Hp → Prop} {k : Bool} (p : TPo pu c W σ w H Q (.ok k h)) (ok : WOk w H) (hh : RH c w.Z H w.ρ h w.F) : Q k H := p w H Ext.refl ok .refl hh
theorem tst_ok {Q : Bool → Hp → Prop} (h : tB2 pu c W (mTst m) σ H Q) : tV pu .C c W m σ H fun x H' => ∃ k, x = .bl k ∧ Q k H' := by
  obtain ⟨w, Fs, σd, hd, S, p⟩ := h
  refine stepT (md := .C) S p fun u h1 w1 H1 x Fx S1 mo ru p1 => ?_
  cases q : uBl u with
  | none => rw [q] at p1; exact p1.elim
  | some k => rw [q] at p1; exact ⟨k, uBl_ok q ru, p1.fin S1.wok S1.h⟩
/-- a comparison as a test -/
theorem t_cmp {op : CmpOp} {r : R2} {f : HS → UV → UV → Option UV} (ho : OpR X (compareOp op) r) (hf : OpS c r f) (ha : PE X a (tV pu .B c W ma)) (hb : PE X b (tV pu .C c W mb)) (hm : behindInMarks op b = false) :
    PT X (.Compare a [op] [b] pos) (tB2 pu c W (mTst (mBin f ma mb))) :=
  PT.imp (pt_cmpR ho ha hb hm) fun σ H Q h => by
    obtain ⟨w, Fs, σd, hd, S, p⟩ := h
    show tV pu .B c W ma σ H fun x H1 => tV pu .C c W mb σ H1 fun y H2 => r x y H2 fun z H3 => ∃ k, z = .bl k ∧ Q k H3
    have h2 : tV pu .E c W (mBin f ma mb) σ H fun z H3 => ∃ k, z = .bl k ∧ Q k H3 := by
      refine stepT (md := .E) S p fun u h1 w1 H1 x Fx S1 mo ru p1 => ?_
      cases q : uBl u with
      | none => rw [q] at p1; exact p1.elim
      | some k => rw [q] at p1; exact ⟨k, uBl_ok q ru, p1.fin S1.wok S1.h⟩
    exact bin_ok hf h2
/-- a value as a test, by its truth -/
theorem t_tru (hK : c.K = X.K) (ha : PE X a (tV pu .C c W m)) (he : ∀ whole, isTrue a X.env whole = (do let v ← whole; standAt a.pos; holding [v] (truthy v))) : PT X a (tB2 pu c W (mTru m)) :=
  PT.imp (pt_truth ha he) fun σ H Q ⟨w, Fs, σd, hd, S, p⟩ => by
    refine stepT (md := .C) S p fun u h1 w1 H1 x Fx S1 mo ru p1 => ?_
    cases q : truU h1 u with
    | none => rw [q] at p1; exact p1.elim
    | some k => rw [q] at p1; exact ⟨k, by rw [← hK]; exact truU_ok S1.h ru q, p1.fin S1.wok S1.h⟩
theorem t_not (ha : PT X a (tB2 pu c W mt)) : PT X (.UnaryOp .Not a pos) (tB2 pu c W (mNot mt)) :=
  PT.imp (pt_not ha) fun σ H Q ⟨w, Fs, σd, hd, S, p⟩ => stepBB S p fun u h1 w1 H1 S1 p1 => p1.fin S1.wok S1.h
theorem PW.imp {e : Expr} {t t' : TT} (h : PW X e t) (i : ∀ σ H Q, t' σ H Q → t σ H Q) : PW X e t' := ⟨fun wh pins s σ H Q I q => h.run wh pins s σ H Q I (i σ H Q q)⟩
theorem w_and1 (ha : PT X a (tB2 pu c W mt)) : PW X (.BoolOp .And [a] pos) (tB2 pu c W mt) := pw_and1 ha
theorem w_or1 (ha : PT X a (tB2 pu c W mt)) : PW X (.BoolOp .Or [a] pos) (tB2 pu c W mt) := pw_or1 ha
theorem w_and (ha : PT X a (tB2 pu c W mt)) (hb : PW X (.BoolOp .And (b :: rest) pos) (tB2 pu c W mu)) : PW X (.BoolOp .And (a :: b :: rest) pos) (tB2 pu c W (mAnd mt mu)) :=
  PW.imp (pw_and ha hb) fun σ H Q ⟨w, Fs, σd, hd, S, p⟩ => stepBB S p fun u h1 w1 H1 S1 p1 => by
    cases u with
    | true => rw [if_pos rfl] at p1 ⊢; exact ⟨w1, Fs, σd, h1, S1, p1⟩
    | false => rw [if_neg Bool.false_ne_true] at p1 ⊢; exact p1.fin S1.wok S1.h
theorem w_or (ha : PT X a (tB2 pu c W mt)) (hb : PW X (.BoolOp .Or (b :: rest) pos) (tB2 pu c W mu)) : PW X (.BoolOp .Or (a :: b :: rest) pos) (tB2 pu c W (mOr mt mu)) :=
  PW.imp (pw_or ha hb) fun σ H Q ⟨w, Fs, σd, hd, S, p⟩ => stepBB S p fun u h1 w1 H1 S1 p1 => by
    cases u with
    | true => rw [if_pos rfl] at p1 ⊢; exact p1.fin S1.wok S1.h
    | false => rw [if_neg Bool.false_ne_true] at p1 ⊢; exact ⟨w1, Fs, σd, h1, S1, p1⟩

/-! ### as values -/
def mNotV (m : ME) : ME := fun σ h => bindM (m σ h) fun u h1 => ofO ((truU h1 u).map fun k => .d (.bl (!k))) h1
/-- a and b: the first where it is untrue -/
def mAndV (m n : ME) : ME := fun σ h => bindM (m σ h) fun u h1 => bindM (ofO (truU h1 u) h1) fun k h2 => if k then n σ h2 else .ok u h2
def mOrV (m n : ME) : ME := fun σ h => bindM (m σ h) fun u h1 => bindM (ofO (truU h1 u) h1) fun k h2 => if k then .ok u h2 else n σ h2
def mIf (t : MT) (m n : ME) : ME := fun σ h => bindM (t σ h) fun k h1 => if k then m σ h1 else n σ h1
theorem e_one {op} {md : Md} (h : PE X a (tV pu md c W m)) : PE X (.BoolOp op [a] pos) (tV pu md c W m) := pe_one h
theorem e_not (hK : c.K = X.K) (ha : PE X a (tV pu .C c W m)) : PE X (.UnaryOp .Not a pos) (tV pu .E c W (mNotV m)) :=
  PE.imp (pe_notT ha) fun σ H Q ⟨w, Fs, σd, hd, S, p⟩ => step1 (md := .C) S p fun u h1 w1 H1 x Fx S1 mo ru p1 => by
    cases q : truU h1 u with
    | none => rw [q] at p1; exact p1.elim
    | some k => rw [q] at p1; exact ⟨k, by rw [← hK]; exact truU_ok S1.h ru q, fin_d p1 S1.wok S1.h rfl⟩
theorem e_and (hK : c.K = X.K) (ha : PE X a (tV pu .E c W ma)) (hb : PE X (.BoolOp .And (b :: rest) pos) (tV pu .E c W mb)) : PE X (.BoolOp .And (a :: b :: rest) pos) (tV pu .E c W (mAndV ma mb)) :=
  PE.imp (pe_andT ha hb) fun σ H Q ⟨w, Fs, σd, hd, S, p⟩ => by
    refine ⟨w, Fs, σd, hd, S, ?_⟩
    unfold mAndV at p
    revert p
    cases ma σd hd with
    | err x h' => exact fun p => p
    | bad => exact fun p => p
    | ok u h1 =>
      intro p w1 H1 x Fx mo pp rh ru
      simp only [bindM_ok] at p
      cases q : truU h1 u with
      | none => rw [q] at p; exact p.elim
      | some k =>
        rw [q] at p
        refine ⟨k, by rw [← hK]; exact truU_ok rh ru q, ?_⟩
        cases k with
        | true =>
          simp only [ofO_some, bindM_ok, if_pos] at p ⊢
          exact ⟨w1, Fs, σd, h1, S.ext mo.ext.1 mo.ext.2 rh, EPo.shift mo.ext.1 mo.ext.2 pp p⟩
        | false =>
          simp only [ofO_some, bindM_ok, Bool.false_eq_true, if_false] at p ⊢
          exact p w1 H1 x Fx mo pp rh ru
theorem e_or (hK : c.K = X.K) (ha : PE X a (tV pu .E c W ma)) (hb : PE X (.BoolOp .Or (b :: rest) pos) (tV pu .E c W mb)) : PE X (.BoolOp .Or (a :: b :: rest) pos) (tV pu .E c W (mOrV ma mb)) :=
  PE.imp (pe_orT ha hb) fun σ H Q ⟨w, Fs, σd, hd, S, p⟩ => by
    refine ⟨w, Fs, σd, hd, S, ?_⟩
    unfold mOrV at p
    revert p
    cases ma σd hd with
    | err x h' => exact fun p => p
    | bad => exact fun p => p
    | ok u h1 =>
      intro p w1 H1 x Fx mo pp rh ru
      simp only [bindM_ok] at p
      cases q : truU h1 u with
      | none => rw [q] at p; exact p.elim
      | some k =>
        rw [q] at p
        refine ⟨k, by rw [← hK]; exact truU_ok rh ru q, ?_⟩
        cases k with
        | false =>
          simp only [ofO_some, bindM_ok, Bool.false_eq_true, if_false] at p ⊢
          exact ⟨w1, Fs, σd, h1, S.ext mo.ext.1 mo.ext.2 rh, EPo.shift mo.ext.1 mo.ext.2 pp p⟩
        | true =>
          simp only [ofO_some, bindM_ok, if_pos] at p ⊢
          exact p w1 H1 x Fx mo pp rh ru
theorem e_if {md : Md} {t : Expr} (ht : PT X t (tB2 pu c W mt)) (ha : PE X a (tV pu md c W ma)) (hb : PE X b (tV pu md c W mb)) : PE X (.IfExp t a b pos) (tV pu md c W (mIf mt ma mb)) :=
  PE.imp (pe_ifExp ht ha hb) fun σ H Q ⟨w, Fs, σd, hd, S, p⟩ => stepB S p fun u h1 w1 H1 S1 p1 => by
    cases u with
    | true => rw [if_pos rfl] at p1 ⊢; exact ⟨w1, Fs, σd, h1, S1, p1⟩
    | false => rw [if_neg Bool.false_ne_true] at p1 ⊢; exact ⟨w1, Fs, σd, h1, S1, p1⟩
/-- a op1 b op2 c of ints -/
def mChain (g g' : Int → Int → Bool) (ma mb mc : ME) : ME := fun σ h => bindM (ma σ h) fun u h1 => bindM (mb σ h1) fun v h2 => match uInt u, uInt v with
  | some i, some j => if g i j then bindM (mc σ h2) fun x h3 => match uInt x with
      | some k => .ok (.d (.bl (g' j k))) h3
      | none => .bad
    else .ok (.d (.bl false)) h2
  | _, _ => .bad
theorem chain_ok {g g' : Int → Int → Bool} {mc : ME} {Q : VK} (h : tV pu .E c W (mChain g g' ma mb mc) σ H Q) : tChain (rI0 fun i j => .bl (g i j)) (rI0 fun i j => .bl (g' i j)) (tV pu .B c W ma) (tV pu .B c W mb) (tV pu .C c W mc) σ H Q := by
  obtain ⟨w, Fs, σd, hd, S, p⟩ := h
  refine step1 (md := .B) S p fun u h1 w1 H1 x Fx S1 mo ru p1 => ?_
  refine step1 (md := .B) S1 p1 fun v h2 w2 H2 y Fy S2 mo2 rv p2 => ?_
  cases q1 : uInt u with
  | none => simp only [q1] at p2; exact p2.elim
  | some i =>
    cases q2 : uInt v with
    | none => simp only [q1, q2] at p2; exact p2.elim
    | some j =>
      simp only [q1, q2] at p2
      refine ⟨i, j, uInt_ok q1 ru, uInt_ok q2 rv, g i j, rfl, ?_⟩
      by_cases hg : g i j = true
      · rw [if_pos hg] at p2 ⊢
        refine step1 (md := .C) S2 p2 fun x3 h3 w3 H3 z Fz S3 mo3 rz p3 => ?_
        cases q3 : uInt x3 with
        | none => simp only [q3] at p3; exact p3.elim
        | some k =>
          simp only [q3] at p3
          exact ⟨j, k, uInt_ok q2 rv, uInt_ok q3 rz, fin_d p3 S3.wok S3.h rfl⟩
      · rw [if_neg hg] at p2 ⊢
        exact fin_d p2 S2.wok S2.h rfl
theorem e_chain {op op' : CmpOp} {g g' : Int → Int → Bool} {d : Expr} {mc : ME} (ho : OpR X (compareOp op) (rI0 fun i j => .bl (g i j))) (ho' : OpR X (compareOp op') (rI0 fun i j => .bl (g' i j))) (ha : PE X a (tV pu .B c W ma)) (hb : PE X b (tV pu .B c W mb)) (hd : PE X d (tV pu .C c W mc))
    (hm : lastMarks [op, op'] [b, d] = false := by with_unfolding_all rfl) : PE X (.Compare a [op, op'] [b, d] pos) (tV pu .E c W (mChain g g' ma mb mc)) := PE.imp (pe_chain ho ho' ha hb hd hm) fun _ _ _ h => chain_ok h
theorem t_chain {op op' : CmpOp} {g g' : Int → Int → Bool} {d : Expr} {mc : ME} (ho : OpR X (compareOp op) (rI0 fun i j => .bl (g i j))) (ho' : OpR X (compareOp op') (rI0 fun i j => .bl (g' i j))) (ha : PE X a (tV pu .B c W ma)) (hb : PE X b (tV pu .B c W mb)) (hd : PE X d (tV pu .C c W mc))
    (hm : lastMarks [op, op'] [b, d] = false := by with_unfolding_all rfl) : PT X (.Compare a [op, op'] [b, d] pos) (tB2 pu c W (mTst (mChain g g' ma mb mc))) := PT.imp (pt_chain ho ho' ha hb hd hm) fun σ H Q ⟨w, Fs, σd, hd, S, p⟩ => by
    have h2 : tV pu .E c W (mChain g g' ma mb mc) σ H fun z H3 => ∃ k, z = .bl k ∧ Q k H3 := by
      refine stepT (md := .E) S p fun u h1 w1 H1 x Fx S1 mo ru p1 => ?_
      cases q : uBl u with
      | none => rw [q] at p1; exact p1.elim
      | some k => rw [q] at p1; exact ⟨k, uBl_ok q ru, p1.fin S1.wok S1.h⟩
    exact chain_ok h2
end
end MM

/-! MM8: statements. -/
namespace MM
open PySem PySem.Spec PyProof.Rows L2

inductive RS' where
  | nx (σ : SL) (h : HS) | rt (u : UV) (h : HS) | bk (σ : SL) (h : HS) | ct (σ : SL) (h : HS) | ex (e : Exn) (σ : SL) (h : HS) | bad
abbrev MS := SL → HS → RS'
/-- the whole world: the slots' own addresses, then the store's -/
abbrev full (w : Wd) (Fs : List Addr) : Wd := ⟨w.ρ, w.Z, Fs ++ w.F⟩
def SPo (c : Cg) (W : WX) (w0 : Wd) (H : Hp) (D : Ends) : RS' → Prop
  | .nx σd' h' => ∀ (w' : Wd) (Fs' : List Addr) (σ' : L2.St) (H' : Hp), Ext w0 H (full w' Fs') H' → Sta c w' Fs' σd' h' σ' H' → D.nx σ' H'
  | .bk σd' h' => ∀ (w' : Wd) (Fs' : List Addr) (σ' : L2.St) (H' : Hp), Ext w0 H (full w' Fs') H' → Sta c w' Fs' σd' h' σ' H' → D.bk σ' H'
  | .ct σd' h' => ∀ (w' : Wd) (Fs' : List Addr) (σ' : L2.St) (H' : Hp), Ext w0 H (full w' Fs') H' → Sta c w' Fs' σd' h' σ' H' → D.ct σ' H'
  | .rt u h' => ∀ (w' : Wd) (H' : Hp) (v : V) (Fv : List Addr), Ext w0 H ⟨w'.ρ, w'.Z, w'.F ++ Fv⟩ H' → WOk ⟨w'.ρ, w'.Z, w'.F ++ Fv⟩ H' → RH c w'.Z H' w'.ρ h' w'.F → RU c w'.Z H' w'.ρ u v Fv → D.rt v H'
  | .ex e σd' h' => ∀ (w' : Wd) (Fs' : List Addr) (σ' : L2.St) (H' : Hp) (cls : Value) (dx : Option Addr), Ext w0 H (full w' Fs') H' → Sta c w' Fs' σd' h' σ' H' → RX c w'.Z H' e cls dx → W cls dx σ' H'
  | .bad => False
def tS (c : Cg) (W : WX) (m : MS) : TS := fun D σ H => ∃ w Fs σd hd, Sta c w Fs σd hd σ H ∧ SPo c W (full w Fs) H D (m σd hd)
theorem SPo.shift {c : Cg} {W : WX} {w0 w1 : Wd} {H H1 : Hp} {D : Ends} {r : RS'} (e : Ext w0 H w1 H1) (ok : WOk w1 H1) (h : SPo c W w0 H D r) : SPo c W w1 H1 D r := by
  cases r with
  | nx σ h' => exact fun w' Fs' σ' H' e' S => h w' Fs' σ' H' (e.trans ok e') S
  | bk σ h' => exact fun w' Fs' σ' H' e' S => h w' Fs' σ' H' (e.trans ok e') S
  | ct σ h' => exact fun w' Fs' σ' H' e' S => h w' Fs' σ' H' (e.trans ok e') S
  | rt u h' => exact fun w' H' v Fv e' o rh ru => h w' H' v Fv (e.trans ok e') o rh ru
  | ex x σ h' => exact fun w' Fs' σ' H' cls dx e' S rx => h w' Fs' σ' H' cls dx (e.trans ok e') S rx
  | bad => exact h
theorem Ext.full {w w' : Wd} {H H' : Hp} (e : Ext w H w' H') (Fs : List Addr) : Ext (full w Fs) H (full w' Fs) H' := Ext.more (ρ := w.ρ) (Z := w.Z) (ρ' := w'.ρ) (Z' := w'.Z) e Fs
def bindS (m : MR UV) (σ : SL) (f : UV → HS → RS') : RS' := match m with
  | .ok u h => f u h
  | .err e h => .ex e σ h
  | .bad => .bad
def bindT (m : MR Bool) (σ : SL) (f : Bool → HS → RS') : RS' := match m with
  | .ok u h => f u h
  | .err e h => .ex e σ h
  | .bad => .bad
@[simp] theorem bindS_ok (u : UV) (h : HS) (σ : SL) (f : UV → HS → RS') : bindS (.ok u h) σ f = f u h := rfl
@[simp] theorem bindS_err (u : Exn) (h : HS) (σ : SL) (f : UV → HS → RS') : bindS (.err u h) σ f = .ex u σ h := rfl
@[simp] theorem bindS_bad (σ : SL) (f : UV → HS → RS') : bindS .bad σ f = .bad := rfl
@[simp] theorem bindT_ok (u : Bool) (h : HS) (σ : SL) (f : Bool → HS → RS') : bindT (.ok u h) σ f = f u h := rfl
@[simp] theorem bindT_err (u : Exn) (h : HS) (σ : SL) (f : Bool → HS → RS') : bindT (.err u h) σ f = .ex u σ h := rfl
@[simp] theorem bindT_bad (σ : SL) (f : Bool → HS → RS') : bindT .bad σ f = .bad := rfl

section
variable {X : Cx} {c : Cg} {W : WX} {m ma mb : ME} {mt : MT} {σ : L2.St} {H : Hp} {a b e : Expr} {pos : Pos} {pu : Bool} {D : Ends}
/-- an expression within a statement -/
theorem stepS {md : Md} {f : UV → HS → RS'} {w : Wd} {Fs : List Addr} {σd : SL} {hd : HS} {R : VK} (S : Sta c w Fs σd hd σ H) (p : SPo c W (full w Fs) H D (bindS (m σd hd) σd f))
    (k : ∀ (u : UV) (h1 : HS) (w1 : Wd) (H1 : Hp) (x : V) (Fx : List Addr), Sta c w1 Fs σd h1 σ H1 → MdOk md w H w1 H1 Fx → Pu pu H H1 → RU c w1.Z H1 w1.ρ u x Fx → SPo c W (full w1 Fs) H1 D (f u h1) → R x H1) : tV pu md c W m σ H R := by
  refine ⟨w, Fs, σd, hd, S, ?_⟩
  revert p
  cases m σd hd with
  | ok u h' =>
    intro p w' H' v Fv mo pp rh ru
    have S' := S.ext mo.ext.1 mo.ext.2 rh
    exact k u h' w' H' v Fv S' mo pp ru (SPo.shift (mo.ext.1.full Fs) S'.ok p)
  | err x h' => exact fun p w' H' cls dx e' ok' rh rx => p w' Fs σ H' cls dx (e'.full Fs) (S.ext e' ok' rh) rx
  | bad => exact fun p => p
theorem stepST {f : Bool → HS → RS'} {w : Wd} {Fs : List Addr} {σd : SL} {hd : HS} {R : Bool → Hp → Prop} (S : Sta c w Fs σd hd σ H) (p : SPo c W (full w Fs) H D (bindT (mt σd hd) σd f))
    (k : ∀ (u : Bool) (h1 : HS) (w1 : Wd) (H1 : Hp), Sta c w1 Fs σd h1 σ H1 → SPo c W (full w1 Fs) H1 D (f u h1) → R u H1) : tB2 pu c W mt σ H R := by
  refine ⟨w, Fs, σd, hd, S, ?_⟩
  revert p
  cases mt σd hd with
  | ok u h' =>
    intro p w' H' e' ok' pp rh
    have S' := S.ext e' ok' rh
    exact k u h' w' H' S' (SPo.shift (e'.full Fs) S'.ok p)
  | err x h' => exact fun p w' H' cls dx e' ok' rh rx => p w' Fs σ H' cls dx (e'.full Fs) (S.ext e' ok' rh) rx
  | bad => exact fun p => p
theorem SPo.next {σd : SL} {hd : HS} {w : Wd} {Fs : List Addr} (p : SPo c W (full w Fs) H D (.nx σd hd)) (S : Sta c w Fs σd hd σ H) : D.nx σ H := p w Fs σ H Ext.refl S

/-! ### a slot is stored -/
theorem RS.set {Z : Addr → Prop} {ρ : List Addr} {u : UV} {v : V} {Fv : List Addr} (r : RU c Z H ρ u v Fv) : ∀ {s : SL} {l : L2.St} {F : List Addr} (i : Nat), RS c Z H ρ s l F → ∃ F' F0, RS c Z H ρ (s.set i (some u)) (l.set i (some v)) F' ∧ F0.Sublist F ∧ (F'.Perm (F0 ++ Fv) ∨ F' = F0)
  | [], _, F, i, h => by
    rw [h.1, h.2]
    exact ⟨[], [], ⟨rfl, rfl⟩, List.Sublist.refl _, .inr rfl⟩
  | none :: s, _, F, 0, ⟨o, r', e, t⟩ => by
    rw [e]
    exact ⟨Fv ++ F, F, ⟨v, r', Fv, F, rfl, rfl, r, t⟩, List.Sublist.refl _, .inl List.perm_append_comm⟩
  | some x :: s, _, F, 0, ⟨v', r', F1, F2, e, eF, h, t⟩ => by
    rw [e, eF]
    exact ⟨Fv ++ F2, F2, ⟨v, r', Fv, F2, rfl, rfl, r, t⟩, List.sublist_append_right _ _, .inl List.perm_append_comm⟩
  | none :: s, _, F, i + 1, ⟨o, r', e, t⟩ => by
    obtain ⟨F', F0, h1, h2, h3⟩ := RS.set r i t
    rw [e]
    exact ⟨F', F0, ⟨o, _, rfl, h1⟩, h2, h3⟩
  | some x :: s, _, F, i + 1, ⟨v', r', F1, F2, e, eF, h, t⟩ => by
    obtain ⟨F', F0, h1, h2, h3⟩ := RS.set r i t
    rw [e, eF]
    refine ⟨F1 ++ F', F1 ++ F0, ⟨v', _, F1, F', rfl, rfl, h, h1⟩, List.Sublist.append_left h2 F1, ?_⟩
    rcases h3 with h3 | h3
    · refine .inl ?_
      rw [List.append_assoc]
      exact List.Perm.append_left F1 h3
    · exact .inr (by rw [h3])
/-- the same heap, no more in the end -/
theorem Ext.sub {ρ : List Addr} {Z : Addr → Prop} {F F' : List Addr} {H : Hp} (h : ∀ a ∈ F', a ∈ F) : Ext ⟨ρ, Z, F⟩ H ⟨ρ, Z, F'⟩ H :=
  ⟨fun _ _ e => e, fun _ z => z, fun _ _ e _ => e, fun a e => e.elim .inl fun q => .inr (.inl (h a q)), fun _ e => e⟩
abbrev fullv (w : Wd) (Fs Fv : List Addr) : Wd := ⟨w.ρ, w.Z, Fs ++ (w.F ++ Fv)⟩
theorem fullv_nil (w : Wd) (Fs : List Addr) : fullv w Fs [] = full w Fs := by unfold fullv full; rw [List.append_nil]
/-- an expression whose result is to be kept -/
theorem stepE {f : UV → HS → RS'} {w : Wd} {Fs : List Addr} {σd : SL} {hd : HS} {R : VK} (S : Sta c w Fs σd hd σ H) (p : SPo c W (full w Fs) H D (bindS (m σd hd) σd f))
    (k : ∀ (u : UV) (h1 : HS) (w1 : Wd) (H1 : Hp) (x : V) (Fx : List Addr), Sta c w1 Fs σd h1 σ H1 → WOk (fullv w1 Fs Fx) H1 → Pu pu H H1 → RU c w1.Z H1 w1.ρ u x Fx → SPo c W (fullv w1 Fs Fx) H1 D (f u h1) → R x H1) : tV pu .E c W m σ H R := by
  refine ⟨w, Fs, σd, hd, S, ?_⟩
  revert p
  cases m σd hd with
  | ok u h' =>
    intro p w' H' v Fv mo pp rh ru
    have S' := S.ext mo.ext.1 mo.ext.2 rh
    have ok := S.ok.aside mo.1 mo.2
    exact k u h' w' H' v Fv S' ok pp ru (SPo.shift (Ext.more (ρ := w.ρ) (Z := w.Z) (ρ' := w'.ρ) (Z' := w'.Z) mo.1 Fs) ok p)
  | err x h' => exact fun p w' H' cls dx e' ok' rh rx => p w' Fs σ H' cls dx (e'.full Fs) (S.ext e' ok' rh) rx
  | bad => exact fun p => p
theorem SPo.store {u : UV} {v : V} {Fv : List Addr} {σd : SL} {hd : HS} {w : Wd} {Fs : List Addr} {i : Nat} (S : Sta c w Fs σd hd σ H) (ok : WOk (fullv w Fs Fv) H) (ru : RU c w.Z H w.ρ u v Fv)
    (p : SPo c W (fullv w Fs Fv) H D (.nx (σd.set i (some u)) hd)) : D.nx (σ.set i (some v)) H := by
  obtain ⟨F', F0, h1, h2, h3⟩ := RS.set ru i S.s
  have o1 : WOk ⟨w.ρ, w.Z, F0 ++ (w.F ++ Fv)⟩ H := ok.less (List.Sublist.append_right h2 _)
  have ok' : WOk ⟨w.ρ, w.Z, F' ++ w.F⟩ H := by
    rcases h3 with h3 | h3
    · refine o1.perm ?_
      have q : (F' ++ w.F).Perm ((F0 ++ Fv) ++ w.F) := List.Perm.append_right _ h3
      rw [List.append_assoc] at q
      exact q.trans (List.Perm.append_left F0 List.perm_append_comm)
    · rw [h3]
      exact o1.less (List.Sublist.append_left (List.sublist_append_left _ _) F0)
  refine p w F' _ H (Ext.sub fun a ha => ?_) ⟨h1, S.h, ok'⟩
  rcases List.mem_append.mp ha with q | q
  · rcases h3 with h3 | h3
    · rcases List.mem_append.mp (h3.mem_iff.mp q) with q | q
      · exact List.mem_append_left _ (h2.subset q)
      · exact List.mem_append_right _ (List.mem_append_right _ q)
    · rw [h3] at q; exact List.mem_append_left _ (h2.subset q)
  · exact List.mem_append_right _ (List.mem_append_left _ q)

/-! ### small statements -/
def sSet (i : Nat) (m : ME) : MS := fun σ h => bindS (m σ h) σ fun u h1 => .nx (σ.set i (some u)) h1
def sDrop (m : ME) : MS := fun σ h => bindS (m σ h) σ fun _ h1 => .nx σ h1
def sRet (m : ME) : MS := fun σ h => bindS (m σ h) σ fun u h1 => .rt u h1
def sRetN : MS := fun _ h => .rt (.d .non) h
/-- the slot's own value is given away -/
def sMove (i : Nat) : MS := fun σ h => match σ[i]? with
  | some (some u) => .rt u h
  | _ => .bad
def sPass : MS := fun σ h => .nx σ h
def sBrk : MS := fun σ h => .bk σ h
def sCnt : MS := fun σ h => .ct σ h
def sIf (t : MT) (a b : MS) : MS := fun σ h => bindT (t σ h) σ fun k h1 => if k then a σ h1 else b σ h1
def thenS (r : RS') (f : SL → HS → RS') : RS' := match r with
  | .nx σ h => f σ h
  | r => r
def sSeq (a b : MS) : MS := fun σ h => thenS (a σ h) b
def sBad : MS := fun _ _ => .bad
@[simp] theorem thenS_nx (σ : SL) (h : HS) (f : SL → HS → RS') : thenS (.nx σ h) f = f σ h := rfl
@[simp] theorem thenS_rt (u : UV) (h : HS) (f : SL → HS → RS') : thenS (.rt u h) f = .rt u h := rfl
@[simp] theorem thenS_bk (σ : SL) (h : HS) (f : SL → HS → RS') : thenS (.bk σ h) f = .bk σ h := rfl
@[simp] theorem thenS_ct (σ : SL) (h : HS) (f : SL → HS → RS') : thenS (.ct σ h) f = .ct σ h := rfl
@[simp] theorem thenS_ex (e : Exn) (σ : SL) (h : HS) (f : SL → HS → RS') : thenS (.ex e σ h) f = .ex e σ h := rfl
@[simp] theorem thenS_bad (f : SL → HS → RS') : thenS .bad f = .bad := rfl
variable {st : Stmt} {sts : List Stmt} {ms ns : MS}
theorem s_set {i : Nat} {x : Str} {p' : Pos} (hs : PE X e (tV pu .E c W m) → PS X (.Assign [.Name x p'] e pos) (tAsg (tV pu .E c W m) (gName i))) (he : PE X e (tV pu .E c W m)) : PS X (.Assign [.Name x p'] e pos) (tS c W (sSet i m)) :=
  PS.imp (hs he) fun D σ H ⟨w, Fs, σd, hd, S, p⟩ => stepE S p fun u h1 w1 H1 x Fx S1 ok pp ru p1 => SPo.store S1 ok ru p1
theorem s_drop (he : PE X e (tV pu .C c W m)) (hs : swapsWith e none pos.line X.env = pure false := by rfl) : PS X (.Expr e pos) (tS c W (sDrop m)) :=
  PS.imp (ps_expr he hs) fun D σ H ⟨w, Fs, σd, hd, S, p⟩ => stepS S p fun u h1 w1 H1 x Fx S1 mo pp ru p1 => SPo.next p1 S1
theorem s_ret (he : PE X e (tV pu .E c W m)) : PS X (.Return (some e) pos) (tS c W (sRet m)) :=
  PS.imp (ps_ret he) fun D σ H ⟨w, Fs, σd, hd, S, p⟩ => stepE S p fun u h1 w1 H1 x Fx S1 ok pp ru p1 => p1 w1 H1 x Fx (Ext.sub fun a ha => List.mem_append_right _ ha) ok.right S1.h ru
theorem s_retN : PS X (.Return none pos) (tS c W sRetN) :=
  PS.imp ps_retN fun D σ H ⟨w, Fs, σd, hd, S, p⟩ => p w H .non [] (by simpa using Ext.sub fun a ha => List.mem_append_right _ ha) (by simpa using S.wok) S.h ⟨rfl, rfl⟩
theorem RS.split {Z : Addr → Prop} {ρ : List Addr} : ∀ {s : SL} {l : L2.St} {F : List Addr} {i : Nat} {u : UV}, RS c Z H ρ s l F → s[i]? = some (some u) → ∃ v G, l[i]? = some (some v) ∧ RU c Z H ρ u v G ∧ G.Sublist F
  | [], _, _, _, _, _, h => by simp at h
  | none :: s, _, _, 0, u, _, q => by simp at q
  | none :: s, _, _, i + 1, u, ⟨o, r, e, t⟩, q => by
    obtain ⟨v', G, e', h', s⟩ := RS.split (i := i) t (by simpa using q)
    exact ⟨v', G, by rw [e]; simpa using e', h', s⟩
  | some x :: s, _, _, 0, u, ⟨v, r, F1, F2, e, eF, h, t⟩, q => by
    have q' : x = u := by simpa using q
    subst q'
    exact ⟨v, F1, by rw [e]; rfl, h, by rw [eF]; exact List.sublist_append_left _ _⟩
  | some x :: s, _, _, i + 1, u, ⟨v, r, F1, F2, e, eF, h, t⟩, q => by
    obtain ⟨v', G, e', h', s⟩ := RS.split (i := i) t (by simpa using q)
    exact ⟨v', G, by rw [e]; simpa using e', h', by rw [eF]; exact s.trans (List.sublist_append_right _ _)⟩
theorem s_move (i : Nat) {x : Str} {p' : Pos} (h : PE X (.Name x p') (tVar i)) : PS X (.Return (some (.Name x p')) pos) (tS c W (sMove i)) :=
  PS.imp (ps_ret h) fun D σ H ⟨w, Fs, σd, hd, S, p⟩ => by
    unfold sMove at p
    split at p
    · rename_i u q
      obtain ⟨v, G, e, r, s⟩ := S.s.split q
      have okG : WOk ⟨w.ρ, w.Z, w.F ++ G⟩ H := (S.ok.less (List.Sublist.append_right s w.F)).perm List.perm_append_comm
      refine ⟨v, e, p w H v G (Ext.sub fun a ha => ?_) okG S.h r⟩
      rcases List.mem_append.mp ha with q | q
      · exact List.mem_append_right _ q
      · exact List.mem_append_left _ (s.subset q)
    · exact p.elim
theorem s_pass : PS X (.Pass pos) (tS c W sPass) := PS.imp ps_pass fun D σ H ⟨w, Fs, σd, hd, S, p⟩ => SPo.next p S
theorem s_brk : PS X (.Break pos) (tS c W sBrk) := PS.imp ps_break fun D σ H ⟨w, Fs, σd, hd, S, p⟩ => p w Fs σ H Ext.refl S
theorem s_cnt : PS X (.Continue pos) (tS c W sCnt) := PS.imp ps_continue fun D σ H ⟨w, Fs, σd, hd, S, p⟩ => p w Fs σ H Ext.refl S
theorem s_doc {x j pos'} : PS X (.Expr (.Constant (.str x) j pos) pos') (tS c W sPass) := PS.imp ps_doc fun D σ H ⟨w, Fs, σd, hd, S, p⟩ => SPo.next p S
/-- code that is never come to -/
theorem s_bad : PS X st (tS c W sBad) := PS.imp ps_never fun D σ H ⟨w, Fs, σd, hd, S, p⟩ => p
theorem ss_bad : PSs X sts (tS c W sBad) := PSs.imp pss_never fun D σ H ⟨w, Fs, σd, hd, S, p⟩ => p
theorem ss_nil : PSs X [] (tS c W sPass) := PSs.imp pss_nil fun D σ H ⟨w, Fs, σd, hd, S, p⟩ => SPo.next p S
theorem ss_one (h : PS X st (tS c W ms)) : PSs X [st] (tS c W ms) := pss_one h
theorem ss_cons (h : PS X st (tS c W ms)) (h2 : PSs X sts (tS c W ns)) : PSs X (st :: sts) (tS c W (sSeq ms ns)) :=
  PSs.imp (pss_cons h h2) fun D σ H ⟨w, Fs, σd, hd, S, p⟩ => ⟨w, Fs, σd, hd, S, by
    unfold sSeq at p
    revert p
    cases ms σd hd with
    | nx σ1 h1 => exact fun p w' Fs' σ' H' e S' => ⟨w', Fs', σ1, h1, S', SPo.shift e S'.ok p⟩
    | rt u h' => exact fun p => p
    | bk σ' h' => exact fun p => p
    | ct σ' h' => exact fun p => p
    | ex e σ' h' => exact fun p => p
    | bad => exact fun p => p⟩
theorem s_if {body els : List Stmt} {t : Expr} (ht : PT X t (tB2 pu c W mt)) (ha : PSs X body (tS c W ms)) (hb : PSs X els (tS c W ns)) : PS X (.If t body els pos) (tS c W (sIf mt ms ns)) :=
  PS.imp (ps_if ht ha hb) fun D σ H ⟨w, Fs, σd, hd, S, p⟩ => stepST S p fun u h1 w1 H1 S1 p1 => by
    cases u with
    | true => rw [if_pos rfl] at p1 ⊢; exact ⟨w1, Fs, σd, h1, S1, p1⟩
    | false => rw [if_neg Bool.false_ne_true] at p1 ⊢; exact ⟨w1, Fs, σd, h1, S1, p1⟩
/-- name op= e of ints -/
def sAug (i : Nat) (g : Int → Int → Int) (m : ME) : MS := fun σ h => match σ[i]? with
  | some (some u) => match uInt u with
    | some a => bindS (m σ h) σ fun v h1 => match uInt v with
      | some b => .nx (σ.set i (some (.d (.int (g a b))))) h1
      | none => .bad
    | none => .bad
  | _ => .bad
theorem s_aug {i : Nat} {x : Str} {p' : Pos} {op : Operator} {g : Int → Int → Int} {ti : TIp} (hti : ti = ipI g) (hs : PE X e (tV pu .C c W m) → PS X (.AugAssign (.Name x p') op e pos) (tAug i (tV pu .C c W m) ti)) (he : PE X e (tV pu .C c W m)) :
    PS X (.AugAssign (.Name x p') op e pos) (tS c W (sAug i g m)) := by
  subst hti
  refine PS.imp (hs he) fun D σ H ⟨w, Fs, σd, hd, S, p⟩ => ?_
  unfold sAug at p
  split at p
  · rename_i u q
    split at p
    · rename_i a qa
      obtain ⟨v, G, e1, r, s⟩ := S.s.get q
      refine ⟨v, e1, stepS (md := .C) S p fun u2 h1 w1 H1 y Fy S1 mo pp ru p1 => ?_⟩
      cases qb : uInt u2 with
      | none => rw [qb] at p1; exact p1.elim
      | some b =>
        rw [qb] at p1
        refine ⟨a, b, uInt_ok qa r, uInt_ok qb ru, ?_⟩
        exact SPo.store (u := .d (.int (g a b))) (Fv := []) S1 (by rw [fullv_nil]; exact S1.ok) ⟨rfl, rfl⟩ (by rw [fullv_nil]; exact p1)
    · exact p.elim
  · exact p.elim
end
end MM

/-! MM9: calls and bodies of defs. -/
namespace MM
open PySem PySem.Spec PyProof.Rows L2

abbrev MF := List UV → HS → MR UV
def CPo (c : Cg) (w : Wd) (H : Hp) (Q : VK) (E : XK) : MR UV → Prop
  | .ok u h' => ∀ (w' : Wd) (H' : Hp) (v : V) (Fv : List Addr), MdOk .E w H w' H' Fv → RH c w'.Z H' w'.ρ h' w'.F → RU c w'.Z H' w'.ρ u v Fv → Q v H'
  | .err e h' => ∀ (w' : Wd) (H' : Hp) (cls : Value) (dx : Option Addr), Ext w H w' H' → WOk w' H' → RH c w'.Z H' w'.ρ h' w'.F → RX c w'.Z H' e cls dx → E cls dx H'
  | .bad => False
/-- a def's promise by its function: n parameters -/
def spM (c : Cg) (n : Nat) (f : MF) : Sp := fun vs H Q E => vs.length = n ∧ ∃ w us hd, WOk w H ∧ RH c w.Z H w.ρ hd w.F ∧ RUl c w.Z H w.ρ us vs [] ∧ CPo c w H Q E (f us hd)
/-- the function of a body with N names -/
def fnM (N : Nat) (b : MS) : MF := fun us h => match b (us.map some ++ List.replicate (N - us.length) none) h with
  | .nx _ h' => .ok (.d .non) h'
  | .rt u h' => .ok u h'
  | .ex e _ h' => .err e h'
  | _ => .bad
section
variable {c : Cg} {Z : Addr → Prop} {H : Hp} {ρ : List Addr}
theorem RS.nones : ∀ (n : Nat), RS c Z H ρ (List.replicate n none) (List.replicate n none) []
  | 0 => ⟨rfl, rfl⟩
  | n + 1 => ⟨none, List.replicate n none, rfl, RS.nones n⟩
theorem RS.start {k : Nat} : ∀ {us : List UV} {vs : List V}, RUl c Z H ρ us vs [] → RS c Z H ρ (us.map some ++ List.replicate k none) (vs.map some ++ List.replicate k none) []
  | [], _, h => by rw [h.1]; exact RS.nones k
  | u :: us, _, ⟨v, r, F1, F2, e, eF, h, t⟩ => by
    have q := List.append_eq_nil_iff.mp eF.symm
    rw [q.1] at h
    rw [q.2] at t
    rw [e]
    exact ⟨v, r.map some ++ List.replicate k none, [], [], rfl, rfl, h, RS.start t⟩
end
/-- a def's body keeps the promise of its function -/
theorem body_ok {c : Cg} {N n : Nat} {b : MS} {vs : List V} {H : Hp} {Q : VK} {E : XK} (Ns : List Str) (hN : Ns.length = N) (h : spM c n (fnM N b) vs H Q E) :
    tS c (fun cls d _ H => E cls d H) b { nx := fun _ H' => Q .non H', rt := Q } (L2.start Ns vs) H := by
  obtain ⟨hn, w, us, hd, ok, rh, ru, p⟩ := h
  have el : vs.length = us.length := ru.length
  have St0 : Sta c w [] (us.map some ++ List.replicate (N - us.length) none) hd (L2.start Ns vs) H := by
    refine ⟨?_, rh, ok⟩
    unfold L2.start
    rw [hN, el]
    exact RS.start ru
  refine ⟨w, [], _, hd, St0, ?_⟩
  unfold fnM at p
  revert p
  cases b (us.map some ++ List.replicate (N - us.length) none) hd with
  | nx σ h' => exact fun p w' Fs' σ' H' e S => p w' H' .non [] ⟨Ext.less (w := w) e fun a ha => List.mem_append_right Fs' (by rw [List.append_nil] at ha; exact ha), by rw [List.append_nil]; exact S.wok⟩ S.h ⟨rfl, rfl⟩
  | rt u h' => exact fun p w' H' v Fv e o rh ru => p w' H' v Fv ⟨e, o⟩ rh ru
  | ex x σ h' => exact fun p w' Fs' σ' H' cls dx e S rx => p w' H' cls dx (Ext.less (w := w) e fun a ha => List.mem_append_right Fs' ha) S.wok S.h rx
  | bk σ h' => exact fun p => p.elim
  | ct σ h' => exact fun p => p.elim
  | bad => exact fun p => p.elim
theorem spM_len {c : Cg} {n : Nat} {f : MF} {ps : List Str} (h : ps.length = n) : ∀ vs H Q E, spM c n f vs H Q E → vs.length = ps.length := fun vs H Q E q => by rw [q.1, h]

/-! ### calls -/
def mCall (f : MF) (ms : MAs) : ME := fun σ h => bindM (ms σ h) fun us h1 => if us.all noOwn then f us h1 else .bad
def mCall0 (f : MF) : ME := fun _ h => f [] h
section
variable {X : Cx} {c : Cg} {W : WX} {σ : L2.St} {H : Hp} {ms : MAs} {e : Expr} {es : List Expr} {pos p : Pos} {x : Str} {fa : Addr} {fd : FuncData} {ps : List Str} {k n : Nat} {f : MF}
theorem CPo.of {w : Wd} {Q : VK} {r : MR UV} (h : EPo false .E c W σ w H Q r) : CPo c w H Q (WE W σ) r := by
  cases r with
  | ok u h' => exact fun w' H' v Fv mo rh ru => h w' H' v Fv mo .no rh ru
  | err x h' => exact h
  | bad => exact h
theorem call_args {Q : VK} (h : tV false .E c W (mCall f ms) σ H Q) (hn : ∀ σd hd us h1, ms σd hd = .ok us h1 → us.length = n) : tAs false c W ms σ H fun vs H1 => spM c n f (vs ++ []) H1 Q (WE W σ) := by
  obtain ⟨w, Fs, σd, hd, S, p⟩ := h
  refine ⟨w, Fs, σd, hd, S, ?_⟩
  unfold mCall at p
  have hn' := hn σd hd
  revert p hn'
  cases ms σd hd with
  | err x h' => exact fun p _ => p
  | bad => exact fun p _ => p
  | ok us h1 =>
    intro p hn' w1 H1 vs Fv mo pp rh ru
    simp only [bindM_ok] at p
    by_cases hno : us.all noOwn = true
    · rw [if_pos hno] at p
      have eF := noOwn_all hno ru
      subst eF
      rw [List.append_nil]
      exact ⟨by rw [ru.length]; exact hn' us h1 rfl, w1, us, h1, mo.ext.2, rh, ru, CPo.of (EPo.shift mo.ext.1 mo.ext.2 .no p)⟩
    · rw [if_neg hno] at p; exact p.elim
/-- how many arguments -/
def ArgN (ms : MAs) (n : Nat) : Prop := ∀ σd hd us h1, ms σd hd = .ok us h1 → us.length = n
theorem argN_nil : ArgN aNil 0 := fun _ _ _ _ h => by cases h; rfl
theorem argN_cons {m : ME} {n : Nat} (h : ArgN ms n) : ArgN (aCons m ms) (n + 1) := fun σd hd us h1 e => by
  unfold aCons at e
  cases q : m σd hd with
  | err x h' => rw [q] at e; cases e
  | bad => rw [q] at e; cases e
  | ok u h' =>
    rw [q] at e
    simp only [bindM_ok] at e
    cases q2 : ms σd h' with
    | err x h' => rw [q2] at e; cases e
    | bad => rw [q2] at e; cases e
    | ok us2 h2 =>
      rw [q2] at e
      simp only [bindM_ok] at e
      cases e
      rw [List.length_cons, h _ _ _ _ q2]
/-- f(e, ..) of a def of the module -/
theorem e_call (F : FnOk X.prog X.w X.K X.mg X.base (L2.CX X.prog X.w) k fa fd ps (spM c n f)) (hr : Room k X.A) (hg : Gl X x) (hm : X.mg x = some (.ref fa)) (hk : PySem.W.keepIn X.K (.ref fa) = true) (hb : Binds X.K fd ps []) (tk : Takes X W)
    (ha : PA X (e :: es) (tAs false c W ms)) (hn : ArgN ms n) (hdb : (x == ("__debug__" : Str)) = false := by decide) (he : starEach (e :: es) X.env = (false, eval e X.env) :: starEach es X.env := by rfl) (hpl : (backTo pos (starEach es X.env)).any (·.1) = false := by rfl) :
    PE X (.Call (.Name x p) (e :: es) [] pos) (tV false .E c W (mCall f ms)) :=
  PE.imp (pe_callSD (E := WE W) F hr hg hm hk hb .nil (fun σ => passAt tk σ) ha hdb he hpl) fun σ H Q h => call_args h hn
theorem e_call0 (F : FnOk X.prog X.w X.K X.mg X.base (L2.CX X.prog X.w) k fa fd ps (spM c 0 f)) (hr : Room k X.A) (hg : Gl X x) (hm : X.mg x = some (.ref fa)) (hk : PySem.W.keepIn X.K (.ref fa) = true) (hb : Binds X.K fd ps []) (tk : Takes X W)
    (hdb : (x == ("__debug__" : Str)) = false := by decide) : PE X (.Call (.Name x p) [] [] pos) (tV false .E c W (mCall0 f)) := by
  refine ⟨fun pins s σ H Q I h => ?_⟩
  obtain ⟨w, Fs, σd, hd, S, p⟩ := h
  refine wpAny_Call_Name_kw (ld_glob I hg hm ?_ hdb)
  exact PySem.W.callWith_K0 I.kIn hk (run_fnSD (us := []) (vs := []) (dvs := []) (E := WE W) F hr hb .nil (passAt tk σ) I .nil ⟨rfl, w, [], hd, S.wok, S.h, ⟨rfl, rfl⟩, CPo.of p⟩)
end
/-- THE RULE of a def: its promise by its body's derivation -/
theorem def_ok {P : Program} {w : World} {K : PySem.W.Frag} {mg : Str → Option Value} {base : Heap} {c : Cg} {x qual : Str} {st : Stmt} {f : Addr} {fd : FuncData} {N ps : List Str} {k n nN : Nat} {b : MS} (F : Fun K x qual st f fd) (S : FnScope N ps (defScope st))
    (hn : ps.length = n) (hN : N.length = nN)
    (hbody : ∀ (X : Cx) (W : WX), X.prog = P → X.w = w → X.K = K → X.mg = mg → X.base = base → X.N = N → X.env.scope = defScope st → X.calm = true → X.fn = (fun _ => true) → Room k X.A → Takes X W → (X.stack = X.env :: X.outer) → (X.env.frame = some X.env.locals) → PassesOwn (model X.prog X.w) X.A X.env X.xe → PSs X (defBody st) (tS c W b)) :
    FnOk P w K mg base (L2.CX P w) (k + 1) f fd ps (spM c n (fnM nN b)) := by
  refine F.okX S (spM_len hn) fun cdv A outer s H vs Q E hr h => ⟨_, hbody _ _ rfl rfl rfl rfl rfl rfl rfl rfl rfl hr (takes_of rfl rfl rfl rfl) rfl rfl (passes_of rfl), ?_⟩
  exact body_ok N hN h
end MM

/-! MM10: where a derivation stands; for loops. -/
namespace MM
open PySem PySem.Spec PyProof.Rows L2

structure Cc (c : Cg) (P : Program) (w : World) (base : Heap) (N : List Str) (sc : Scope) (k : Nat) (X : Cx) (W : WX) : Prop where
  eP : X.prog = P
  ew : X.w = w
  eK : c.K = X.K
  emg : c.mg = X.mg
  ebase : X.base = base
  eN : X.N = N
  esc : X.env.scope = sc
  calm : X.calm = true
  room : Room k X.A
  tk : Takes X W
  po : PassesOwn (model X.prog X.w) X.A X.env X.xe
  fk : sc.kind = .function
  nd : X.N.Nodup
section
variable {c : Cg} {P : Program} {w : World} {base : Heap} {N : List Str} {sc : Scope} {k : Nat} {X : Cx} {W : WX}
theorem Cc.v (C : Cc c P w base N sc k X W) (i : Nat) {x : Str} {pos : Pos} (hi : N[i]? = some x) (hv : Vis sc x) (hd : (x == ("__debug__" : Str)) = false := by decide) (hcd : (x == ("__classdict__" : Str)) = false := by decide) : PE X (.Name x pos) (tVar i) :=
  pe_var (by rw [C.eN]; exact hi) (by rw [C.esc]; exact hv) hd hcd
theorem Cc.gl (C : Cc c P w base N sc k X W) {x : Str} (h : sc.names.lookup x = some .globalImplicit) : Gl X x := by
  show X.env.scope.names.lookup x = _
  rw [C.esc]; exact h
theorem Cc.lc (C : Cc c P w base N sc k X W) {x : Str} (h : Loc sc x) : Loc X.env.scope x := by rw [C.esc]; exact h
theorem Cc.ni (C : Cc c P w base N sc k X W) {i : Nat} {x : Str} (h : N[i]? = some x) : X.N[i]? = some x := by rw [C.eN]; exact h
theorem Cc.mgo (C : Cc c P w base N sc k X W) {x : Str} {o : Option Value} (h : c.mg x = o) : X.mg x = o := by rw [← C.emg]; exact h

/-! ### storing a slot -/
theorem Sta.put {w : Wd} {Fs Fv : List Addr} {σd : SL} {hd : HS} {σ : L2.St} {H : Hp} {u : UV} {v : V} {i : Nat} (S : Sta c w Fs σd hd σ H) (ok : WOk (fullv w Fs Fv) H) (ru : RU c w.Z H w.ρ u v Fv) :
    ∃ F', Sta c w F' (σd.set i (some u)) hd (σ.set i (some v)) H ∧ Ext (fullv w Fs Fv) H (full w F') H := by
  let D : Ends := ⟨fun σ' H' => ∃ F', Sta c w F' (σd.set i (some u)) hd σ' H' ∧ Ext (fullv w Fs Fv) H (full w F') H', fun _ _ => True, fun _ _ => True, fun _ _ => True⟩
  obtain ⟨F', F0, h1, h2, h3⟩ := RS.set ru i S.s
  have o1 : WOk ⟨w.ρ, w.Z, F0 ++ (w.F ++ Fv)⟩ H := ok.less (List.Sublist.append_right h2 _)
  have ok' : WOk ⟨w.ρ, w.Z, F' ++ w.F⟩ H := by
    rcases h3 with h3 | h3
    · refine o1.perm ?_
      have q : (F' ++ w.F).Perm ((F0 ++ Fv) ++ w.F) := List.Perm.append_right _ h3
      rw [List.append_assoc] at q
      exact q.trans (List.Perm.append_left F0 List.perm_append_comm)
    · rw [h3]
      exact o1.less (List.Sublist.append_left (List.sublist_append_left _ _) F0)
  refine ⟨F', ⟨h1, S.h, ok'⟩, Ext.sub fun a ha => ?_⟩
  rcases List.mem_append.mp ha with q | q
  · rcases h3 with h3 | h3
    · rcases List.mem_append.mp (h3.mem_iff.mp q) with q | q
      · exact List.mem_append_left _ (h2.subset q)
      · exact List.mem_append_right _ (List.mem_append_right _ q)
    · rw [h3] at q; exact List.mem_append_left _ (h2.subset q)
  · exact List.mem_append_right _ (List.mem_append_left _ q)

/-! ### targets -/
abbrev TD := UV → SL → Option SL
def TgS (c : Cg) (g : TG) (td : TD) : Prop := ∀ (w : Wd) (Fs : List Addr) (σd : SL) (hd : HS) (σ : L2.St) (H : Hp) (u : UV) (v : V) (σd' : SL) (Q : L2.St → Hp → Prop), Sta c w Fs σd hd σ H → RU c w.Z H w.ρ u v [] → td u σd = some σd' →
  (∀ (Fs' : List Addr) (σ' : L2.St), Ext (full w Fs) H (full w Fs') H → Sta c w Fs' σd' hd σ' H → Q σ' H) → g v σ H Q
def tdN (i : Nat) : TD := fun u σ => some (σ.set i (some u))
theorem tgN (i : Nat) : TgS c (gName i) (tdN i) := fun w Fs σd hd σ H u v σd' Q S ru e k => by
  cases e
  obtain ⟨F', S', x⟩ := S.put (Fv := []) (i := i) (by rw [fullv_nil]; exact S.ok) ru
  rw [fullv_nil] at x
  exact k F' _ x S'
/-- several targets, by values -/
def TgsS (c : Cg) (g : TGs) (td : List UV → SL → Option SL) : Prop := ∀ (w : Wd) (Fs : List Addr) (σd : SL) (hd : HS) (σ : L2.St) (H : Hp) (us : List UV) (vs : List V) (σd' : SL) (Q : L2.St → Hp → Prop), Sta c w Fs σd hd σ H → RUl c w.Z H w.ρ us vs [] → td us σd = some σd' →
  (∀ (Fs' : List Addr) (σ' : L2.St), Ext (full w Fs) H (full w Fs') H → Sta c w Fs' σd' hd σ' H → Q σ' H) → g vs σ H Q
def tdNil : List UV → SL → Option SL := fun us σ => match us with
  | [] => some σ
  | _ => none
def tdCons (t : TD) (r : List UV → SL → Option SL) : List UV → SL → Option SL := fun us σ => match us with
  | u :: us => (t u σ).bind (r us)
  | [] => none
theorem tgsNil : TgsS c gNil tdNil := fun w Fs σd hd σ H us vs σd' Q S ru e k => by
  unfold tdNil at e
  split at e
  · cases e
    exact ⟨ru.1, k Fs σ Ext.refl S⟩
  · cases e
theorem tgsCons {g : TG} {gs : TGs} {t : TD} {r : List UV → SL → Option SL} (h : TgS c g t) (h2 : TgsS c gs r) : TgsS c (gCons g gs) (tdCons t r) := fun w Fs σd hd σ H us vs σd' Q S ru e k => by
  unfold tdCons at e
  split at e
  · rename_i u us'
    rw [Option.bind_eq_some_iff] at e
    obtain ⟨σ1, e1, e2⟩ := e
    obtain ⟨v, vr, F1, F2, ev, eF, hu, t2⟩ := ru
    have q := List.append_eq_nil_iff.mp eF.symm
    rw [q.1] at hu
    rw [q.2] at t2
    exact ⟨v, vr, ev, h w Fs σd hd σ H u v σ1 _ S hu e1 fun Fs1 σ' x S1 => h2 w Fs1 σ1 hd σ' H us' vr σd' Q S1 t2 e2 fun Fs2 σ2 x2 S2 => k Fs2 σ2 (x.trans S1.ok x2) S2⟩
  · cases e
/-- (a, b, ..) of a tuple's things -/
def tdT (n : Nat) (r : List UV → SL → Option SL) : TD := fun u σ => match asT u with
  | some us => if us.length = n ∧ us.all noOwn = true then r us σ else none
  | none => none
theorem tgT {gs : TGs} {n : Nat} {r : List UV → SL → Option SL} (h : TgsS c gs r) : TgS c (gTup c.K n gs) (tdT n r) := fun w Fs σd hd σ H u v σd' Q S ru e k => by
  unfold tdT at e
  split at e
  · rename_i us q
    split at e
    · rename_i hn
      obtain ⟨a, vs, G, rfl, hq, t, _⟩ := asT_ok ru q
      have eG := noOwn_all hn.2 t
      subst eG
      exact ⟨a, vs, rfl, hq, by rw [t.length]; exact hn.1, h w Fs σd hd σ H us vs σd' Q S t e k⟩
    · cases e
  · cases e

/-! ### what is walked -/
/-- things that never change their order -/
def frzQ : UV → Option (List UV)
  | .d (.lst xs) => some (xs.map .d)
  | .d (.rol xs) => some (xs.map .d)
  | .d (.tup xs) => some (xs.map .d)
  | .tp xs => if xs.all noOwn then some xs else none
  | .fl xs => if xs.all noOwn then some xs else none
  | _ => none
theorem frzQ_ok {w : Wd} {H : Hp} {u : UV} {v : V} {F : List Addr} {xs : List UV} (r : RU c w.Z H w.ρ u v F) (e : frzQ u = some xs) : ∃ a vs, v = .ref a ∧ RUl c w.Z H w.ρ xs vs [] ∧
    ((∀ (w2 : Wd) (H2 : Hp), (∀ x, w.Z x → w2.Z x) → (∀ x o, w.Z x → H x = some o → H2 x = some o) → SqL c.K H2 a vs) ∨ (∀ (w2 : Wd) H2, (∀ x, w.Z x → w2.Z x) → (∀ x o, w.Z x → H x = some o → H2 x = some o) → SqT c.K H2 a vs)) := by
  unfold frzQ at e
  split at e
  · cases e
    obtain ⟨_, a, vs, rfl, z, f, t⟩ := r
    exact ⟨a, vs, rfl, t.up, .inl fun w2 H2 _ k => .of (k _ _ z f)⟩
  · cases e
    obtain ⟨_, a, vs, rfl, f, t⟩ := r
    exact ⟨a, vs, rfl, t.up, .inl fun w2 H2 hz k => (f.mono hz k).sq⟩
  · cases e
    obtain ⟨_, a, vs, rfl, f, t⟩ := r
    exact ⟨a, vs, rfl, t.up, .inr fun w2 H2 hz k => (f.mono hz k).sq⟩
  · split at e
    · rename_i hn
      cases e
      obtain ⟨a, vs, rfl, z, f, t⟩ := r
      have eG := noOwn_all hn t
      subst eG
      exact ⟨a, vs, rfl, t, .inr fun w2 H2 hz k => .inl (Rd.mono (k a · z) f)⟩
    · cases e
  · split at e
    · rename_i hn
      cases e
      obtain ⟨a, vs, rfl, z, f, t⟩ := r
      have eG := noOwn_all hn t
      subst eG
      exact ⟨a, vs, rfl, t, .inl fun w2 H2 _ k => .of (k _ _ z f)⟩
    · cases e
  · cases e
/-- a list or a tuple, walked -/
def iSeq (K : PySem.W.Frag) (tl : TE) : TI := fun σ H R => tl σ H fun x H1 => ∃ a, x = .ref a ∧ (((∃ xs, SqL K H1 a xs) ∧ R (Itl K a) H1) ∨ ((∃ xs, SqT K H1 a xs) ∧ R (Itt K a) H1))
theorem pi_seq {tg l : Expr} {tl : TE} (hl : PE X l tl) : PI X tg l (iSeq X.K tl) := by
  refine ⟨fun pins s σ H R I h => thn (hl.run pins s σ H _ I h) ?_⟩
  rintro v s1 ⟨x, H1, I1, r1, a, e, q⟩
  subst e
  cases r1
  have fp : ∀ (ob : Obj) (H' : Hp), H' = H1 → ∀ b ∈ [s1.heap.objs.size], FpOk X pins H' b := fun ob H' e b hb => by
    obtain rfl : b = s1.heap.objs.size := by simpa using hb
    subst e
    exact I1.fpOk (Nat.le_refl _) (I1.hok.fresh (Nat.le_refl _))
  rcases q with ⟨⟨xs, hq⟩, q⟩ | ⟨⟨xs, hq⟩, q⟩
  · obtain ⟨its, rv, p, hz⟩ := I1.list hq
    exact wpAny_pyIter_list p.isList ⟨s1.heap.objs.size, [s1.heap.objs.size], _, _, H1, rfl, I1.kept (t' := s1.toks) fun b o e => Heap.get?_push_of_some _ e, turn_list a _, ⟨_, Heap.get?_push_size _ rfl, rfl, rfl⟩, fp default H1 rfl, q⟩
  · obtain ⟨its, rv, p, hz⟩ := I1.tuple hq
    exact wpAny_pyIter_tuple (show s1.heap.IsTuple a its.toArray from p) ⟨s1.heap.objs.size, [s1.heap.objs.size], _, _, H1, rfl, I1.kept (t' := s1.toks) fun b o e => Heap.get?_push_of_some _ e, turn_tuple a _, ⟨_, Heap.get?_push_size _ rfl, rfl, rfl⟩, fp default H1 rfl, q⟩

/-! ### for -/
theorem uInt0 : uInt (.d (.int 0)) = some 0 := rfl
def rangeU (lo : Int) (n : Nat) : List UV := (List.range n).map fun (m : Nat) => .d (.int (lo + (m : Int)))
theorem rangeU_len (lo : Int) (n : Nat) : (rangeU lo n).length = n := by unfold rangeU; rw [List.length_map, List.length_range]
def loopL (f : UV → SL → HS → RS') : List UV → SL → HS → RS'
  | [], σ, h => .nx σ h
  | x :: xs, σ, h => match f x σ h with
    | .nx σ' h' => loopL f xs σ' h'
    | .ct σ' h' => loopL f xs σ' h'
    | .bk σ' h' => .nx σ' h'
    | r => r
def turnF (td : TD) (b : MS) : UV → SL → HS → RS' := fun u σ h => match td u σ with
  | some σ' => b σ' h
  | none => .bad
def sFor (m : ME) (td : TD) (b : MS) : MS := fun σ h => bindS (m σ h) σ fun u h1 => match frzQ u with
  | some xs => loopL (turnF td b) xs σ h1
  | none => .bad
def sForR (lo hi : ME) (td : TD) (b : MS) : MS := fun σ h => bindS (lo σ h) σ fun u h1 => bindS (hi σ h1) σ fun v h2 => match uInt u, uInt v with
  | some i, some j => if -(2 ^ 62) ≤ i ∧ i < 2 ^ 62 ∧ -(2 ^ 62) ≤ j ∧ j < 2 ^ 62 then loopL (turnF td b) (rangeU i (j - i).toNat) σ h2 else .bad
  | _, _ => .bad
/-- one turn -/
theorem turn_ok {g : TG} {td : TD} {b : MS} {xs : List UV} {u : UV} {v : V} {w0 wv : Wd} {H0 : Hp} {D : Ends} {Fs : List Addr} {σd : SL} {hd : HS} {σ : L2.St} {H : Hp} {Pn : L2.St → Hp → Prop} (hg : TgS c g td)
    (S : Sta c wv Fs σd hd σ H) (ru : RU c wv.Z H wv.ρ u v []) (p : SPo c W (full wv Fs) H D (loopL (turnF td b) (u :: xs) σd hd))
    (k : ∀ (w' : Wd) (Fs' : List Addr) (σd' : SL) (hd' : HS) (σ' : L2.St) (H' : Hp), Ext (full wv Fs) H (full w' Fs') H' → Sta c w' Fs' σd' hd' σ' H' → SPo c W (full w' Fs') H' D (loopL (turnF td b) xs σd' hd') → Pn σ' H') :
    g v σ H fun σ2 H2 => tS c W b { D with nx := Pn, ct := Pn, bk := D.nx } σ2 H2 := by
  unfold loopL turnF at p
  cases q : td u σd with
  | none => simp only [q] at p; exact p.elim
  | some σ1 =>
    simp only [q] at p
    refine hg wv Fs σd hd σ H u v σ1 _ S ru q fun Fs1 σ' x S1 => ⟨wv, Fs1, σ1, hd, S1, ?_⟩
    have p1 := SPo.shift x S1.ok p
    revert p1
    cases b σ1 hd with
    | nx σ2 h2 => exact fun p1 w' Fs' σ' H' e S' => k w' Fs' σ2 h2 σ' H' (x.trans S1.ok e) S' (SPo.shift e S'.ok p1)
    | ct σ2 h2 => exact fun p1 w' Fs' σ' H' e S' => k w' Fs' σ2 h2 σ' H' (x.trans S1.ok e) S' (SPo.shift e S'.ok p1)
    | bk σ2 h2 => exact fun p1 w' Fs' σ' H' e S' => p1 w' Fs' σ' H' e S'
    | rt u h2 => exact fun p1 => p1
    | ex e σ2 h2 => exact fun p1 => p1
    | bad => exact fun p1 => p1
theorem RUl.drop_get {Z : Addr → Prop} {H : Hp} {ρ : List Addr} {xs : List UV} {vs : List V} {i : Nat} {v : V} (t : RUl c Z H ρ xs vs []) (e : vs[i]? = some v) : ∃ u, xs.drop i = u :: xs.drop (i + 1) ∧ RU c Z H ρ u v [] := by
  have hlt : i < xs.length := by
    rw [← t.length]
    exact (List.getElem?_eq_some_iff.mp e).1
  have hx : xs[i]? = some xs[i] := List.getElem?_eq_getElem hlt
  obtain ⟨v', G, e1, r, s⟩ := t.get hx
  rw [e] at e1; cases e1
  have eG : G = [] := by
    cases G with
    | nil => rfl
    | cons a G => exact absurd (s a List.mem_cons_self) (by simp)
  subst eG
  exact ⟨xs[i], List.drop_eq_getElem_cons hlt, r⟩
theorem s_for {tg iter : Expr} {body : List Stmt} {g : TG} {td : TD} {m : ME} {mb : MS} {pos : Pos} {pu : Bool} (hK : c.K = X.K) (hp : PassesOwn (model X.prog X.w) X.A X.env X.xe) (hc : X.calm = true) (hi : PE X iter (tV pu .E c W m)) (hg : PG X tg g) (hgs : TgS c g td) (hb : PSs X body (tS c W mb))
    (hs : ∀ x, foldedSetIterable iter X.env x = pure x := by intro _; rfl) : PS X (.For tg iter body [] pos) (tS c W (sFor m td mb)) :=
  PS.imp (ps_for hp hc (pi_seq hi) hg hb hs) fun D σ H ⟨w, Fs, σd, hd, S, p⟩ => stepE S p fun u h1 w1 H1 x Fx S1 ok pp ru p1 => by
    cases q : frzQ u with
    | none => simp only [q] at p1; exact p1.elim
    | some xs =>
      simp only [q] at p1
      obtain ⟨a, vs, rfl, t, hL⟩ := frzQ_ok ru q
      have p2 : SPo c W (full w1 Fs) H1 D (loopL (turnF td mb) xs σd h1) := SPo.shift (Ext.sub fun a ha => by
        rcases List.mem_append.mp ha with z | z
        · exact List.mem_append_left _ z
        · exact List.mem_append_right _ (List.mem_append_left _ z)) S1.ok p1
      let Pv : Nat → L2.St → Hp → Prop := fun i σ' H' => ∃ w' Fs' σd' hd', Ext (full w1 Fs) H1 (full w' Fs') H' ∧ Sta c w' Fs' σd' hd' σ' H' ∧ SPo c W (full w' Fs') H' D (loopL (turnF td mb) (xs.drop i) σd' hd')
      have h0 : Pv 0 σ H1 := ⟨w1, Fs, σd, h1, Ext.refl, S1, p2⟩
      have frz : ∀ {w' : Wd} {Fs' : List Addr} {H' : Hp}, Ext (full w1 Fs) H1 (full w' Fs') H' → ∀ x o, w1.Z x → H1 x = some o → H' x = some o := fun e => frozen_kept (w := full w1 Fs) S1.ok e
      have step : ∀ i v σ' H', vs[i]? = some v → Pv i σ' H' → g v σ' H' fun σ2 H2 => tS c W mb { D with nx := Pv (i + 1), ct := Pv (i + 1), bk := D.nx } σ2 H2 := fun i v σ' H' hv ⟨w', Fs', σd', hd', e, S', p'⟩ => by
        obtain ⟨u2, ed, ru2⟩ := t.drop_get hv
        rw [ed] at p'
        refine turn_ok (w0 := w1) (H0 := H1) hgs S' (RU.mono e.rho e.z (frz e) (fun _ z => absurd z (by simp)) ru2) p' fun w2 Fs2 σd2 hd2 σ2 H2 e2 S2 p2 => ⟨w2, Fs2, σd2, hd2, e.trans S'.ok e2, S2, p2⟩
      have fin : ∀ σ' H', Pv vs.length σ' H' → D.nx σ' H' := fun σ' H' ⟨w', Fs', σd', hd', e, S', p'⟩ => by
        rw [t.length, List.drop_length] at p'
        exact SPo.next p' S'
      rcases hL with hL | hL
      · refine ⟨a, rfl, .inl ⟨⟨vs, by rw [← hK]; exact hL w1 H1 (fun _ z => z) (fun _ _ _ h => h)⟩, ?_⟩⟩
        exact for_list Pv h0 (fun i σ' H' _ ⟨w', Fs', σd', hd', e, S', p'⟩ => by rw [← hK]; exact hL w' H' e.z (frz e)) step fin
      · refine ⟨a, rfl, .inr ⟨⟨vs, by rw [← hK]; exact hL w1 H1 (fun _ z => z) (fun _ _ _ h => h)⟩, ?_⟩⟩
        exact for_tup Pv h0 (fun i σ' H' _ ⟨w', Fs', σd', hd', e, S', p'⟩ => by rw [← hK]; exact hL w' H' e.z (frz e)) step fin
theorem range_drop (lo : Int) : ∀ (n i : Nat), i < n → (rangeU lo n).drop i = UV.d (.int (lo + (i : Int))) :: (rangeU lo n).drop (i + 1) := fun n i h => by
  have hl : i < (rangeU lo n).length := by rw [rangeU_len]; exact h
  rw [List.drop_eq_getElem_cons hl]
  simp [rangeU]
/-- the loop over lo, lo + 1, .. -/
theorem range_ok {g : TG} {td : TD} {b : MS} {lo : Int} {n : Nat} {w1 : Wd} {Fs : List Addr} {σd : SL} {h1 : HS} {σ : L2.St} {H1 : Hp} {D : Ends} (hgs : TgS c g td) (S1 : Sta c w1 Fs σd h1 σ H1)
    (p2 : SPo c W (full w1 Fs) H1 D (loopL (turnF td b) (rangeU lo n) σd h1)) :
    ∃ W' : Nat → Nat → L2.St → Hp → Prop, (∃ m, W' 0 m σ H1) ∧ ∀ i m σ H, W' i m σ H →
      ((Itr lo n).stop i H ∧ D.nx σ H) ∨ ((Itr lo n).go i H ∧ ∃ N : L2.St → Hp → Prop, (∀ σ' H', N σ' H' → ∃ m', m' < m ∧ W' (i + 1) m' σ' H') ∧ ∀ x H', (Itr lo n).yld i H x H' → g x σ H' fun σ2 H2 => tS c W b { D with nx := N, ct := N, bk := D.nx } σ2 H2) := by
  let Pv : Nat → L2.St → Hp → Prop := fun i σ' H' => ∃ w' Fs' σd' hd', Sta c w' Fs' σd' hd' σ' H' ∧ SPo c W (full w' Fs') H' D (loopL (turnF td b) ((rangeU lo n).drop i) σd' hd')
  refine for_range Pv ⟨w1, Fs, σd, h1, S1, p2⟩ (fun i σ' H' hi ⟨w', Fs', σd', hd', S', p'⟩ => ?_) fun σ' H' ⟨w', Fs', σd', hd', S', p'⟩ => ?_
  · rw [range_drop lo n i hi] at p'
    exact turn_ok (w0 := w1) (H0 := H1) (u := .d (.int (lo + (i : Int)))) hgs S' ⟨rfl, rfl⟩ p' fun w2 Fs2 σd2 hd2 σ2 H2 e2 S2 p2 => ⟨w2, Fs2, σd2, hd2, S2, p2⟩
  · rw [List.drop_of_length_le (by rw [rangeU_len]; exact Nat.le_refl _)] at p'
    exact SPo.next p' S'
theorem s_forR2 {tg a b : Expr} {body : List Stmt} {g : TG} {td : TD} {ma mb : ME} {m : MS} {pos p1 p2 : Pos} {pu : Bool} (hp : PassesOwn (model X.prog X.w) X.A X.env X.xe) (hc : X.calm = true) (hgl : Gl X "range") (hm : X.mg "range" = none) (ha : PE X a (tV pu .C c W ma)) (hb : PE X b (tV pu .C c W mb)) (hg : PG X tg g) (hgs : TgS c g td) (hbd : PSs X body (tS c W m))
    (hs : starEach [a, b] X.env = [(false, eval a X.env), (false, eval b X.env)] := by rfl) (hs2 : starEach [b] X.env = [(false, eval b X.env)] := by rfl) :
    PS X (.For tg (.Call (.Name "range" p1) [a, b] [] p2) body [] pos) (tS c W (sForR ma mb td m)) :=
  PS.imp (ps_for hp hc (pi_range2 hgl hm (pa_cons ha (pa_cons hb pa_nil (by rw [hs2]; rfl)) (by rw [hs, hs2])) hs hs2) hg hbd) fun D σ H ⟨w, Fs, σd, hd, S, p⟩ => stepS (md := .C) S p fun u h1 w1 H1 x Fx S1 mo pp ru p1 => stepS (md := .C) S1 p1 fun v h2 w2 H2 y Fy S2 mo2 pp2 rv p2 => by
    cases q1 : uInt u with
    | none => simp only [q1] at p2; exact p2.elim
    | some i =>
      cases q2 : uInt v with
      | none => simp only [q1, q2] at p2; exact p2.elim
      | some j =>
        simp only [q1, q2] at p2
        by_cases hb : -(2 ^ 62) ≤ i ∧ i < 2 ^ 62 ∧ -(2 ^ 62) ≤ j ∧ j < 2 ^ 62
        · rw [if_pos hb] at p2
          refine ⟨i, j, by rw [uInt_ok q1 ru, uInt_ok q2 rv], hb, ?_⟩
          exact range_ok hgs S2 p2
        · rw [if_neg hb] at p2; exact p2.elim
theorem s_forR1 {tg b : Expr} {body : List Stmt} {g : TG} {td : TD} {mb : ME} {m : MS} {pos p1 p2 : Pos} {pu : Bool} (hp : PassesOwn (model X.prog X.w) X.A X.env X.xe) (hc : X.calm = true) (hgl : Gl X "range") (hm : X.mg "range" = none) (hb : PE X b (tV pu .C c W mb)) (hg : PG X tg g) (hgs : TgS c g td) (hbd : PSs X body (tS c W m)) (hs2 : starEach [b] X.env = [(false, eval b X.env)] := by rfl) :
    PS X (.For tg (.Call (.Name "range" p1) [b] [] p2) body [] pos) (tS c W (sForR (mK (.int 0)) mb td m)) :=
  PS.imp (ps_for hp hc (pi_range1 hgl hm (pa_cons hb pa_nil (by rw [hs2]; rfl)) hs2) hg hbd) fun D σ H ⟨w, Fs, σd, hd, S, p⟩ => by
    unfold sForR mK at p
    simp only [bindS_ok] at p
    refine stepS (md := .C) S p fun v h2 w2 H2 y Fy S2 mo2 pp2 rv p2 => ?_
    cases q2 : uInt v with
    | none => simp only [uInt0, q2] at p2; exact p2.elim
    | some j =>
      simp only [uInt0, q2] at p2
      by_cases hb : -(2 ^ 62) ≤ (0 : Int) ∧ (0 : Int) < 2 ^ 62 ∧ -(2 ^ 62) ≤ j ∧ j < 2 ^ 62
      · rw [if_pos hb] at p2
        refine ⟨j, by rw [uInt_ok q2 rv], hb.2.2.1, hb.2.2.2, ?_⟩
        rw [Int.sub_zero] at p2
        exact range_ok hgs S2 p2
      · rw [if_neg hb] at p2; exact p2.elim
end
end MM

/-! MM11: list comprehensions. -/
namespace MM
open PySem PySem.Spec PyProof.Rows L2

def compL (f : UV → HS → MR (Option UV)) : List UV → HS → MR (List UV)
  | [], h => .ok [] h
  | x :: xs, h => match f x h with
    | .ok (some y) h1 => match compL f xs h1 with
      | .ok ys h2 => .ok (y :: ys) h2
      | _ => .bad
    | .ok none h1 => compL f xs h1
    | _ => .bad
def wipeU (σ : SL) : List Nat → SL
  | [] => σ
  | v :: vs => (wipeU σ vs).set v none
/-- one turn: the names bound, the test, the element -/
def turnC (td : TD) (vs : List Nat) (mt : MT) (me : ME) (σ : SL) : UV → HS → MR (Option UV) := fun u h => match td u (wipeU σ vs) with
  | some σ' => match mt σ' h with
    | .ok true h1 => match me σ' h1 with
      | .ok y h2 => .ok (some y) h2
      | _ => .bad
    | .ok false h1 => .ok none h1
    | _ => .bad
  | none => .bad
def mYes : MT := fun _ h => .ok true h
def compE (f : UV → HS → MR (Option UV)) (xs : List UV) (h : HS) : MR UV := if xs.length ≤ sizeLine then bindM (compL f xs h) fun ys h2 => .ok (.own ys) h2 else .bad
def mComp (mi : ME) (td : TD) (vs : List Nat) (mt : MT) (me : ME) : ME := fun σ h => bindM (mi σ h) fun u h1 => match frzQ u with
  | some xs => compE (turnC td vs mt me σ) xs h1
  | none => .bad
def mCompR (lo hi : ME) (td : TD) (vs : List Nat) (mt : MT) (me : ME) : ME := fun σ h => bindM (lo σ h) fun u h1 => bindM (hi σ h1) fun v h2 => match uInt u, uInt v with
  | some i, some j => if -(2 ^ 62) ≤ i ∧ i < 2 ^ 62 ∧ -(2 ^ 62) ≤ j ∧ j < 2 ^ 62 then compE (turnC td vs mt me σ) (rangeU i (j - i).toNat) h2 else .bad
  | _, _ => .bad
abbrev W0 : WX := fun _ _ _ _ => False
def TgW (g : TG) (vs : List Nat) : Prop := ∀ v σ H Q, g v σ H Q → g v σ H fun σ2 H2 => wipe σ2 vs = wipe σ vs ∧ Q σ2 H2
theorem wipe_set {σ : L2.St} {i : Nat} {x : Option V} : ∀ vs : List Nat, wipe (σ.set i x) vs = if i ∈ vs then wipe σ vs else (wipe σ vs).set i x
  | [] => by simp [wipe]
  | v :: vs => by
    have ih := wipe_set (σ := σ) (i := i) (x := x) vs
    show (wipe (σ.set i x) vs).set v none = _
    rw [ih]
    by_cases h : i ∈ vs
    · rw [if_pos h, if_pos (List.mem_cons_of_mem _ h)]; rfl
    · rw [if_neg h]
      by_cases e : i = v
      · subst e
        rw [if_pos List.mem_cons_self, List.set_set]; rfl
      · rw [if_neg (by simp [e, h]), List.set_comm _ _ e]; rfl
theorem wipe_idem {σ : L2.St} : ∀ vs : List Nat, wipe (wipe σ vs) vs = wipe σ vs
  | [] => rfl
  | v :: vs => by
    show (wipe ((wipe σ vs).set v none) vs).set v none = (wipe σ vs).set v none
    rw [wipe_set]
    by_cases h : v ∈ vs
    · rw [if_pos h, wipe_idem vs]
    · rw [if_neg h, wipe_idem vs, List.set_set]
theorem tgwN {i : Nat} {vs : List Nat} (h : i ∈ vs) : TgW (gName i) vs := fun v σ H Q q => ⟨by rw [wipe_set, if_pos h], q⟩
def TgsW (g : TGs) (vs : List Nat) : Prop := ∀ us σ H Q, g us σ H Q → g us σ H fun σ2 H2 => wipe σ2 vs = wipe σ vs ∧ Q σ2 H2
theorem tgwNil {vs : List Nat} : TgsW gNil vs := fun us σ H Q q => ⟨q.1, rfl, q.2⟩
theorem tgwCons {g : TG} {gs : TGs} {vs : List Nat} (hm : ∀ v σ H (Q Q' : L2.St → Hp → Prop), (∀ σ H, Q σ H → Q' σ H) → g v σ H Q → g v σ H Q') (h : TgW g vs) (h2 : TgsW gs vs) : TgsW (gCons g gs) vs := fun us σ H Q ⟨v, r, e, q⟩ =>
  ⟨v, r, e, hm _ _ _ _ _ (fun σ1 H1 ⟨e1, q1⟩ => by
    have := h2 r σ1 H1 Q q1
    rw [e1] at this
    exact this) (h v σ H _ q)⟩
theorem gName_mono {i : Nat} : ∀ v σ H (Q Q' : L2.St → Hp → Prop), (∀ σ H, Q σ H → Q' σ H) → gName i v σ H Q → gName i v σ H Q' := fun _ _ _ _ _ k q => k _ _ q
theorem tgwT {K : PySem.W.Frag} {n : Nat} {gs : TGs} {vs : List Nat} (h : TgsW gs vs) : TgW (gTup K n gs) vs := fun v σ H Q ⟨a, xs, e1, e2, e3, q⟩ => ⟨a, xs, e1, e2, e3, h xs σ H Q q⟩

section
variable {c : Cg} {Z : Addr → Prop} {H : Hp} {ρ : List Addr}
theorem RS.unset : ∀ {s : SL} {l : L2.St} {F : List Addr} (i : Nat), RS c Z H ρ s l F → ∃ F0, RS c Z H ρ (s.set i none) (l.set i none) F0 ∧ F0.Sublist F
  | [], _, F, i, h => by
    rw [h.1, h.2]
    exact ⟨[], ⟨rfl, rfl⟩, List.Sublist.refl _⟩
  | none :: s, _, F, 0, ⟨o, r', e, t⟩ => by
    rw [e]
    exact ⟨F, ⟨none, r', rfl, t⟩, List.Sublist.refl _⟩
  | some x :: s, _, F, 0, ⟨v', r', F1, F2, e, eF, h, t⟩ => by
    rw [e, eF]
    exact ⟨F2, ⟨none, r', rfl, t⟩, List.sublist_append_right _ _⟩
  | none :: s, _, F, i + 1, ⟨o, r', e, t⟩ => by
    obtain ⟨F0, h1, h2⟩ := RS.unset i t
    rw [e]
    exact ⟨F0, ⟨o, _, rfl, h1⟩, h2⟩
  | some x :: s, _, F, i + 1, ⟨v', r', F1, F2, e, eF, h, t⟩ => by
    obtain ⟨F0, h1, h2⟩ := RS.unset i t
    rw [e, eF]
    exact ⟨F1 ++ F0, ⟨v', _, F1, F0, rfl, rfl, h, h1⟩, List.Sublist.append_left h2 F1⟩
theorem RS.wipe {s : SL} {l : L2.St} {F : List Addr} (h : RS c Z H ρ s l F) : ∀ vs : List Nat, ∃ F0, RS c Z H ρ (wipeU s vs) (L2.wipe l vs) F0 ∧ F0.Sublist F
  | [] => ⟨F, h, List.Sublist.refl _⟩
  | v :: vs => by
    obtain ⟨F1, h1, s1⟩ := RS.wipe h vs
    obtain ⟨F0, h2, s2⟩ := RS.unset v h1
    exact ⟨F0, h2, s2.trans s1⟩
end
/-- a fresh object of the result is written -/
theorem upd_ownE {w1 w3 : Wd} {H1 H3 : Hp} {D : Addr} {G : List Addr} {o : HO} (mo : MdOk .E w1 H1 w3 H3 (D :: G)) (hD : H1 D = none) :
    MdOk .E w1 H1 w3 (upd H3 D o) (D :: G) ∧ (∀ a u, (w3.Z a ∨ a ∈ w3.F ∨ a ∈ G) → H3 a = some u → upd H3 D o a = some u) := by
  obtain ⟨e, ok⟩ := mo
  have nd := List.nodup_append.mp ok.nd
  have nG := List.nodup_cons.mp nd.2.1
  refine ⟨⟨⟨e.rho, e.z, fun a u h n => ?_, e.new, fun a h => upd_there a (e.there a h)⟩, ok.nd, ok.sep, fun a h => upd_there a (ok.trF a h), fun a h => upd_there a (ok.trZ a h)⟩, fun a u h q => ?_⟩
  · rw [upd_ne (ne_of_none h hD)]; exact e.keep a u h n
  · have ne : a ≠ D := by
      rintro rfl
      rcases h with h | h | h
      · exact ok.sep a (List.mem_append_right _ List.mem_cons_self) h
      · exact nd.2.2 a h a List.mem_cons_self rfl
      · exact nG.1 h
    rw [upd_ne ne]; exact q

section
variable {X : Cx} {c : Cg} {W : WX} {pu : Bool} {g : TG} {td : TD} {mt : MT} {me : ME} {vs : List Nat} {w1 : Wd} {Fs : List Addr} {σd : SL} {hd : HS} {σ : L2.St} {H1 : Hp} {D : Addr} {Q : VK}
/-- what holds between two turns -/
def PvC (pu : Bool) (c : Cg) (W : WX) (σ : L2.St) (w1 : Wd) (H1 : Hp) (D : Addr) (Q : VK) (f : UV → HS → MR (Option UV)) (xs : List UV) (i : Nat) (H : Hp) : Prop :=
  ∃ (w' : Wd) (hd' : HS) (acc : List UV) (va : List V) (G : List Addr), MdOk .E w1 H1 w' H (D :: G) ∧ Pu pu H1 H ∧ RH c w'.Z H w'.ρ hd' w'.F ∧ H D = some (.lst va) ∧ RUl c w'.Z H w'.ρ acc va G ∧ acc.length ≤ i ∧
    EPo pu .E c W σ w1 H1 Q (bindM (compL f (xs.drop i) hd') fun ys h => .ok (.own (acc ++ ys)) h)
theorem pvC_start {f : UV → HS → MR (Option UV)} {xs : List UV} (ok : WOk w1 H1) (rh : RH c w1.Z H1 w1.ρ hd w1.F) (hD : H1 D = none) (p : EPo pu .E c W σ w1 H1 Q (bindM (compL f xs hd) fun ys h => .ok (.own ys) h)) : PvC pu c W σ w1 H1 D Q f xs 0 (upd H1 D (.lst [])) :=
  ⟨w1, hd, [], [], [], ext_newE (.same ok) hD, fun _ => upd_keep hD, RH_upd hD rh, upd_same, ⟨rfl, rfl⟩, Nat.le_refl _, p⟩
theorem pvC_end {f : UV → HS → MR (Option UV)} {xs : List UV} {n : Nat} {H : Hp} (hn : xs.length ≤ n) (h : PvC pu c W σ w1 H1 D Q f xs n H) : Q (.ref D) H := by
  obtain ⟨w', hd', acc, va, G, mo, pp, rh, hD, ra, _, p⟩ := h
  rw [List.drop_of_length_le hn] at p
  simp only [compL, bindM_ok, List.append_nil] at p
  exact p w' H _ _ mo pp rh ⟨D, va, G, rfl, hD, rfl, ra⟩
theorem pvC_turn {xs : List UV} {i : Nat} {H : Hp} {u : UV} {v : V} (hgs : TgS c g td) (hgw : TgW g vs) (S1 : Sta c w1 Fs σd hd σ H1) (hD : H1 D = none) (hz : xs.length ≤ sizeLine) (hi : i < xs.length)
    (hu : xs.drop i = u :: xs.drop (i + 1)) (ru : ∀ (w' : Wd) H, (∀ x, w1.Z x → w'.Z x) → (∀ x o, w1.Z x → H1 x = some o → H x = some o) → (∀ (i : Nat) a, w1.ρ[i]? = some a → w'.ρ[i]? = some a) → RU c w'.Z H w'.ρ u v [])
    (h : PvC pu c W σ w1 H1 D Q (turnC td vs mt me σd) xs i H) :
    g v (wipe σ vs) H fun σ2 H2 => wipe σ2 vs = wipe σ vs ∧ tB2 pu c W0 mt σ2 H2 fun b H3 =>
      if b = true then tV pu .E c W0 me σ2 H3 fun y H4 => ∃ acc, H4 D = some (.lst acc) ∧ acc.length < sizeLine ∧ PvC pu c W σ w1 H1 D Q (turnC td vs mt me σd) xs (i + 1) (upd H4 D (.lst (acc ++ [y])))
      else PvC pu c W σ w1 H1 D Q (turnC td vs mt me σd) xs (i + 1) H3 := by
  obtain ⟨w', hd', acc, va, G, mo, pp, rh, hHD, ra, hl, p⟩ := h
  obtain ⟨Fw, hw, sw⟩ := S1.s.wipe vs
  have e1 := mo.ext
  have kz := frozen_kept S1.wok e1.1
  have okA : WOk ⟨w'.ρ, w'.Z, Fs ++ (w'.F ++ (D :: G))⟩ H := S1.ok.aside mo.1 mo.2
  have Sw : Sta c w' Fw (wipeU σd vs) hd' (wipe σ vs) H :=
    ⟨hw.mono e1.1.rho e1.1.z kz (fun a ha o ho => aside_kept S1.ok e1.1 a (sw.subset ha) o ho), rh, okA.less (List.Sublist.append sw (List.sublist_append_left _ _))⟩
  rw [hu] at p
  unfold compL turnC at p
  have hgw' : ∀ Q, g v (wipe σ vs) H Q → g v (wipe σ vs) H fun σ2 H2 => wipe σ2 vs = wipe σ vs ∧ Q σ2 H2 := fun Q z => by
    have := hgw v (wipe σ vs) H Q z
    rw [wipe_idem] at this
    exact this
  refine hgw' _ ?_
  cases q : td u (wipeU σd vs) with
  | none => simp only [q, bindM_bad] at p; exact p.elim
  | some σ1 =>
    simp only [q] at p
    refine hgs w' Fw (wipeU σd vs) hd' (wipe σ vs) H u v σ1 _ Sw (ru w' H e1.1.z kz e1.1.rho) q fun F1 σ' x S2 => ⟨w', F1, σ1, hd', S2, ?_⟩
    revert p
    cases q2 : mt σ1 hd' with
    | err e h' => intro p; simp only [q2, bindM_bad] at p; exact p.elim
    | bad => intro p; simp only [q2, bindM_bad] at p; exact p.elim
    | ok b h2 =>
      intro p w2 H2 e2 o2 pp2 rh2
      have nD : D ∉ w'.F := fun z => (List.nodup_append.mp mo.2.nd).2.2 D z D List.mem_cons_self rfl
      cases b with
      | false =>
        rw [if_neg Bool.false_ne_true]
        simp only [q2] at p
        have mo2 : MdOk .E w1 H1 w2 H2 (D :: G) := by
          have := mo.two (w2 := w2) (H2 := H2) (Fr := []) ⟨by simpa using e2, by simpa using o2⟩
          rw [List.append_nil] at this
          exact this
        refine ⟨w2, h2, acc, va, G, mo2, pp.trans pp2, rh2, e2.keep D _ hHD nD, ?_, Nat.le_succ_of_le hl, p⟩
        exact RUl.mono e2.rho e2.z (frozen_kept e1.2 e2) (fun a ha o ho => e2.keep a o ho fun z => (List.nodup_append.mp mo.2.nd).2.2 a z a (List.mem_cons_of_mem _ ha) rfl) ra
      | true =>
        rw [if_pos rfl]
        simp only [q2] at p
        refine ⟨w2, F1, σ1, h2, S2.ext e2 o2 rh2, ?_⟩
        revert p
        cases q3 : me σ1 h2 with
        | err e h' => intro p; simp only [q3, bindM_bad] at p; exact p.elim
        | bad => intro p; simp only [q3, bindM_bad] at p; exact p.elim
        | ok y h3 =>
          intro p w3 H3 vy Fy mo3 pp3 rh3 ry
          simp only [q3] at p
          have m3 : MdOk .E w' H w3 H3 Fy := mo3.trans e2 o2
          have m4 := mo.two m3
          have e3 := m3.ext.1
          have hD3 : H3 D = some (.lst va) := e3.keep D _ hHD nD
          have m4' : MdOk .E w1 H1 w3 H3 (D :: (G ++ Fy)) := m4
          obtain ⟨m5, k5⟩ := upd_ownE (o := .lst (va ++ [vy])) m4' hD
          have ra3 : RUl c w3.Z H3 w3.ρ acc va G := RUl.mono e3.rho e3.z (frozen_kept e1.2 e3) (fun a ha o ho => e3.keep a o ho fun z => (List.nodup_append.mp mo.2.nd).2.2 a z a (List.mem_cons_of_mem _ ha) rfl) ra
          have ry3 : RUl c w3.Z H3 w3.ρ (acc ++ [y]) (va ++ [vy]) (G ++ Fy) := ra3.app ⟨vy, [], Fy, [], rfl, by simp, ry, rfl, rfl⟩
          have hlen : va.length < sizeLine := by
            rw [ra.length]
            exact Nat.lt_of_lt_of_le (Nat.lt_of_le_of_lt hl hi) hz
          refine ⟨va, hD3, hlen, w3, h3, acc ++ [y], va ++ [vy], G ++ Fy, m5, fun pq a o ho => ?_, ?_, upd_same, ?_, ?_, ?_⟩
          · rw [upd_ne (ne_of_none ho hD)]; exact ((pp.trans pp2).trans pp3) pq a o ho
          · exact RHl.mono (fun _ _ e => e) (fun _ z => z) (fun a o z ho => k5 a o (.inl z) ho) (fun a ha o ho => k5 a o (.inr (.inl ha)) ho) rh3
          · exact RUl.mono (fun _ _ e => e) (fun _ z => z) (fun a o z ho => k5 a o (.inl z) ho) (fun a ha o ho => k5 a o (.inr (.inr ha)) ho) ry3
          · rw [List.length_append]; exact Nat.succ_le_succ hl
          · have e9 : ∀ {m : MR (List UV)}, EPo pu .E c W σ w1 H1 Q (bindM (match m with | .ok ys h2 => .ok (y :: ys) h2 | _ => .bad) fun ys h => .ok (.own (acc ++ ys)) h) → EPo pu .E c W σ w1 H1 Q (bindM m fun ys h => .ok (.own ((acc ++ [y]) ++ ys)) h) := fun {m} z => by
              cases m with
              | ok ys h4 => simp only [bindM_ok] at z ⊢; rw [List.append_assoc]; exact z
              | err e h4 => exact z.elim
              | bad => exact z.elim
            exact e9 p
theorem PTs.imp {ifs : List Expr} {t t' : TT} (h : PTs X ifs t) (i : ∀ σ H Q, t' σ H Q → t σ H Q) : PTs X ifs t' := ⟨fun pins s σ H Q I q => h.run pins s σ H Q I (i σ H Q q)⟩
theorem ts_nil : PTs X [] (tB2 pu c W mYes) := PTs.imp pts_nil fun σ H Q ⟨w, Fs, σd, hd, S, p⟩ => p.fin S.wok S.h
theorem ts_one {t : Expr} (h : PT X t (tB2 pu c W mt)) : PTs X [t] (tB2 pu c W mt) := pts_one h
/-- the reading of a comprehension over a list or tuple -/
theorem comp_seq {mi : ME} {H : Hp} (hK : c.K = X.K) (hgs : TgS c g td) (hgw : TgW g vs) (h : tV pu .E c W (mComp mi td vs mt me) σ H Q) : tLc (iSeq X.K (tV pu .E c W mi)) g (tB2 pu c W0 mt) (tV pu .E c W0 me) vs σ H Q := by
  obtain ⟨w, Fs, σd, hd, S, p⟩ := h
  refine step1 (md := .E) S p fun u h1 w1 H1 x Fx S1 mo ru p1 => ?_
  cases q : frzQ u with
  | none => simp only [q] at p1; exact p1.elim
  | some xs =>
    simp only [q] at p1
    unfold compE at p1
    by_cases hz : xs.length ≤ sizeLine
    · rw [if_pos hz] at p1
      obtain ⟨a, va, rfl, t, hL⟩ := frzQ_ok ru q
      have turn : ∀ D, H1 D = none → ∀ i v H', va[i]? = some v → PvC pu c W σ w1 H1 D Q (turnC td vs mt me σd) xs i H' →
          g v (wipe σ vs) H' fun σ2 H2 => wipe σ2 vs = wipe σ vs ∧ tB2 pu c W0 mt σ2 H2 fun b H3 =>
            if b = true then tV pu .E c W0 me σ2 H3 fun y H4 => ∃ acc, H4 D = some (.lst acc) ∧ acc.length < sizeLine ∧ PvC pu c W σ w1 H1 D Q (turnC td vs mt me σd) xs (i + 1) (upd H4 D (.lst (acc ++ [y])))
            else PvC pu c W σ w1 H1 D Q (turnC td vs mt me σd) xs (i + 1) H3 := fun D hD i v H' hv hp => by
        obtain ⟨u2, ed, ru2⟩ := t.drop_get hv
        have hi : i < xs.length := by
          rw [← t.length]
          exact (List.getElem?_eq_some_iff.mp hv).1
        exact pvC_turn hgs hgw S1 hD hz hi ed (fun w' H' hz' hk' hr' => RU.mono hr' hz' hk' (fun _ z => absurd z (by simp)) ru2) hp
      rcases hL with hL | hL
      · refine ⟨a, rfl, .inl ⟨⟨va, by rw [← hK]; exact hL w1 H1 (fun _ z => z) (fun _ _ _ h => h)⟩, fun D hD => ?_⟩⟩
        exact lc_list (xs := va) (PvC pu c W σ w1 H1 D Q (turnC td vs mt me σd) xs) (pvC_start S1.wok S1.h hD p1) (fun i H' _ ⟨w', hd', acc, va', G, m', _⟩ => by rw [← hK]; exact hL w' H' m'.ext.1.z (frozen_kept S1.wok m'.ext.1)) (turn D hD) fun H' hp => pvC_end (by rw [t.length]; exact Nat.le_refl _) hp
      · refine ⟨a, rfl, .inr ⟨⟨va, by rw [← hK]; exact hL w1 H1 (fun _ z => z) (fun _ _ _ h => h)⟩, fun D hD => ?_⟩⟩
        exact lc_tup (xs := va) (PvC pu c W σ w1 H1 D Q (turnC td vs mt me σd) xs) (pvC_start S1.wok S1.h hD p1) (fun i H' _ ⟨w', hd', acc, va', G, m', _⟩ => by rw [← hK]; exact hL w' H' m'.ext.1.z (frozen_kept S1.wok m'.ext.1)) (turn D hD) fun H' hp => pvC_end (by rw [t.length]; exact Nat.le_refl _) hp
    · rw [if_neg hz] at p1; exact p1.elim
/-- over a range -/
theorem comp_rng {lo : Int} {n : Nat} {h1 : HS} (hgs : TgS c g td) (hgw : TgW g vs) (S1 : Sta c w1 Fs σd h1 σ H1) (p1 : EPo pu .E c W σ w1 H1 Q (compE (turnC td vs mt me σd) (rangeU lo n) h1)) (D : Addr) (hD : H1 D = none) :
    ∃ W' : Nat → Nat → Hp → Prop, (∃ m, W' 0 m (upd H1 D (.lst []))) ∧ ∀ i m H, W' i m H →
      ((Itr lo n).stop i H ∧ Q (.ref D) H) ∨ ((Itr lo n).go i H ∧ ∃ Nx : Hp → Prop, (∀ H', Nx H' → ∃ m', m' < m ∧ W' (i + 1) m' H') ∧ ∀ x H', (Itr lo n).yld i H x H' → g x (wipe σ vs) H' fun σ2 H2 => wipe σ2 vs = wipe σ vs ∧ tB2 pu c W0 mt σ2 H2 fun b H3 =>
        if b = true then tV pu .E c W0 me σ2 H3 fun y H4 => ∃ acc, H4 D = some (.lst acc) ∧ acc.length < sizeLine ∧ Nx (upd H4 D (.lst (acc ++ [y]))) else Nx H3) := by
  unfold compE at p1
  by_cases hz : (rangeU lo n).length ≤ sizeLine
  · rw [if_pos hz] at p1
    exact lc_range (Qd := fun H => Q (.ref D) H) (PvC pu c W σ w1 H1 D Q (turnC td vs mt me σd) (rangeU lo n)) (pvC_start S1.wok S1.h hD p1)
      (fun i H' hi hp => pvC_turn (u := .d (.int (lo + (i : Int)))) hgs hgw S1 hD hz (by rw [rangeU_len]; exact hi) (range_drop lo n i hi) (fun _ _ _ _ _ => ⟨rfl, rfl⟩) hp) fun H' hp => pvC_end (by rw [rangeU_len]; exact Nat.le_refl _) hp
  · rw [if_neg hz] at p1; exact p1.elim
variable {elt tg iter a b : Expr} {ifs : List Expr} {scope : Scope} {own : List (Str × Nat)} {pos p1 p2 : Pos} {mi ma mb : ME}
abbrev Blk (X : Cx) (scope : Scope) (P : Cx → Prop) : Prop := ∀ (s : Shared) (H : Hp) (C : Addr) (cl : List (Str × Addr)) (fp : List Addr), P (X.blk s H scope (compEnvC scope cl C X.env) fp)
theorem e_comp (hK : c.K = X.K) (hc : X.calm = true) (hN : X.N.Nodup) (hi : PE X iter (tV pu .E c W mi)) (ok : BlkOk X.N X.env.scope scope own) (hgs : TgS c g td) (hgw : TgW g (own.map (·.2)))
    (hg : Blk X scope fun Y => PG Y tg g) (ht : Blk X scope fun Y => PTs Y ifs (tB2 pu c W0 mt)) (he : Blk X scope fun Y => PE Y elt (tV pu .E c W0 me)) (hs : ∀ x, foldedSetIterable iter X.env x = pure x := by intro _; rfl) :
    PE X (.ListComp elt [⟨tg, iter, ifs, 0⟩] scope pos) (tV pu .E c W (mComp mi td (own.map (·.2)) mt me)) :=
  PE.imp (pe_lc hc hN (pi_seq hi) ok hg ht he hs) fun σ H Q h => comp_seq hK hgs hgw h
theorem s_setComp {i : Nat} {y : Str} {py : Pos} {spos : Pos} (hK : c.K = X.K) (hc : X.calm = true) (hN : X.N.Nodup) (hy : X.N[i]? = some y) (hyl : X.env.scope.names.lookup y = some .local) (hsw : swapsWith (.ListComp elt [⟨tg, iter, ifs, 0⟩] scope pos) (some (.Name y py)) spos.line X.env = pure true)
    (hi : PE X iter (tV pu .E c W mi)) (ok : BlkOk X.N X.env.scope scope own) (hgs : TgS c g td) (hgw : TgW g (own.map (·.2)))
    (hg : Blk X scope fun Y => PG Y tg g) (ht : Blk X scope fun Y => PTs Y ifs (tB2 pu c W0 mt)) (he : Blk X scope fun Y => PE Y elt (tV pu .E c W0 me)) (hs : ∀ x, foldedSetIterable iter X.env x = pure x := by intro _; rfl) :
    PS X (.Assign [.Name y py] (.ListComp elt [⟨tg, iter, ifs, 0⟩] scope pos) spos) (tS c W (sSet i (mComp mi td (own.map (·.2)) mt me))) :=
  PS.imp (ps_setLc hc hN hy hyl hsw (pi_seq hi) ok hg ht he hs) fun D σ H ⟨w, Fs, σd, hd, S, p⟩ => by
    have := stepE (pu := pu) S p fun u h1 w1 H1 x Fx S1 ok pp ru p1 => SPo.store S1 ok ru p1
    exact comp_seq hK hgs hgw this
theorem e_compR2 (hc : X.calm = true) (hN : X.N.Nodup) (hgl : Gl X "range") (hm : X.mg "range" = none) (ha : PE X a (tV pu .C c W ma)) (hb : PE X b (tV pu .C c W mb)) (ok : BlkOk X.N X.env.scope scope own) (hgs : TgS c g td) (hgw : TgW g (own.map (·.2)))
    (hg : Blk X scope fun Y => PG Y tg g) (ht : Blk X scope fun Y => PTs Y ifs (tB2 pu c W0 mt)) (he : Blk X scope fun Y => PE Y elt (tV pu .E c W0 me)) (hs : starEach [a, b] X.env = [(false, eval a X.env), (false, eval b X.env)] := by rfl) (hs2 : starEach [b] X.env = [(false, eval b X.env)] := by rfl) :
    PE X (.ListComp elt [⟨tg, .Call (.Name "range" p1) [a, b] [] p2, ifs, 0⟩] scope pos) (tV pu .E c W (mCompR ma mb td (own.map (·.2)) mt me)) :=
  PE.imp (pe_lc hc hN (pi_range2 hgl hm (pa_cons ha (pa_cons hb pa_nil (by rw [hs2]; rfl)) (by rw [hs, hs2])) hs hs2) ok hg ht he) fun σ H Q ⟨w, Fs, σd, hd, S, p⟩ => step1 (md := .C) S p fun u h1 w1 H1 x Fx S1 mo ru p1 => step1 (md := .C) S1 p1 fun v h2 w2 H2 y Fy S2 mo2 rv p2 => by
    cases q1 : uInt u with
    | none => simp only [q1] at p2; exact p2.elim
    | some i =>
      cases q2 : uInt v with
      | none => simp only [q1, q2] at p2; exact p2.elim
      | some j =>
        simp only [q1, q2] at p2
        by_cases hb : -(2 ^ 62) ≤ i ∧ i < 2 ^ 62 ∧ -(2 ^ 62) ≤ j ∧ j < 2 ^ 62
        · rw [if_pos hb] at p2
          exact ⟨i, j, by rw [uInt_ok q1 ru, uInt_ok q2 rv], hb, fun D hD => comp_rng hgs hgw S2 p2 D hD⟩
        · rw [if_neg hb] at p2; exact p2.elim
theorem compR1 {H : Hp} (hgs : TgS c g td) (hgw : TgW g vs) (h : tV pu .E c W (mCompR (mK (.int 0)) mb td vs mt me) σ H Q) : tLc (iRng1 (tCons (tV pu .C c W mb) tNil)) g (tB2 pu c W0 mt) (tV pu .E c W0 me) vs σ H Q := by
  obtain ⟨w, Fs, σd, hd, S, p⟩ := h
  unfold mCompR mK at p
  simp only [bindM_ok] at p
  refine step1 (md := .C) S p fun v h2 w2 H2 y Fy S2 mo2 rv p2 => ?_
  cases q2 : uInt v with
  | none => simp only [uInt0, q2] at p2; exact p2.elim
  | some j =>
    simp only [uInt0, q2] at p2
    by_cases hb : -(2 ^ 62) ≤ (0 : Int) ∧ (0 : Int) < 2 ^ 62 ∧ -(2 ^ 62) ≤ j ∧ j < 2 ^ 62
    · rw [if_pos hb] at p2
      rw [Int.sub_zero] at p2
      exact ⟨j, by rw [uInt_ok q2 rv], hb.2.2.1, hb.2.2.2, fun D hD => comp_rng hgs hgw S2 p2 D hD⟩
    · rw [if_neg hb] at p2; exact p2.elim
theorem e_compR1 (hc : X.calm = true) (hN : X.N.Nodup) (hgl : Gl X "range") (hm : X.mg "range" = none) (hb : PE X b (tV pu .C c W mb)) (ok : BlkOk X.N X.env.scope scope own) (hgs : TgS c g td) (hgw : TgW g (own.map (·.2)))
    (hg : Blk X scope fun Y => PG Y tg g) (ht : Blk X scope fun Y => PTs Y ifs (tB2 pu c W0 mt)) (he : Blk X scope fun Y => PE Y elt (tV pu .E c W0 me)) (hs2 : starEach [b] X.env = [(false, eval b X.env)] := by rfl) :
    PE X (.ListComp elt [⟨tg, .Call (.Name "range" p1) [b] [] p2, ifs, 0⟩] scope pos) (tV pu .E c W (mCompR (mK (.int 0)) mb td (own.map (·.2)) mt me)) :=
  PE.imp (pe_lc hc hN (pi_range1 hgl hm (pa_cons hb pa_nil (by rw [hs2]; rfl)) hs2) ok hg ht he) fun σ H Q h => compR1 hgs hgw h
theorem s_setCompR1 {i : Nat} {y : Str} {py : Pos} {spos : Pos} (hc : X.calm = true) (hN : X.N.Nodup) (hy : X.N[i]? = some y) (hyl : X.env.scope.names.lookup y = some .local) (hsw : swapsWith (.ListComp elt [⟨tg, .Call (.Name "range" p1) [b] [] p2, ifs, 0⟩] scope pos) (some (.Name y py)) spos.line X.env = pure true)
    (hgl : Gl X "range") (hm : X.mg "range" = none) (hb : PE X b (tV pu .C c W mb)) (ok : BlkOk X.N X.env.scope scope own) (hgs : TgS c g td) (hgw : TgW g (own.map (·.2)))
    (hg : Blk X scope fun Y => PG Y tg g) (ht : Blk X scope fun Y => PTs Y ifs (tB2 pu c W0 mt)) (he : Blk X scope fun Y => PE Y elt (tV pu .E c W0 me)) (hs2 : starEach [b] X.env = [(false, eval b X.env)] := by rfl) :
    PS X (.Assign [.Name y py] (.ListComp elt [⟨tg, .Call (.Name "range" p1) [b] [] p2, ifs, 0⟩] scope pos) spos) (tS c W (sSet i (mCompR (mK (.int 0)) mb td (own.map (·.2)) mt me))) :=
  PS.imp (ps_setLc hc hN hy hyl hsw (pi_range1 hgl hm (pa_cons hb pa_nil (by rw [hs2]; rfl)) hs2) ok hg ht he) fun D σ H ⟨w, Fs, σd, hd, S, p⟩ => by
    have := stepE (pu := pu) S p fun u h1 w1 H1 x Fx S1 ok pp ru p1 => SPo.store S1 ok ru p1
    exact compR1 hgs hgw this
end
end MM

/-! MM12: places: what may be changed where it stands. -/
namespace MM
open PySem PySem.Spec PyProof.Rows L2

inductive Plc where
  | slot (i : Nat) | cell (k : Nat) | item (p : Plc) (j : Nat) | fld (k : Nat) (f : Str)
def celU : Cel → Option UV
  | .lst xs => some (.own xs)
  | .dK kvs => some (.odK kvs)
  | .dT kvs => some (.odT kvs)
  | .obj _ _ => none
  | .tab _ _ => none
def uCel : UV → Cel → Cel
  | .own xs, _ => .lst xs
  | .odK kvs, _ => .dK kvs
  | .odT kvs, _ => .dT kvs
  | _, x => x
def setF (f : Str) (u : UV) : List (Str × UV) → List (Str × UV)
  | [] => []
  | (g, x) :: r => if f = g then (g, u) :: r else (g, x) :: setF f u r
def getF (f : Str) : List (Str × UV) → Option UV
  | [] => none
  | (g, x) :: r => if f = g then some x else getF f r
def getFV (f : Str) : List (Str × V) → Option V
  | [] => none
  | (g, x) :: r => if f = g then some x else getFV f r
theorem getFV_lookup (f : Str) : ∀ l : List (Str × V), getFV f l = l.lookup f
  | [] => rfl
  | (g, x) :: r => by
    by_cases e : f = g
    · have hb : (f == g) = true := beq_iff_eq.mpr e
      simp only [getFV, List.lookup, hb, if_pos e]
    · have hb : (f == g) = false := beq_eq_false_iff_ne.mpr e
      simp only [getFV, List.lookup, hb, if_neg e, getFV_lookup f r]
def getP : Plc → SL → HS → Option UV
  | .slot i, σ, _ => match σ[i]? with
    | some (some u) => some u
    | _ => none
  | .cell k, _, h => match h[k]? with
    | some x => celU x
    | none => none
  | .item p j, σ, h => match getP p σ h with
    | some (.own xs) => xs[j]?
    | _ => none
  | .fld k f, _, h => match h[k]? with
    | some (.obj _ fs) => getF f fs
    | _ => none
def setP : Plc → UV → SL → HS → SL × HS
  | .slot i, u, σ, h => (σ.set i (some u), h)
  | .cell k, u, σ, h => match h[k]? with
    | some x => (σ, h.set k (uCel u x))
    | none => (σ, h)
  | .item p j, u, σ, h => match getP p σ h with
    | some (.own xs) => setP p (.own (xs.set j u)) σ h
    | _ => (σ, h)
  | .fld k f, u, σ, h => match h[k]? with
    | some (.obj C fs) => (σ, h.set k (.obj C (setF f u fs)))
    | _ => (σ, h)
/-- the value that stands at a place -/
def At (ρ : List Addr) (H : Hp) (σd : SL) (hd : HS) (σ : L2.St) : Plc → UV → V → Prop
  | .slot i, u, v => σd[i]? = some (some u) ∧ σ[i]? = some (some v)
  | .cell k, u, v => ∃ x a, hd[k]? = some x ∧ celU x = some u ∧ ρ[k]? = some a ∧ v = .ref a
  | .item p j, u, v => ∃ xs vs a, At ρ H σd hd σ p (.own xs) (.ref a) ∧ H a = some (.lst vs) ∧ xs[j]? = some u ∧ vs[j]? = some v
  | .fld k f, u, v => ∃ C fs a Ca dx gs, hd[k]? = some (.obj C fs) ∧ getF f fs = some u ∧ ρ[k]? = some a ∧ H a = some (.ins Ca dx gs) ∧ getFV f gs = some v
theorem At.get {H : Hp} {σd : SL} {hd : HS} {σ : L2.St} {ρ : List Addr} : ∀ (p : Plc) {u : UV} {v : V}, At ρ H σd hd σ p u v → getP p σd hd = some u
  | .slot i, u, v, h => by simp only [getP, h.1]
  | .cell k, u, v, h => by obtain ⟨x, a', q1, q2, _⟩ := h; simp only [getP, q1, q2]
  | .item p j, u, v, h => by
    obtain ⟨xs, vs, a, q1, q2, q3, q4⟩ := h
    simp only [getP, At.get p q1, q3]
  | .fld k f, u, v, h => by obtain ⟨C, fs, a', Ca, dx, gs, q1, q2, _⟩ := h; simp only [getP, q1, q2]
section
variable {c : Cg} {Z : Addr → Prop} {H : Hp} {ρ : List Addr}
/-- what holds of a part, and how it is exchanged -/
def Foc (c : Cg) (Z : Addr → Prop) (H : Hp) (ρ : List Addr) (u : UV) (v : V) (F : List Addr) (R : Hp → UV → List Addr → Prop) : Prop :=
  ∃ Fu G, F.Perm (Fu ++ G) ∧ RU c Z H ρ u v Fu ∧ ∀ H' u' Fu', (∀ a o, (Z a ∨ a ∈ G) → H a = some o → H' a = some o) → RU c Z H' ρ u' v Fu' → ∃ F', F'.Perm (Fu' ++ G) ∧ R H' u' F'
theorem Foc.left {u : UV} {v : V} {F F2 : List Addr} {R R' : Hp → UV → List Addr → Prop} (h : Foc c Z H ρ u v F R) (k : ∀ H' u' F', (∀ a o, (Z a ∨ a ∈ F2) → H a = some o → H' a = some o) → R H' u' F' → R' H' u' (F' ++ F2)) : Foc c Z H ρ u v (F ++ F2) R' := by
  obtain ⟨Fu, G, p, r, q⟩ := h
  refine ⟨Fu, G ++ F2, ?_, r, fun H' u' Fu' hk hr => ?_⟩
  · have := List.Perm.append_right F2 p
    rwa [List.append_assoc] at this
  · obtain ⟨F', p', r'⟩ := q H' u' Fu' (fun a o z => hk a o (z.elim .inl fun z => .inr (List.mem_append_left _ z))) hr
    refine ⟨F' ++ F2, ?_, k H' u' F' (fun a o z => hk a o (z.elim .inl fun z => .inr (List.mem_append_right _ z))) r'⟩
    have := List.Perm.append_right F2 p'
    rwa [List.append_assoc] at this
theorem Foc.right {u : UV} {v : V} {F F1 : List Addr} {R R' : Hp → UV → List Addr → Prop} (h : Foc c Z H ρ u v F R) (k : ∀ H' u' F', (∀ a o, (Z a ∨ a ∈ F1) → H a = some o → H' a = some o) → R H' u' F' → R' H' u' (F1 ++ F')) : Foc c Z H ρ u v (F1 ++ F) R' := by
  obtain ⟨Fu, G, p, r, q⟩ := h
  have key : ∀ {A B : List Addr}, A.Perm (B ++ G) → (F1 ++ A).Perm (B ++ (F1 ++ G)) := fun {A B} z => by
    have z1 := List.Perm.append_left F1 z
    refine z1.trans ?_
    rw [← List.append_assoc, ← List.append_assoc]
    exact List.Perm.append_right G List.perm_append_comm
  refine ⟨Fu, F1 ++ G, key p, r, fun H' u' Fu' hk hr => ?_⟩
  obtain ⟨F', p', r'⟩ := q H' u' Fu' (fun a o z => hk a o (z.elim .inl fun z => .inr (List.mem_append_right _ z))) hr
  exact ⟨F1 ++ F', key p', k H' u' F' (fun a o z => hk a o (z.elim .inl fun z => .inr (List.mem_append_left _ z))) r'⟩
theorem Foc.self {u : UV} {v : V} {F : List Addr} {R : Hp → UV → List Addr → Prop} (h : RU c Z H ρ u v F) (k : ∀ H' u' F', RU c Z H' ρ u' v F' → R H' u' F') : Foc c Z H ρ u v F R :=
  ⟨F, [], by rw [List.append_nil], h, fun H' u' Fu' _ hr => ⟨Fu', by rw [List.append_nil], k H' u' Fu' hr⟩⟩
theorem Foc.weak {u : UV} {v : V} {F : List Addr} {R R' : Hp → UV → List Addr → Prop} (h : Foc c Z H ρ u v F R) (k : ∀ H' u' F', R H' u' F' → R' H' u' F') : Foc c Z H ρ u v F R' := by
  obtain ⟨Fu, G, p, r, q⟩ := h
  exact ⟨Fu, G, p, r, fun H' u' Fu' hk hr => let ⟨F', p', r'⟩ := q H' u' Fu' hk hr; ⟨F', p', k _ _ _ r'⟩⟩
theorem RS.focus : ∀ {s : SL} {l : L2.St} {F : List Addr} {i : Nat} {u : UV} {v : V}, RS c Z H ρ s l F → s[i]? = some (some u) → l[i]? = some (some v) → Foc c Z H ρ u v F fun H' u' F' => RS c Z H' ρ (s.set i (some u')) l F'
  | [], _, _, _, _, _, _, h, _ => by simp at h
  | none :: s, _, _, 0, _, _, _, q, _ => by simp at q
  | none :: s, _, F, i + 1, u, v, ⟨o, r, e, t⟩, q, q2 => by
    subst e
    exact Foc.weak (RS.focus (i := i) t (by simpa using q) (by simpa using q2)) fun H' u' F' h => ⟨o, r, rfl, h⟩
  | some x :: s, _, _, 0, u, v, ⟨v', r, F1, F2, e, eF, h, t⟩, q, q2 => by
    have q' : x = u := by simpa using q
    subst q' e eF
    have q3 : v' = v := by simpa using q2
    subst q3
    exact Foc.left (Foc.self (R := fun H' u' F' => RU c Z H' ρ u' v' F') h fun _ _ _ z => z) fun H' u' F' hk z => ⟨v', r, F', F2, rfl, rfl, z, RS.mono (fun _ _ e => e) (fun _ z => z) (fun a o z => hk a o (.inl z)) (fun a ha o => hk a o (.inr ha)) t⟩
  | some x :: s, _, _, i + 1, u, v, ⟨v', r, F1, F2, e, eF, h, t⟩, q, q2 => by
    subst e eF
    exact Foc.right (RS.focus (i := i) t (by simpa using q) (by simpa using q2)) fun H' u' F' hk z => ⟨v', r, F1, F', rfl, rfl, RU.mono (fun _ _ e => e) (fun _ z => z) (fun a o z => hk a o (.inl z)) (fun a ha o => hk a o (.inr ha)) h, z⟩
theorem RUl.focus : ∀ {s : List UV} {l : List V} {F : List Addr} {i : Nat} {u : UV} {v : V}, RUl c Z H ρ s l F → s[i]? = some u → l[i]? = some v → Foc c Z H ρ u v F fun H' u' F' => RUl c Z H' ρ (s.set i u') l F'
  | [], _, _, _, _, _, _, h, _ => by simp at h
  | x :: s, _, _, 0, u, v, ⟨v', r, F1, F2, e, eF, h, t⟩, q, q2 => by
    have q' : x = u := by simpa using q
    subst q' e eF
    have q3 : v' = v := by simpa using q2
    subst q3
    exact Foc.left (Foc.self (R := fun H' u' F' => RU c Z H' ρ u' v' F') h fun _ _ _ z => z) fun H' u' F' hk z => ⟨v', r, F', F2, rfl, rfl, z, RUl.mono (fun _ _ e => e) (fun _ z => z) (fun a o z => hk a o (.inl z)) (fun a ha o => hk a o (.inr ha)) t⟩
  | x :: s, _, _, i + 1, u, v, ⟨v', r, F1, F2, e, eF, h, t⟩, q, q2 => by
    subst e eF
    exact Foc.right (RUl.focus (i := i) t (by simpa using q) (by simpa using q2)) fun H' u' F' hk z => ⟨v', r, F1, F', rfl, rfl, RU.mono (fun _ _ e => e) (fun _ z => z) (fun a o z => hk a o (.inl z)) (fun a ha o => hk a o (.inr ha)) h, z⟩
theorem RUf.focus : ∀ {s : List (Str × UV)} {l : List (Str × V)} {F : List Addr} {f : Str} {u : UV} {v : V}, RUf c Z H ρ s l F → getF f s = some u → getFV f l = some v → Foc c Z H ρ u v F fun H' u' F' => RUf c Z H' ρ (setF f u' s) l F'
  | [], _, _, _, _, _, _, h, _ => by simp [getF] at h
  | (g, x) :: s, _, _, f, u, v, ⟨v', r, F1, F2, e, eF, h, t⟩, q, q2 => by
    subst e eF
    by_cases hg : f = g
    · simp only [getF, getFV, if_pos hg, Option.some.injEq] at q q2
      subst q q2
      exact Foc.left (Foc.self (R := fun H' u' F' => RU c Z H' ρ u' v' F') h fun _ _ _ z => z) fun H' u' F' hk z => by
        simp only [setF, if_pos hg]
        exact ⟨v', r, F', F2, rfl, rfl, z, RUf.mono (fun _ _ e => e) (fun _ z => z) (fun a o z => hk a o (.inl z)) (fun a ha o => hk a o (.inr ha)) t⟩
    · simp only [getF, getFV, if_neg hg] at q q2
      exact Foc.right (RUf.focus t q q2) fun H' u' F' hk z => by
        simp only [setF, if_neg hg]
        exact ⟨v', r, F1, F', rfl, rfl, RU.mono (fun _ _ e => e) (fun _ z => z) (fun a o z => hk a o (.inl z)) (fun a ha o => hk a o (.inr ha)) h, z⟩
theorem celU_RC {x : Cel} {a : Addr} {u : UV} {F : List Addr} (e : celU x = some u) (r : RC c Z H ρ x a F) : RU c Z H ρ u (.ref a) F := by
  cases x with
  | lst xs =>
    cases e
    obtain ⟨vs, G, h1, h2, h3⟩ := r
    exact ⟨a, vs, G, rfl, h1, h2, h3⟩
  | dK xs =>
    cases e
    obtain ⟨vs, G, h1, h2, h3⟩ := r
    exact ⟨a, vs, G, rfl, h1, h2, h3⟩
  | dT xs =>
    cases e
    obtain ⟨vs, G, h1, h2, h3⟩ := r
    exact ⟨a, vs, G, rfl, h1, h2, h3⟩
  | obj C fs => cases e
  | tab P q => cases e
/-- of one kind: a list, a dict -/
def kin : UV → Bool
  | .own _ => true
  | .odK _ => true
  | .odT _ => true
  | _ => false
theorem uCel_RC {x : Cel} {a : Addr} {u : UV} {F : List Addr} (k : kin u = true) (r : RU c Z H ρ u (.ref a) F) : RC c Z H ρ (uCel u x) a F := by
  cases u with
  | own xs =>
    obtain ⟨b, vs, G, h0, h1, h2, h3⟩ := r
    cases h0
    exact ⟨vs, G, h1, h2, h3⟩
  | odK xs =>
    obtain ⟨b, vs, G, h0, h1, h2, h3⟩ := r
    cases h0
    exact ⟨vs, G, h1, h2, h3⟩
  | odT xs =>
    obtain ⟨b, vs, G, h0, h1, h2, h3⟩ := r
    cases h0
    exact ⟨vs, G, h1, h2, h3⟩
  | _ => cases k
theorem RHl.focus : ∀ {s : HS} {l : List Addr} {F : List Addr} {k : Nat} {x : Cel} {a : Addr}, RHl c Z H ρ s l F → s[k]? = some x → l[k]? = some a → ∃ Fx F1 F2, F = F1 ++ Fx ++ F2 ∧ RC c Z H ρ x a Fx ∧
    ∀ H' x' Fx', (∀ a o, (Z a ∨ a ∈ F1 ++ F2) → H a = some o → H' a = some o) → RC c Z H' ρ x' a Fx' → RHl c Z H' ρ (s.set k x') l (F1 ++ Fx' ++ F2)
  | [], _, _, _, _, _, _, h, _ => by simp at h
  | y :: s, _, _, 0, x, a, ⟨v', r, F1, F2, e, eF, h, t⟩, q, q2 => by
    have q' : y = x := by simpa using q
    subst q' e eF
    have q3 : v' = a := by simpa using q2
    subst q3
    exact ⟨F1, [], F2, rfl, h, fun H' x' Fx' hk z => ⟨v', r, Fx', F2, rfl, rfl, z, RHl.mono (fun _ _ e => e) (fun _ z => z) (fun a o z => hk a o (.inl z)) (fun a ha o => hk a o (.inr (by simpa using ha))) t⟩⟩
  | y :: s, _, _, k + 1, x, a, ⟨v', r, F1, F2, e, eF, h, t⟩, q, q2 => by
    subst e eF
    obtain ⟨Fx, G1, G2, e1, rc, kk⟩ := RHl.focus (k := k) t (by simpa using q) (by simpa using q2)
    subst e1
    refine ⟨Fx, F1 ++ G1, G2, by simp [List.append_assoc], rc, fun H' x' Fx' hk z => ⟨v', r, F1, G1 ++ Fx' ++ G2, rfl, by simp [List.append_assoc], ?_, ?_⟩⟩
    · exact RC.mono (fun _ _ e => e) (fun _ z => z) (fun a o z => hk a o (.inl z)) (fun a ha o => hk a o (.inr (by simp [ha]))) h
    · exact kk H' x' Fx' (fun a o z => hk a o (z.elim .inl fun z => .inr (by
        rcases List.mem_append.mp z with z | z
        · simp [z]
        · simp [z]))) z
theorem perm3 {F1 Fx F2 G : List Addr} {A : List Addr} : ∀ {B : List Addr}, (A ++ (F1 ++ B ++ F2)).Perm (B ++ (A ++ F1 ++ F2)) := fun {B} => by
  have h1 : (A ++ (F1 ++ B ++ F2)) = (A ++ F1) ++ (B ++ F2) := by simp [List.append_assoc]
  have h2 : (B ++ (A ++ F1 ++ F2)) = (B ++ (A ++ F1)) ++ F2 := by simp [List.append_assoc]
  rw [h1, h2, ← List.append_assoc]
  exact List.Perm.append_right F2 List.perm_append_comm
/-- THE LENS: at a place the thing may be exchanged -/
theorem lens {σd : SL} {hd : HS} {σ : L2.St} {Fs F : List Addr} (rs : RS c Z H ρ σd σ Fs) (rh : RHl c Z H ρ hd ρ F) : ∀ (p : Plc) (u : UV) (v : V), At ρ H σd hd σ p u v →
    ∃ Fu G, (Fs ++ F).Perm (Fu ++ G) ∧ RU c Z H ρ u v Fu ∧ ∀ H' u' Fu', (kin u = true → kin u' = true) → (∀ a o, (Z a ∨ a ∈ G) → H a = some o → H' a = some o) → RU c Z H' ρ u' v Fu' →
      ∃ Fs' F', (Fs' ++ F').Perm (Fu' ++ G) ∧ RS c Z H' ρ (setP p u' σd hd).1 σ Fs' ∧ RHl c Z H' ρ (setP p u' σd hd).2 ρ F'
  | .slot i, u, v, ⟨h1, h2⟩ => by
    obtain ⟨Fu, G, p, r, q⟩ := RS.focus rs h1 h2
    refine ⟨Fu, G ++ F, ?_, r, fun H' u' Fu' _ hk hr => ?_⟩
    · have := List.Perm.append_right F p
      rwa [List.append_assoc] at this
    · obtain ⟨F', p', r'⟩ := q H' u' Fu' (fun a o z => hk a o (z.elim .inl fun z => .inr (List.mem_append_left _ z))) hr
      refine ⟨F', F, ?_, r', RHl.mono (fun _ _ e => e) (fun _ z => z) (fun a o z => hk a o (.inl z)) (fun a ha o => hk a o (.inr (List.mem_append_right _ ha))) rh⟩
      have := List.Perm.append_right F p'
      rwa [List.append_assoc] at this
  | .cell k, u, v, ⟨x, a, h1, h2, h3, h4⟩ => by
    obtain ⟨Fx, F1, F2, e1, rc, kk⟩ := RHl.focus rh h1 h3
    subst e1 h4
    refine ⟨Fx, Fs ++ F1 ++ F2, perm3 (Fx := []) (G := []), celU_RC h2 rc, fun H' u' Fu' hkin hk hr => ?_⟩
    refine ⟨Fs, F1 ++ Fu' ++ F2, perm3 (Fx := []) (G := []), ?_, ?_⟩
    · simp only [setP, h1]
      exact RS.mono (fun _ _ e => e) (fun _ z => z) (fun a o z => hk a o (.inl z)) (fun a ha o => hk a o (.inr (by simp [ha]))) rs
    · simp only [setP, h1]
      have ku : kin u = true := by
        cases x <;> simp only [celU, Option.some.injEq] at h2
        · rw [← h2]; rfl
        · cases h2
        · rw [← h2]; rfl
        · rw [← h2]; rfl
        · cases h2
      exact kk H' _ Fu' (fun a o z => hk a o (z.elim .inl fun z => .inr (by
        rcases List.mem_append.mp z with z | z
        · simp [z]
        · simp [z]))) (uCel_RC (hkin ku) hr)
  | .item p j, u, v, ⟨xs, vs, a, h1, h2, h3, h4⟩ => by
    obtain ⟨Fp, Gp, pp, rp, kp⟩ := lens rs rh p (.own xs) (.ref a) h1
    obtain ⟨b, ws, Gx, e0, e1, e2, t⟩ := rp
    cases e0
    rw [h2] at e1
    cases e1
    subst e2
    obtain ⟨Fu, G', p', r', k'⟩ := RUl.focus t h3 h4
    have perm1 : ∀ {A B : List Addr}, A.Perm (B ++ G') → ((a :: A) ++ Gp).Perm (B ++ (a :: (G' ++ Gp))) := fun {A B} z => by
      have z1 : ((a :: A) ++ Gp).Perm ((a :: (B ++ G')) ++ Gp) := List.Perm.append_right Gp (List.Perm.cons a z)
      refine z1.trans ?_
      have z2 : (a :: (B ++ G')) ++ Gp = a :: (B ++ (G' ++ Gp)) := by simp [List.append_assoc]
      rw [z2]
      exact List.perm_middle.symm
    refine ⟨Fu, a :: (G' ++ Gp), pp.trans (perm1 p'), r', fun H' u' Fu' _ hk hr => ?_⟩
    obtain ⟨Gx', p2, r2⟩ := k' H' u' Fu' (fun b o z => hk b o (z.elim .inl fun z => .inr (List.mem_cons_of_mem _ (List.mem_append_left _ z)))) hr
    obtain ⟨Fs', F', p3, r3, r4⟩ := kp H' (.own (xs.set j u')) (a :: Gx') (fun _ => rfl) (fun b o z => hk b o (z.elim .inl fun z => .inr (List.mem_cons_of_mem _ (List.mem_append_right _ z)))) ⟨a, vs, Gx', rfl, hk a _ (.inr List.mem_cons_self) h2, rfl, r2⟩
    have gp : getP p σd hd = some (.own xs) := At.get p h1
    refine ⟨Fs', F', p3.trans (perm1 p2), ?_, ?_⟩
    · simp only [setP, gp]; exact r3
    · simp only [setP, gp]; exact r4
  | .fld k f, u, v, ⟨C, fs, a, Ca, dx, gs, h1, h2, h3, h4, h5⟩ => by
    obtain ⟨Fx, F1, F2, e1, rc, kk⟩ := RHl.focus rh h1 h3
    subst e1
    obtain ⟨Ca', dx', gs', Gf, m, q1, q2, t⟩ := rc
    rw [h4] at q1
    cases q1
    subst q2
    obtain ⟨Fu, G', p', r', k'⟩ := RUf.focus t h2 h5
    have perm2 : ∀ {A B : List Addr}, A.Perm (B ++ G') → (Fs ++ (F1 ++ (a :: A) ++ F2)).Perm (B ++ (a :: (G' ++ (Fs ++ F1 ++ F2)))) := fun {A B} z => by
      refine (perm3 (Fx := []) (G := [])).trans ?_
      have z1 : ((a :: A) ++ (Fs ++ F1 ++ F2)).Perm ((a :: (B ++ G')) ++ (Fs ++ F1 ++ F2)) := List.Perm.append_right _ (List.Perm.cons a z)
      refine z1.trans ?_
      have z2 : (a :: (B ++ G')) ++ (Fs ++ F1 ++ F2) = a :: (B ++ (G' ++ (Fs ++ F1 ++ F2))) := by simp [List.append_assoc]
      rw [z2]
      exact List.perm_middle.symm
    refine ⟨Fu, a :: (G' ++ (Fs ++ F1 ++ F2)), perm2 p', r', fun H' u' Fu' _ hk hr => ?_⟩
    have inG : ∀ {b : Addr}, b ∈ Fs ++ F1 ++ F2 → b ∈ a :: (G' ++ (Fs ++ F1 ++ F2)) := fun z => List.mem_cons_of_mem _ (List.mem_append_right _ z)
    obtain ⟨Gf', p2, r2⟩ := k' H' u' Fu' (fun b o z => hk b o (z.elim .inl fun z => .inr (List.mem_cons_of_mem _ (List.mem_append_left _ z)))) hr
    refine ⟨Fs, F1 ++ (a :: Gf') ++ F2, perm2 p2, ?_, ?_⟩
    · simp only [setP, h1]
      exact RS.mono (fun _ _ e => e) (fun _ z => z) (fun a o z => hk a o (.inl z)) (fun b hb o => hk b o (.inr (inG (by simp [hb])))) rs
    · simp only [setP, h1]
      exact kk H' (.obj C (setF f u' fs)) (a :: Gf') (fun b o z => hk b o (z.elim .inl fun z => .inr (inG (by
        rcases List.mem_append.mp z with z | z
        · simp [z]
        · simp [z])))) ⟨Ca, dx, gs, Gf', m, hk a _ (.inr List.mem_cons_self) h4, rfl, r2⟩
end
end MM

/-! MM13: what is changed where it stands. -/
namespace MM
open PySem PySem.Spec PyProof.Rows L2

/-! ### the core: the thing at a place is exchanged, its heap cell rewritten -/
section
variable {c : Cg} {w : Wd} {H : Hp} {Fs : List Addr} {σd : SL} {hd : HS} {σ : L2.St}
theorem put_at (S : Sta c w Fs σd hd σ H) {Fx : List Addr} (ok : WOk (fullv w Fs Fx) H) {p : Plc} {u u' : UV} {a : Addr} {o' : HO} (hA : At w.ρ H σd hd σ p u (.ref a)) (hkin : kin u = true → kin u' = true)
    (dec : ∀ Fu, RU c w.Z H w.ρ u (.ref a) Fu → ∃ Gx G' G0, Fu = a :: Gx ∧ (G' ++ G0).Perm (Gx ++ Fx) ∧ ((∀ b ∈ G', b ≠ a) → (∀ b, w.Z b → b ≠ a) → RU c w.Z (upd H a o') w.ρ u' (.ref a) (a :: G') ∧ ((∀ b ∈ G0, b ≠ a) → True))) :
    ∃ Fs' F' G0 Gx, RU c w.Z H w.ρ u (.ref a) (a :: Gx) ∧ Ext (fullv w Fs Fx) H (fullv ⟨w.ρ, w.Z, F'⟩ Fs' G0) (upd H a o') ∧ WOk (fullv ⟨w.ρ, w.Z, F'⟩ Fs' G0) (upd H a o') ∧ Sta c ⟨w.ρ, w.Z, F'⟩ Fs' (setP p u' σd hd).1 (setP p u' σd hd).2 σ (upd H a o') ∧
      ∃ G', (G' ++ G0).Perm (Gx ++ Fx) ∧ (a :: (Gx ++ Fx)).Nodup := by
  obtain ⟨Fu, Gr, pr, ru, k⟩ := lens S.s S.h p u (.ref a) hA
  obtain ⟨Gx, G', G0, e1, pg, hr⟩ := dec Fu ru
  subst e1
  have pAll : (Fs ++ (w.F ++ Fx)).Perm (a :: ((Gx ++ Fx) ++ Gr)) := by
    rw [← List.append_assoc]
    refine (List.Perm.append_right Fx pr).trans ?_
    show (a :: ((Gx ++ Gr) ++ Fx)).Perm _
    refine List.Perm.cons a ?_
    rw [List.append_assoc, List.append_assoc]
    exact List.Perm.append_left Gx List.perm_append_comm
  have nd : (a :: ((Gx ++ Fx) ++ Gr)).Nodup := pAll.nodup_iff.mp ok.nd
  have nd1 := List.nodup_cons.mp nd
  have inAll : ∀ {b}, b ∈ (Gx ++ Fx) ++ Gr → b ≠ a := fun hb e => nd1.1 (e ▸ hb)
  have hG' : ∀ b ∈ G' ++ G0, b ∈ Gx ++ Fx := fun b hb => pg.mem_iff.mp hb
  have haF : a ∈ Fs ++ (w.F ++ Fx) := pAll.mem_iff.mpr List.mem_cons_self
  have hZ : ∀ b, w.Z b → b ≠ a := fun b z e => ok.sep a haF (e ▸ z)
  obtain ⟨ru', _⟩ := hr (fun b hb => inAll (List.mem_append_left _ (hG' b (List.mem_append_left _ hb)))) hZ
  obtain ⟨Fs', F', p', rs', rh'⟩ := k (upd H a o') u' (a :: G') hkin (fun b o hb ho => by
    rw [upd_ne]
    · exact ho
    · rcases hb with hb | hb
      · exact hZ b hb
      · exact inAll (List.mem_append_right _ hb)) ru'
  have pAll' : (Fs' ++ (F' ++ G0)).Perm (a :: ((Gx ++ Fx) ++ Gr)) := by
    rw [← List.append_assoc]
    refine (List.Perm.append_right G0 p').trans ?_
    show (a :: ((G' ++ Gr) ++ G0)).Perm _
    refine List.Perm.cons a ?_
    rw [List.append_assoc]
    refine (List.Perm.append_left G' List.perm_append_comm).trans ?_
    rw [← List.append_assoc]
    exact List.Perm.append_right Gr pg
  have pp : (Fs' ++ (F' ++ G0)).Perm (Fs ++ (w.F ++ Fx)) := pAll'.trans pAll.symm
  have okH : WOk (fullv w Fs Fx) (upd H a o') := ⟨ok.nd, ok.sep, fun b hb => upd_there b (ok.trF b hb), fun b hb => upd_there b (ok.trZ b hb)⟩
  have ok' : WOk (fullv ⟨w.ρ, w.Z, F'⟩ Fs' G0) (upd H a o') := okH.perm pp
  refine ⟨Fs', F', G0, Gx, ru, ⟨fun _ _ e => e, fun _ z => z, fun b o ho nb => ?_, fun b hb => ?_, fun b hb => upd_there b hb⟩, ok', ⟨rs', rh', ok'.less (List.Sublist.append_left (List.sublist_append_left _ _) Fs')⟩, G', pg, nd.sublist ((List.sublist_append_left _ _).cons₂ a)⟩
  · rw [upd_ne]
    · exact ho
    · exact fun e => nb (e ▸ haF)
  · rcases hb with hb | hb
    · exact .inl hb
    · exact .inr (.inl (pp.mem_iff.mp hb))
/-- a list at a place gets other things -/
theorem put_lst (S : Sta c w Fs σd hd σ H) {Fx : List Addr} (ok : WOk (fullv w Fs Fx) H) {p : Plc} {xs xs' : List UV} {vs vs' : List V} {a : Addr} (hA : At w.ρ H σd hd σ p (.own xs) (.ref a)) (hv : H a = some (.lst vs))
    (new : ∀ G, RUl c w.Z H w.ρ xs vs G → ∃ G' G0, (G' ++ G0).Perm (G ++ Fx) ∧ RUl c w.Z H w.ρ xs' vs' G') :
    ∃ Fs' F' G0, Ext (fullv w Fs Fx) H (fullv ⟨w.ρ, w.Z, F'⟩ Fs' G0) (upd H a (.lst vs')) ∧ WOk (fullv ⟨w.ρ, w.Z, F'⟩ Fs' G0) (upd H a (.lst vs')) ∧ Sta c ⟨w.ρ, w.Z, F'⟩ Fs' (setP p (.own xs') σd hd).1 (setP p (.own xs') σd hd).2 σ (upd H a (.lst vs')) := by
  obtain ⟨Fs', F', G0, _, _, h1, h2, h3, _⟩ := put_at S ok (u' := .own xs') (o' := .lst vs') hA (fun _ => rfl) fun Fu ru => by
    obtain ⟨b, ws, Gx, e0, e1, e2, t⟩ := ru
    cases e0
    rw [hv] at e1
    cases e1
    obtain ⟨G', G0, pg, t'⟩ := new Gx t
    refine ⟨Gx, G', G0, e2, pg, fun hn hz => ⟨⟨a, vs', G', rfl, upd_same, rfl, RUl.mono (fun _ _ e => e) (fun _ z => z) (fun b o z ho => ?_) (fun b hb o ho => ?_) t'⟩, fun _ => trivial⟩⟩
    · rw [upd_ne (hz b z)]; exact ho
    · rw [upd_ne (hn b hb)]; exact ho
  exact ⟨Fs', F', G0, h1, h2, h3⟩
theorem put_lst1 {W : WX} {D : Ends} (S : Sta c w Fs σd hd σ H) {Fx : List Addr} (ok : WOk (fullv w Fs Fx) H) {p : Plc} {xs xs' : List UV} {vs vs' : List V} {a : Addr} (hA : At w.ρ H σd hd σ p (.own xs) (.ref a)) (hv : H a = some (.lst vs))
    (new : ∀ G, RUl c w.Z H w.ρ xs vs G → ∃ G' G0, (G' ++ G0).Perm (G ++ Fx) ∧ RUl c w.Z H w.ρ xs' vs' G')
    (q : SPo c W (fullv w Fs Fx) H D (.nx (setP p (.own xs') σd hd).1 (setP p (.own xs') σd hd).2)) : D.nx σ (upd H a (.lst vs')) := by
  obtain ⟨Fs', F', G0, h1, h2, h3⟩ := put_lst S ok hA hv new
  exact q ⟨w.ρ, w.Z, F'⟩ Fs' σ _ (Ext.less h1 fun x hx => by
    rcases List.mem_append.mp hx with z | z
    · exact List.mem_append_left _ z
    · exact List.mem_append_right _ (List.mem_append_left _ z)) h3
end

/-! ### which places stand through another expression -/
def rootS : Plc → Bool
  | .slot _ => true
  | .item p _ => rootS p
  | _ => false
def firm : Plc → Bool
  | .slot _ => true
  | .cell _ => true
  | .item p _ => rootS p
  | .fld _ _ => false
/-- an expression that leaves the store as it was -/
def Stil (m : ME) : Prop := ∀ σ h u h', m σ h = .ok u h' → h' = h
section
variable {c : Cg} {w w1 : Wd} {H H1 : Hp} {Fs : List Addr} {σd : SL} {hd h1 : HS} {σ : L2.St}
theorem At.mono {ρ ρ' : List Addr} (hr : ∀ (i : Nat) a, ρ[i]? = some a → ρ'[i]? = some a) (hk : ∀ a o, H a = some o → H1 a = some o) : ∀ {p : Plc} {u : UV} {v : V}, At ρ H σd hd σ p u v → At ρ' H1 σd hd σ p u v
  | .slot i, _, _, h => h
  | .cell k, _, _, ⟨x, a, q1, q2, q3, q4⟩ => ⟨x, a, q1, q2, hr _ _ q3, q4⟩
  | .item p j, _, _, ⟨xs, vs, a, q1, q2, q3, q4⟩ => ⟨xs, vs, a, At.mono hr hk q1, hk _ _ q2, q3, q4⟩
  | .fld k f, _, _, ⟨C, fs, a, Ca, dx, gs, q1, q2, q3, q4, q5⟩ => ⟨C, fs, a, Ca, dx, gs, q1, q2, hr _ _ q3, hk _ _ q4, q5⟩
theorem At.root (rs : RS c w.Z H w.ρ σd σ Fs) : ∀ {p : Plc} {u : UV} {v : V}, rootS p = true → At w.ρ H σd hd σ p u v → ∃ Fu, RU c w.Z H w.ρ u v Fu ∧ ∀ b ∈ Fu, b ∈ Fs
  | .slot i, u, v, _, h => by
    obtain ⟨v', G, e, r, s⟩ := rs.get h.1
    rw [h.2] at e
    cases e
    exact ⟨G, r, s⟩
  | .item p j, u, v, hp, ⟨xs, vs, a, q1, q2, q3, q4⟩ => by
    obtain ⟨Fu, ⟨b, ws, G, e0, e1, e2, t⟩, s⟩ := At.root rs (p := p) hp q1
    cases e0
    rw [q2] at e1
    cases e1
    obtain ⟨v', G', e, r, s'⟩ := t.get q3
    rw [q4] at e
    cases e
    exact ⟨G', r, fun b hb => s b (by rw [e2]; exact List.mem_cons_of_mem _ (s' b hb))⟩
theorem At.rootKeep (rs : RS c w.Z H w.ρ σd σ Fs) (hk : ∀ b ∈ Fs, ∀ o, H b = some o → H1 b = some o) : ∀ {p : Plc} {u : UV} {v : V}, rootS p = true → At w.ρ H σd hd σ p u v → At w1.ρ H1 σd h1 σ p u v
  | .slot i, _, _, _, h => h
  | .item p j, u, v, hp, ⟨xs, vs, a, q1, q2, q3, q4⟩ => by
    obtain ⟨Fu, ⟨b, ws, G, e0, e1, e2, t⟩, s⟩ := At.root rs (p := p) hp q1
    cases e0
    exact ⟨xs, vs, a, At.rootKeep rs hk hp q1, hk a (s a (by rw [e2]; exact List.mem_cons_self)) _ q2, q3, q4⟩
/-- a firm place stands -/
theorem At.firm (S : Sta c w Fs σd hd σ H) (e : Ext w H w1 H1) {p : Plc} {u u1 : UV} {v : V} (hf : firm p = true) (h : At w.ρ H σd hd σ p u v) (g : getP p σd h1 = some u1) : At w1.ρ H1 σd h1 σ p u1 v := by
  have keep := aside_kept S.ok e
  cases p with
  | slot i =>
    have := At.get (H := H) (ρ := w.ρ) (.slot i) (hd := h1) h
    rw [this] at g
    cases g
    exact h
  | cell k =>
    obtain ⟨x, a, q1, q2, q3, q4⟩ := h
    simp only [getP] at g
    split at g
    · rename_i x' hx'
      exact ⟨x', a, hx', g, e.rho _ _ q3, q4⟩
    · cases g
  | item p j =>
    have h2 : At w1.ρ H1 σd h1 σ (.item p j) u v := At.rootKeep (p := .item p j) S.s keep hf h
    have := At.get _ h2
    rw [this] at g
    cases g
    exact h2
  | fld k f => cases hf
/-- what is read at a place has its own addresses within -/
theorem At.RU (S : Sta c w Fs σd hd σ H) {p : Plc} {u : UV} {v : V} (h : At w.ρ H σd hd σ p u v) : ∃ Fu, RU c w.Z H w.ρ u v Fu ∧ ∀ b ∈ Fu, b ∈ Fs ++ w.F := by
  obtain ⟨Fu, G, pr, ru, _⟩ := lens S.s S.h p u v h
  exact ⟨Fu, ru, fun b hb => pr.mem_iff.mpr (List.mem_append_left _ hb)⟩
end

/-! ### places told by expressions -/
abbrev MP := SL → HS → Option Plc
def tP (c : Cg) (mp : MP) : TE := fun σ H Q => ∃ w Fs σd hd, Sta c w Fs σd hd σ H ∧ ∃ p u, mp σd hd = some p ∧ getP p σd hd = some u ∧ kin u = true ∧
  ∀ w' H' v, Ext w H w' H' → Sta c w' Fs σd hd σ H' → Pu true H H' → At w'.ρ H' σd hd σ p u v → Q v H'
def plU (p : Plc) : UV → Option Plc
  | .ref k => some (.cell k)
  | .own _ => some p
  | .odK _ => some p
  | .odT _ => some p
  | _ => none
def pVar (i : Nat) : MP := fun σ _ => match σ[i]? with
  | some (some u) => plU (.slot i) u
  | _ => none
section
variable {X : Cx} {c : Cg} {W : WX} {m ma mb : ME} {σ : L2.St} {H : Hp} {a b e : Expr} {pos : Pos} {pu : Bool}
theorem RH.cell {w : Wd} {hd : HS} (rh : RH c w.Z H w.ρ hd w.F) {k : Nat} {x : Cel} {a : Addr} {u : UV} (hx : hd[k]? = some x) (hr : w.ρ[k]? = some a) (hu : celU x = some u) (σd : SL) (σ : L2.St) : At w.ρ H σd hd σ (.cell k) u (.ref a) := ⟨x, a, hx, hu, hr, rfl⟩
/-- what a value names as a place -/
theorem plU_at {w : Wd} {Fs : List Addr} {σd : SL} {hd : HS} (S : Sta c w Fs σd hd σ H) {p p' : Plc} {u u' : UV} {v : V} (h : At w.ρ H σd hd σ p u v) (e : plU p u = some p') (g : getP p' σd hd = some u') : At w.ρ H σd hd σ p' u' v := by
  unfold plU at e
  split at e
  · rename_i k
    cases e
    obtain ⟨Fu, ru, _⟩ := At.RU S h
    obtain ⟨_, a, hr, rfl⟩ := ru
    simp only [getP] at g
    split at g
    · rename_i x hx
      exact ⟨x, a, hx, g, hr, rfl⟩
    · cases g
  · cases e
    have := At.get _ h
    rw [this] at g
    cases g
    exact h
  · cases e
    have := At.get _ h
    rw [this] at g
    cases g
    exact h
  · cases e
    have := At.get _ h
    rw [this] at g
    cases g
    exact h
  · cases e
theorem p_var (i : Nat) {x : Str} (h : PE X (.Name x pos) (tVar i)) : PE X (.Name x pos) (tP c (pVar i)) := PE.imp h fun σ H Q ⟨w, Fs, σd, hd, S, p, u, e, g, hk, q⟩ => by
  unfold pVar at e
  split at e
  · rename_i u0 hu
    obtain ⟨v, G, e1, r, s⟩ := S.s.get hu
    exact ⟨v, e1, q w H v Ext.refl S .refl (plU_at S (p := .slot i) (u := u0) ⟨hu, e1⟩ e g)⟩
  · cases e
/-- o[i], a place -/
def pItem (mp : MP) (m : ME) : MP := fun σ h => match mp σ h, m σ h with
  | some p, .ok v _ => match getP p σ h, uInt v with
    | some (.own xs), some i => match ixN xs.length i with
      | some j => match xs[j]? with
        | some u => plU (.item p j) u
        | none => none
      | none => none
    | _, _ => none
  | _, _ => none
theorem p_item (hK : c.K = X.K) {mp : MP} (ho : PE X a (tP c mp)) (hi : PE X b (tV true .C c W m)) (hm : Stil m) (hs : PlainIx b) : PE X (.Subscript a b pos) (tP c (pItem mp m)) := PE.imp (pe_ix ix_seq ho hi hs) fun σ H Q ⟨w, Fs, σd, hd, S, p, u, e, g, hk, q⟩ => by
  unfold pItem at e
  split at e
  · rename_i p0 v h1 e0 em
    have eh : h1 = hd := hm _ _ _ _ em
    subst eh
    split at e
    · rename_i xs i gx ei
      split at e
      · rename_i j ej
        split at e
        · rename_i u0 eu
          refine ⟨w, Fs, σd, h1, S, p0, .own xs, e0, gx, rfl, fun w1 H1 x ex S1 pu1 at1 => ⟨w1, Fs, σd, h1, S1, ?_⟩⟩
          rw [em]
          intro w2 H2 y Fy mo pu2 rh ry
          have S2 := S1.ext mo.ext.1 mo.ext.2 rh
          have at2 := at1.mono mo.ext.1.rho (pu2 rfl)
          obtain ⟨Fu, ⟨a, vs, G, e1, e2, e3, t⟩, _⟩ := At.RU S2 at2
          subst e1
          obtain ⟨vj, Gj, e4, _, _⟩ := t.get eu
          rw [← hK]
          refine .inl ⟨a, vs, i, vj, rfl, uInt_ok ei ry, .of e2, ?_, ?_⟩
          · unfold atI
            rw [t.length, ej]
            exact e4
          · exact q w2 H2 vj (ex.trans S1.wok mo.ext.1) S2 (pu1.trans pu2) (plU_at S2 (p := .item p0 j) ⟨xs, vs, a, at2, e2, eu, e4⟩ e g)
        · cases e
      · cases e
    · cases e
  · cases e
end

/-! ### statements -/
/-- a place that holds a list -/
def lstAt (mp : MP) (σ : SL) (h : HS) : Option (Plc × List UV) := match mp σ h with
  | some p => match getP p σ h with
    | some (.own xs) => some (p, xs)
    | _ => none
  | none => none
def nxP (p : Plc) (xs : List UV) (σ : SL) (h : HS) : RS' := .nx (setP p (.own xs) σ h).1 (setP p (.own xs) σ h).2
def sApp (f : Bool) (mp : MP) (m : ME) : MS := fun σ h => match lstAt mp σ h with
  | some (p, _) => bindS (m σ h) σ fun u h1 => if f = true ∧ firm p = false then .bad else match getP p σ h1 with
    | some (.own xs) => if xs.length < sizeLine then nxP p (xs ++ [u]) σ h1 else .bad
    | _ => .bad
  | none => .bad
def sExtend (f : Bool) (mp : MP) (m : ME) : MS := fun σ h => match lstAt mp σ h with
  | some (p, _) => bindS (m σ h) σ fun u h1 => if f = true ∧ firm p = false then .bad else match getP p σ h1, asM h1 u with
    | some (.own xs), some ys => if xs.length + ys.length ≤ sizeLine ∧ ys.all noOwn = true then nxP p (xs ++ ys) σ h1 else .bad
    | _, _ => .bad
  | none => .bad
section
variable {X : Cx} {c : Cg} {W : WX} {m ma mb : ME} {σ : L2.St} {H : Hp} {a b e o : Expr} {pos apos cpos : Pos} {pu : Bool} {D : Ends} {mp : MP}
theorem lstAt_ok {p : Plc} {xs : List UV} {σd : SL} {hd : HS} (h : lstAt mp σd hd = some (p, xs)) : mp σd hd = some p ∧ getP p σd hd = some (.own xs) := by
  unfold lstAt at h
  split at h
  · rename_i p' e1
    split at h
    · rename_i xs' e2
      cases h
      exact ⟨e1, e2⟩
    · cases h
  · cases h
/-- the place behind the argument -/
theorem At.next {w w1 : Wd} {H1 : Hp} {Fs : List Addr} {σd : SL} {hd h1 : HS} {f : Bool} {p : Plc} {u u1 : UV} {v : V} (S : Sta c w Fs σd hd σ H) (e : Ext w H w1 H1) (hf : f = true ∨ (pu = true ∧ Stil m)) (h1e : m σd hd = .ok u h1) (pq : Pu pu H H1) {ux : UV}
    (h : At w.ρ H σd hd σ p u1 v) (nf : ¬ (f = true ∧ MM.firm p = false)) (g : getP p σd h1 = some ux) : At w1.ρ H1 σd h1 σ p ux v := by
  rcases hf with hf | ⟨hp, hs⟩
  · refine At.firm S e ?_ h g
    cases q : MM.firm p with
    | true => rfl
    | false => exact absurd ⟨hf, q⟩ nf
  · have eh := hs _ _ _ _ h1e
    subst eh
    have := At.get _ h
    rw [this] at g
    cases g
    exact h.mono e.rho (pq hp)
theorem s_app {f : Bool} (hf : f = true ∨ (pu = true ∧ Stil m)) (ho : PE X o (tP c mp)) (he : PE X e (tV pu .E c W m))
    (hbase : attributeBase o "append" X.env (eval o X.env) = eval o X.env := by rfl) (hline : (apos.endLine == cpos.line) = true := by rfl) (hs1 : starEach [e] X.env = (false, eval e X.env) :: starEach [] X.env := by rfl)
    (hs : swapsWith (.Call (.Attribute o "append" apos) [e] [] cpos) none pos.line X.env = pure false := by rfl)
    (hfew : ((backTo cpos (starEach [e] X.env)).all (fun x => !x.1) && (backToKw cpos (keywordEach [] X.env)).all (fun x => x.1.isSome)
      && decide ([e].length + ([] : List Keyword).length + (if ([] : List Keyword).isEmpty then 0 else 1) < 30)) = true := by rfl) :
    PS X (.Expr (.Call (.Attribute o "append" apos) [e] [] cpos) pos) (tS c W (sApp f mp m)) :=
  PS.imp (ps_expr (pe_bm PySem.F.plainAttrs_list PySem.F.slot_list_append PySem.F.type_list_append mt_append ho (pa_cons he pa_nil hs1) hbase hfew hline hs1) hs) fun D σ H ⟨w, Fs, σd, hd, S, p⟩ => by
    unfold sApp at p
    split at p
    · rename_i p0 xs0 e0
      obtain ⟨e1, g0⟩ := lstAt_ok e0
      refine ⟨w, Fs, σd, hd, S, p0, .own xs0, e1, g0, rfl, fun w1 H1 x ex S1 pu1 at1 => ?_⟩
      obtain ⟨Fu, ⟨a, vs0, G, rfl, e2, e3, t⟩, _⟩ := At.RU S1 at1
      refine ⟨.inl ⟨rfl, vs0, .of e2⟩, ?_⟩
      have p1 := SPo.shift (ex.full Fs) S1.ok p
      cases em : m σd hd with
      | bad => rw [em] at p1; exact p1.elim
      | err x h' =>
        rw [em] at p1
        refine ⟨w1, Fs, σd, hd, S1, ?_⟩
        rw [em]
        exact fun w' H' cls dx e' ok' rh rx => p1 w' Fs σ H' cls dx (e'.full Fs) (S1.ext e' ok' rh) rx
      | ok u h' =>
        rw [em] at p1
        simp only [bindS_ok] at p1
        refine ⟨w1, Fs, σd, hd, S1, ?_⟩
        rw [em]
        intro w2 H2 y Fy mo pp rh ru
        have S2 := S1.ext mo.ext.1 mo.ext.2 rh
        have ok2 := S1.ok.aside mo.1 mo.2
        have p2 := SPo.shift (Ext.more (ρ := w1.ρ) (Z := w1.Z) (ρ' := w2.ρ) (Z' := w2.Z) mo.1 Fs) ok2 p1
        split at p2
        · exact p2.elim
        · rename_i nf
          split at p2
          · rename_i xs gx
            split at p2
            · rename_i hl
              have at2 := At.next S1 mo.ext.1 hf em pp at1 nf gx
              obtain ⟨Fu2, ⟨a2, vs2, G2, e4, e5, e6, t2⟩, _⟩ := At.RU S2 at2
              cases e4
              refine ⟨a, vs2, y, rfl, rfl, e5, by rw [t2.length]; exact hl, ?_⟩
              exact put_lst1 (xs' := xs ++ [u]) S2 ok2 at2 e5 (fun G0 t0 => ⟨G0 ++ Fy, [], by rw [List.append_nil], RUl.app t0 ⟨y, [], Fy, [], rfl, by rw [List.append_nil], ru, ⟨rfl, rfl⟩⟩⟩) p2
            · exact p2.elim
          · exact p2.elim
    · exact p.elim
/-! #### o[i] = e, o[i] op= e -/
def sISet (mp : MP) (mi m : ME) : MS := fun σ h => bindS (m σ h) σ fun u h1 => match lstAt mp σ h1, mi σ h1 with
  | some (p, xs), .ok v _ => match (uInt v).bind (ixN xs.length) with
    | some j => nxP p (xs.set j u) σ h1
    | none => .bad
  | _, _ => .bad
theorem RUl.put {Z : Addr → Prop} {ρ : List Addr} {u : UV} {v : V} {Fv : List Addr} (r : RU c Z H ρ u v Fv) : ∀ {s : List UV} {l : List V} {F : List Addr} (i : Nat), i < s.length → RUl c Z H ρ s l F → ∃ F' F0, RUl c Z H ρ (s.set i u) (l.set i v) F' ∧ (F' ++ F0).Perm (F ++ Fv)
  | [], _, F, i, hl, h => by simp at hl
  | x :: s, _, F, 0, _, ⟨v', r', F1, F2, e, eF, h, t⟩ => by
    rw [e, eF]
    refine ⟨Fv ++ F2, F1, ⟨v, r', Fv, F2, rfl, rfl, r, t⟩, ?_⟩
    refine List.perm_append_comm.trans ?_
    rw [List.append_assoc]
    exact List.Perm.append_left F1 List.perm_append_comm
  | x :: s, _, F, i + 1, hl, ⟨v', r', F1, F2, e, eF, h, t⟩ => by
    obtain ⟨F', F0, h1, h2⟩ := RUl.put r i (by simpa using hl) t
    rw [e, eF]
    refine ⟨F1 ++ F', F0, ⟨v', _, F1, F', rfl, rfl, h, h1⟩, ?_⟩
    rw [List.append_assoc, List.append_assoc]
    exact List.Perm.append_left F1 h2
theorem ixN_lt {n : Nat} {i : Int} {j : Nat} (h : ixN n i = some j) : j < n := (ixN_seq h).2.1
theorem WOk.asideV {w w1 : Wd} {H1 : Hp} {Fs Fx : List Addr} (ok : WOk (fullv w Fs Fx) H) (e : Ext w H w1 H1) (ok1 : WOk w1 H1) : WOk (fullv w1 Fs Fx) H1 ∧ Ext (fullv w Fs Fx) H (fullv w1 Fs Fx) H1 := by
  have pm : ∀ {A : List Addr}, (Fs ++ (A ++ Fx)).Perm ((Fs ++ Fx) ++ A) := fun {A} => by
    rw [List.append_assoc]
    exact List.Perm.append_left Fs List.perm_append_comm
  have o1 : WOk ⟨w.ρ, w.Z, (Fs ++ Fx) ++ w.F⟩ H := ok.perm pm.symm
  refine ⟨(o1.aside (ρ := w.ρ) (Z := w.Z) (ρ' := w1.ρ) (Z' := w1.Z) e ok1).perm pm, ?_⟩
  exact Ext.set (Ext.more (ρ := w.ρ) (Z := w.Z) (ρ' := w1.ρ) (Z' := w1.Z) e (Fs ++ Fx)) (fun a => pm.mem_iff) (fun a => pm.mem_iff)
theorem s_iset {mi : ME} {i : Expr} {tpos : Pos} (ho : PE X o (tP c mp)) (hi : PE X i (tV true .C c W mi)) (hm : Stil mi) (he : PE X e (tV pu .E c W m))
    (ha : ∀ v, assign (.Subscript o i tpos) X.env v = (do
      let ov ← holding [v] (eval o X.env)
      let iv ← holding [v, ov] (eval i X.env)
      standAt tpos
      holding [v, ov, iv] (setItem ov iv v)
      release [v, ov, iv] []) := by intro _; rfl)
    (hs : swapsWithSole [.Subscript o i tpos] e pos.line X.env = pure false := by rfl) (hw : swappedStores [.Subscript o i tpos] e X.env = pure none := by rfl)
    (h1 : (assignEach [.Subscript o i tpos] X.env).map (·.2) = [assign (.Subscript o i tpos) X.env] := by rfl) :
    PS X (.Assign [.Subscript o i tpos] e pos) (tS c W (sISet mp mi m)) :=
  PS.imp (ps_asg he (pg_sub ho hi set_list ha) hs hw h1) fun D σ H ⟨w, Fs, σd, hd, S, p⟩ => stepE S p fun u h1 w1 H1 x Fx S1 ok1 pp ru p1 => by
    split at p1
    · rename_i p0 xs v h2 e0 em
      have eh : h2 = h1 := hm _ _ _ _ em
      subst eh
      split at p1
      · rename_i j ej
        rw [Option.bind_eq_some_iff] at ej
        obtain ⟨i, ei, ej⟩ := ej
        obtain ⟨e1, g0⟩ := lstAt_ok e0
        refine ⟨w1, Fs, σd, h2, S1, p0, .own xs, e1, g0, rfl, fun w2 H2 a ex S2 pu2 at2 => ⟨w2, Fs, σd, h2, S2, ?_⟩⟩
        rw [em]
        intro w3 H3 y Fy mo pu3 rh ry
        have S3 := S2.ext mo.ext.1 mo.ext.2 rh
        have ex3 := ex.trans S2.wok mo.ext.1
        have at3 := at2.mono mo.ext.1.rho (pu3 rfl)
        obtain ⟨Fu, ⟨l, vs, G, e5, e2, e3, t⟩, _⟩ := At.RU S3 at3
        subst e5
        obtain ⟨ok3, ex4⟩ := WOk.asideV ok1 ex3 mo.ext.2
        have ru3 := RU.mono ex3.rho ex3.z (fun a o z => (pu2.trans pu3) rfl a o) (fun a _ o => (pu2.trans pu3) rfl a o) ru
        refine ⟨l, vs, i, j, rfl, uInt_ok ei ry, e2, by rw [t.length]; exact ej, ?_⟩
        refine put_lst1 (xs' := xs.set j u) S3 ok3 at3 e2 (fun G0 t0 => ?_) (SPo.shift ex4 ok3 p1)
        obtain ⟨F', F0, q1, q2⟩ := RUl.put ru3 j (ixN_lt ej) t0
        exact ⟨F', F0, q2, q1⟩
      · exact p1.elim
    · exact p1.elim
def rGetL (K : PySem.W.Frag) : V → V → Hp → VK → Prop := fun x y H Q => ∃ p xs i v, x = .ref p ∧ y = .int i ∧ SqL K H p xs ∧ atI xs i = some v ∧ Q v H
theorem get_list : PGet X (rGetL X.K) := by
  intro pins s σ H x y v u Q I rx ry h
  obtain ⟨p, xs, i, z, rfl, rfl, hq, he, q⟩ := h
  cases rx
  obtain ⟨t, rfl⟩ := ry
  obtain ⟨its, r, pl, hz⟩ := I.list hq
  obtain ⟨j, h1, h2, h3, h4, h5⟩ := atI_get he
  obtain ⟨w, ew, rw'⟩ := r.get h2
  have hl := r.length
  have hn := line63
  have fin : EP X pins σ Q w s := ⟨z, H, I, rw', q⟩
  by_cases h0 : 0 ≤ i
  · have hj : i.toNat = j := by
      rw [seqIndex_of h0 h5] at h1
      exact Option.some.inj h1
    exact wpAny_getItem_list pl.isList h0 (by omega) (by rw [hj]; simpa using ew) fin
  · have hj : (i + (its.toArray.size : Int)).toNat = j := by
      rw [seqIndex_neg (by omega) h4] at h1
      rw [List.size_toArray, ← hl]
      exact Option.some.inj h1
    exact wpAny_getItem_list_neg pl.isList (by omega) (by rw [List.size_toArray] <;> omega) (by omega) (by rw [hj]; simpa using ew) fin
/-- o[i] op= e, of ints -/
def sIAug (f : Bool) (mp : MP) (mi : ME) (g : Int → Int → Int) (m : ME) : MS := fun σ h => match lstAt mp σ h, mi σ h with
  | some (p, xs), .ok v _ => match uInt v with
    | some i => match (atI xs i).bind uInt with
      | some x => bindS (m σ h) σ fun y h1 => if f = true ∧ firm p = false then .bad else match getP p σ h1, uInt y with
        | some (.own xs1), some y => match ixN xs1.length i with
          | some j => nxP p (xs1.set j (.d (.int (g x y)))) σ h1
          | none => .bad
        | _, _ => .bad
      | none => .bad
    | none => .bad
  | _, _ => .bad
theorem s_iaug {mi : ME} {i : Expr} {tpos : Pos} {f : Bool} {op : Operator} {g : Int → Int → Int} (hK : c.K = X.K) (hf : f = true ∨ (pu = true ∧ Stil m)) (hop : PIp X op (ipI g)) (ho : PE X o (tP c mp)) (hi : PE X i (tV true .C c W mi)) (hm : Stil mi) (he : PE X e (tV pu .E c W m))
    (ha : ∀ ov iv new, augStore i ov iv new = (do holding [new, ov, iv] (setItem ov iv new); release [new, ov, iv] []; pure .next) := by intros; rfl) :
    PS X (.AugAssign (.Subscript o i tpos) op e pos) (tS c W (sIAug f mp mi g m)) :=
  PS.imp (ps_augS ho hi get_list he hop set_list ha) fun D σ H ⟨w, Fs, σd, hd, S, p⟩ => by
    unfold sIAug at p
    split at p
    · rename_i p0 xs v h2 e0 em
      have eh : h2 = hd := hm _ _ _ _ em
      subst eh
      split at p
      · rename_i i ei
        split at p
        · rename_i x ex
          rw [Option.bind_eq_some_iff] at ex
          obtain ⟨ux, ex, ex2⟩ := ex
          obtain ⟨e1, g0⟩ := lstAt_ok e0
          refine ⟨w, Fs, σd, h2, S, p0, .own xs, e1, g0, rfl, fun w2 H2 a exx S2 pu2 at2 => ⟨w2, Fs, σd, h2, S2, ?_⟩⟩
          rw [em]
          intro w3 H3 y Fy mo pu3 rh ry
          have S3 := S2.ext mo.ext.1 mo.ext.2 rh
          have ex3 := exx.trans S2.wok mo.ext.1
          have at3 := at2.mono mo.ext.1.rho (pu3 rfl)
          obtain ⟨Fu, ⟨l, vs, G, e5, e2, e3, t⟩, _⟩ := At.RU S3 at3
          subst e5
          obtain ⟨vx, Gx, q1, q2⟩ := atI_RU t ex
          rw [← hK]
          refine ⟨l, vs, i, vx, rfl, uInt_ok ei ry, .of e2, q1, ?_⟩
          have p1 := SPo.shift (ex3.full Fs) S3.ok p
          cases em2 : m σd h2 with
          | bad => rw [em2] at p1; exact p1.elim
          | err x h' =>
            rw [em2] at p1
            refine ⟨w3, Fs, σd, h2, S3, ?_⟩
            rw [em2]
            exact fun w' H' cls dx e' ok' rh rx => p1 w' Fs σ H' cls dx (e'.full Fs) (S3.ext e' ok' rh) rx
          | ok u h' =>
            rw [em2] at p1
            simp only [bindS_ok] at p1
            refine ⟨w3, Fs, σd, h2, S3, ?_⟩
            rw [em2]
            intro w4 H4 z Fz mo4 pp4 rh4 ru4
            have S4 := S3.ext mo4.ext.1 mo4.ext.2 rh4
            have p2 := SPo.shift (mo4.ext.1.full Fs) S4.ok p1
            split at p2
            · exact p2.elim
            · rename_i nf
              split at p2
              · rename_i xs1 yi gx ey
                split at p2
                · rename_i j ej
                  have at4 := At.next S3 mo4.ext.1 hf em2 pp4 at3 nf gx
                  obtain ⟨Fu2, ⟨a2, vs2, G2, e4, e5, e6, t2⟩, _⟩ := At.RU S4 at4
                  cases e4
                  refine ⟨x, yi, uInt_ok ex2 q2, uInt_ok ey ru4, l, vs2, i, j, rfl, uInt_ok ei ry, e5, by rw [t2.length]; exact ej, ?_⟩
                  refine put_lst1 (Fx := []) (xs' := xs1.set j (.d (.int (g x yi)))) S4 (by rw [fullv_nil]; exact S4.ok) at4 e5 (fun G0 t0 => ?_) (by rw [fullv_nil]; exact p2)
                  obtain ⟨F', F0, q1, q2⟩ := RUl.put (u := .d (.int (g x yi))) (v := .int (g x yi)) (Fv := []) ⟨rfl, rfl⟩ j (ixN_lt ej) t0
                  exact ⟨F', F0, q2, q1⟩
                · exact p2.elim
              · exact p2.elim
        · exact p.elim
      · exact p.elim
    · exact p.elim
end
end MM

/-! MM14: cells made and given up, slots moved and frozen. -/
namespace MM
open PySem PySem.Spec PyProof.Rows L2

/-! ### what leaves the store as it was -/
theorem stil_K (x : DV) : Stil (mK x) := fun _ _ _ _ e => by cases e; rfl
theorem stil_var (i : Nat) : Stil (mVar i) := fun σ h u h' e => by
  unfold mVar at e
  split at e
  · cases e; rfl
  · cases e
theorem stil_varE (i : Nat) : Stil (mVarE i) := fun σ h u h' e => by
  unfold mVarE at e
  split at e
  · split at e
    · cases e; rfl
    · cases e
  · cases e
theorem ofO_h {α : Type} {o : Option α} {h h' : HS} {a : α} (e : ofO o h = .ok a h') : h' = h := by
  cases o with
  | none => cases e
  | some x => cases e; rfl
theorem stil_un {f : HS → UV → Option UV} {m : ME} (hm : Stil m) : Stil (mUn f m) := fun σ h u h' e => by
  unfold mUn at e
  cases q : m σ h with
  | ok v h1 => rw [q] at e; rw [ofO_h e]; exact hm _ _ _ _ q
  | err x h1 => rw [q] at e; cases e
  | bad => rw [q] at e; cases e
theorem stil_bin {f : HS → UV → UV → Option UV} {m n : ME} (hm : Stil m) (hn : Stil n) : Stil (mBin f m n) := fun σ h u h' e => by
  unfold mBin at e
  cases q : m σ h with
  | ok v h1 =>
    rw [q] at e
    have e1 := hm _ _ _ _ q
    simp only [bindM_ok] at e
    cases q2 : n σ h1 with
    | ok v2 h2 => rw [q2] at e; rw [ofO_h e, hn _ _ _ _ q2, e1]
    | err x h1 => rw [q2] at e; cases e
    | bad => rw [q2] at e; cases e
  | err x h1 => rw [q] at e; cases e
  | bad => rw [q] at e; cases e

/-! ### a fresh list becomes a cell -/
def uCell : UV → Option Cel
  | .own xs => some (.lst xs)
  | .odK kvs => some (.dK kvs)
  | .odT kvs => some (.dT kvs)
  | _ => none
section
variable {c : Cg} {Z : Addr → Prop} {H : Hp} {ρ : List Addr}
theorem uCell_ok {u : UV} {v : V} {F : List Addr} {x : Cel} (r : RU c Z H ρ u v F) (e : uCell u = some x) : ∃ a, v = .ref a ∧ RC c Z H ρ x a F := by
  unfold uCell at e
  split at e
  · cases e
    obtain ⟨a, vs, G, e1, e2, e3, t⟩ := r
    exact ⟨a, e1, vs, G, e2, e3, t⟩
  · cases e
    obtain ⟨a, vs, G, e1, e2, e3, t⟩ := r
    exact ⟨a, e1, vs, G, e2, e3, t⟩
  · cases e
    obtain ⟨a, vs, G, e1, e2, e3, t⟩ := r
    exact ⟨a, e1, vs, G, e2, e3, t⟩
  · cases e
theorem RHl.length : ∀ {h : HS} {l : List Addr} {F : List Addr}, RHl c Z H ρ h l F → l.length = h.length
  | [], _, _, r => by rw [r.1]; rfl
  | _ :: _, _, _, ⟨a, r, F1, F2, e, eF, h, t⟩ => by rw [e, List.length_cons, List.length_cons, t.length]
theorem RHl.snoc {x : Cel} {a : Addr} {Fx : List Addr} (r : RC c Z H ρ x a Fx) : ∀ {h : HS} {l : List Addr} {F : List Addr}, RHl c Z H ρ h l F → RHl c Z H ρ (h ++ [x]) (l ++ [a]) (F ++ Fx)
  | [], _, _, t => by
    rw [t.1, t.2]
    exact ⟨a, [], Fx, [], rfl, by simp, r, ⟨rfl, rfl⟩⟩
  | _ :: _, _, _, ⟨b, l', F1, F2, e, eF, h, t⟩ => by
    rw [e, eF]
    exact ⟨b, l' ++ [a], F1, F2 ++ Fx, rfl, by rw [List.append_assoc], h, t.snoc r⟩
theorem pre_get (l m : List Addr) : ∀ (i : Nat) a, l[i]? = some a → (l ++ m)[i]? = some a := fun i a e => by
  rw [List.getElem?_append_left (List.getElem?_eq_some_iff.mp e).1]; exact e
theorem RH.snoc {w : Wd} {hd : HS} {x : Cel} {a : Addr} {Fx : List Addr} (rh : RH c w.Z H w.ρ hd w.F) (r : RC c w.Z H w.ρ x a Fx) : RH c w.Z H (w.ρ ++ [a]) (hd ++ [x]) (w.F ++ Fx) :=
  RHl.snoc (RC.mono (pre_get _ _) (fun _ z => z) (fun _ _ _ e => e) (fun _ _ _ e => e) r) (RHl.mono (pre_get _ _) (fun _ z => z) (fun _ _ _ e => e) (fun _ _ _ e => e) rh)
end
def mCel (m : ME) : ME := fun σ h => bindM (m σ h) fun u h1 => match uCell u with
  | some x => .ok (.ref h1.length) (h1 ++ [x])
  | none => .bad
section
variable {X : Cx} {c : Cg} {W : WX} {e : Expr} {m : ME} {pu : Bool} {sts : List Stmt} {ms : MS}
theorem eCel (h : PE X e (tV pu .E c W m)) : PE X e (tV pu .E c W (mCel m)) := PE.imp h fun σ H Q ⟨w, Fs, σd, hd, S, p⟩ => ⟨w, Fs, σd, hd, S, by
  unfold mCel at p
  revert p
  cases m σd hd with
  | ok u h' =>
    intro p w' H' v Fv mo pp rh ru
    simp only [bindM_ok] at p
    split at p
    · rename_i x ex
      obtain ⟨a, rfl, rc⟩ := uCell_ok ru ex
      refine p ⟨w'.ρ ++ [a], w'.Z, w'.F ++ Fv⟩ H' (.ref a) [] ?_ pp (rh.snoc rc) ⟨rfl, a, ?_, rfl⟩
      · refine ⟨⟨fun i b q => pre_get _ _ i b (mo.1.rho i b q), mo.1.z, mo.1.keep, fun b q => mo.1.new b ?_, mo.1.there⟩, ?_⟩
        · rw [List.append_nil] at q; exact q
        · rw [List.append_nil]; exact ⟨mo.2.nd, mo.2.sep, mo.2.trF, mo.2.trZ⟩
      · rw [← RHl.length rh, List.getElem?_append_right (Nat.le_refl _), Nat.sub_self]; rfl
    · exact p.elim
  | err x h' => exact id
  | bad => exact id⟩

/-! ### ghost steps ahead of statements -/
abbrev GH := SL → HS → Option (SL × HS)
def GhS (c : Cg) (g : GH) : Prop := ∀ (w : Wd) (Fs : List Addr) (σd : SL) (hd : HS) (σ : L2.St) (H : Hp) (σd' : SL) (hd' : HS), Sta c w Fs σd hd σ H → g σd hd = some (σd', hd') → ∃ w' Fs', Ext (full w Fs) H (full w' Fs') H ∧ Sta c w' Fs' σd' hd' σ H
def sGh (g : GH) (ms : MS) : MS := fun σ h => match g σ h with
  | some (σ', h') => ms σ' h'
  | none => .bad
theorem gh_ok {g : GH} (hg : GhS c g) {D : Ends} {σ : L2.St} {H : Hp} (h : tS c W (sGh g ms) D σ H) : tS c W ms D σ H := by
  obtain ⟨w, Fs, σd, hd, S, p⟩ := h
  unfold sGh at p
  split at p
  · rename_i σd' hd' e
    obtain ⟨w', Fs', x, S'⟩ := hg w Fs σd hd σ H σd' hd' S e
    exact ⟨w', Fs', σd', hd', S', SPo.shift x S'.ok p⟩
  · exact p.elim
theorem ss_gh {g : GH} (hg : GhS c g) (h : PSs X sts (tS c W ms)) : PSs X sts (tS c W (sGh g ms)) := PSs.imp h fun D σ H => gh_ok hg
theorem s_gh {st : Stmt} {g : GH} (hg : GhS c g) (h : PS X st (tS c W ms)) : PS X st (tS c W (sGh g ms)) := PS.imp h fun D σ H => gh_ok hg
end
section
variable {c : Cg} {Z : Addr → Prop} {H : Hp} {ρ : List Addr}
theorem RS.clear : ∀ {s : SL} {l : L2.St} {F : List Addr} {j : Nat} {u : UV}, RS c Z H ρ s l F → s[j]? = some (some u) → ∃ v G F', l[j]? = some (some v) ∧ RU c Z H ρ u v G ∧ RS c Z H ρ (s.set j none) l F' ∧ F.Perm (F' ++ G)
  | [], _, _, _, _, _, h => by simp at h
  | none :: s, _, _, 0, u, _, q => by simp at q
  | none :: s, _, _, i + 1, u, ⟨o, r, e, t⟩, q => by
    obtain ⟨v, G, F', h1, h2, h3, h4⟩ := RS.clear (j := i) t (by simpa using q)
    exact ⟨v, G, F', by rw [e]; simpa using h1, h2, ⟨o, r, e, h3⟩, h4⟩
  | some x :: s, _, _, 0, u, ⟨v, r, F1, F2, e, eF, h, t⟩, q => by
    have q' : x = u := by simpa using q
    subst q' e eF
    exact ⟨v, F1, F2, rfl, h, ⟨some v, r, rfl, t⟩, List.perm_append_comm⟩
  | some x :: s, _, _, i + 1, u, ⟨v, r, F1, F2, e, eF, h, t⟩, q => by
    obtain ⟨v', G, F', h1, h2, h3, h4⟩ := RS.clear (j := i) t (by simpa using q)
    subst e eF
    refine ⟨v', G, F1 ++ F', by simpa using h1, h2, ⟨v, r, F1, F', rfl, rfl, h, h3⟩, ?_⟩
    rw [List.append_assoc]
    exact List.Perm.append_left F1 h4
variable {w : Wd} {Fs : List Addr} {σd : SL} {hd : HS} {σ : L2.St}
/-- a slot is forgotten, its value in hand -/
theorem Sta.take {j : Nat} {u : UV} (S : Sta c w Fs σd hd σ H) (h : σd[j]? = some (some u)) : ∃ v G F', σ[j]? = some (some v) ∧ RU c w.Z H w.ρ u v G ∧ Sta c w F' (σd.set j none) hd σ H ∧ WOk (fullv w F' G) H ∧ Ext (full w Fs) H (fullv w F' G) H := by
  obtain ⟨v, G, F', h1, h2, h3, h4⟩ := RS.clear S.s h
  have pm : (F' ++ (w.F ++ G)).Perm (Fs ++ w.F) := by
    refine (List.Perm.append_left F' List.perm_append_comm).trans ?_
    rw [← List.append_assoc]
    exact List.Perm.append_right w.F h4.symm
  have ok := S.ok.perm pm
  refine ⟨v, G, F', h1, h2, ⟨h3, S.h, ok.less (List.Sublist.append_left (List.sublist_append_left _ _) F')⟩, ok, Ext.sub fun a ha => pm.mem_iff.mp ha⟩
/-- the place in the list of slots set again -/
theorem set_set_none {i : Nat} {u : UV} : (σd.set i none).set i (some u) = σd.set i (some u) := by rw [List.set_set]
theorem set_same : ∀ {l : L2.St} {i : Nat} {v : V}, l[i]? = some (some v) → l.set i (some v) = l
  | [], _, _, h => by simp at h
  | a :: l, 0, v, h => by simp at h; rw [h]; rfl
  | a :: l, i + 1, v, h => by
    rw [List.set_cons_succ, set_same (by simpa using h)]
def gNo (i : Nat) : GH := fun σ h => match σ[i]? with
  | some (some _) => some (σ.set i none, h)
  | _ => none
theorem gNo_ok (i : Nat) : GhS c (gNo i) := fun w Fs σd hd σ H σd' hd' S e => by
  unfold gNo at e
  split at e
  · rename_i u hu
    cases e
    obtain ⟨v, G, F', h1, h2, h3, h4, h5⟩ := S.take hu
    exact ⟨w, F', h5.trans h4 (Ext.sub fun a ha => by
      rcases List.mem_append.mp ha with q | q
      · exact List.mem_append_left _ q
      · exact List.mem_append_right _ (List.mem_append_left _ q)), h3⟩
  · cases e
/-- a slot is frozen -/
def gFz (i : Nat) : GH := fun σ h => match σ[i]? with
  | some (some u) => (fz u).map fun u' => (σ.set i (some u'), h)
  | _ => none
theorem gFz_ok (i : Nat) : GhS c (gFz i) := fun w Fs σd hd σ H σd' hd' S e => by
  unfold gFz at e
  split at e
  · rename_i u hu
    rw [Option.map_eq_some_iff] at e
    obtain ⟨u', eu, e⟩ := e
    cases e
    obtain ⟨v, G, F', h1, h2, h3, h4, h5⟩ := S.take hu
    let w2 : Wd := ⟨w.ρ, fun x => w.Z x ∨ x ∈ G, w.F⟩
    have nd := List.nodup_append.mp (show (F' ++ (w.F ++ G)).Nodup from h4.nd)
    have nd2 := List.nodup_append.mp nd.2.1
    have ok2 : WOk (full w2 F') H := by
      refine ⟨?_, fun x hx z => ?_, fun x hx => ?_, fun x z => ?_⟩
      · exact List.nodup_append.mpr ⟨nd.1, nd2.1, fun x hx y hy => nd.2.2 x hx y (List.mem_append_left _ hy)⟩
      · rcases z with z | z
        · exact h3.ok.sep x hx z
        · rcases List.mem_append.mp hx with q | q
          · exact nd.2.2 x q x (List.mem_append_right _ z) rfl
          · exact nd2.2.2 x q x z rfl
      · exact h3.ok.trF x hx
      · rcases z with z | z
        · exact h3.ok.trZ x z
        · exact h4.trF x (List.mem_append_right _ (List.mem_append_right _ z))
    have S2 : Sta c w2 F' (σd.set i none) hd σ H := ⟨RS.mono (fun _ _ e => e) (fun _ z => .inl z) (fun _ _ _ e => e) (fun _ _ _ e => e) h3.s, RH_frz (fun _ z => .inl z) h3.h, ok2⟩
    obtain ⟨F2, S3, x3⟩ := S2.put (i := i) (Fv := []) (by rw [fullv_nil]; exact ok2) (fz_ok h2 eu)
    rw [fullv_nil] at x3
    rw [set_set_none, set_same h1] at S3
    refine ⟨w2, F2, (h5.trans h4 (⟨fun _ _ e => e, fun _ z => .inl z, fun _ _ e _ => e, fun a q => ?_, fun _ e => e⟩ : Ext (fullv w F' G) H (full w2 F') H)).trans ok2 x3, S3⟩
    rcases q with (q | q) | q
    · exact .inl q
    · exact .inr (.inl (List.mem_append_right _ (List.mem_append_right _ q)))
    · rcases List.mem_append.mp q with q | q
      · exact .inr (.inl (List.mem_append_left _ q))
      · exact .inr (.inl (List.mem_append_right _ (List.mem_append_left _ q)))
  · cases e
/-- a slot's list becomes a cell -/
def gCel (i : Nat) : GH := fun σ h => match σ[i]? with
  | some (some u) => (uCell u).map fun x => (σ.set i (some (.ref h.length)), h ++ [x])
  | _ => none
theorem gCel_ok (i : Nat) : GhS c (gCel i) := fun w Fs σd hd σ H σd' hd' S e => by
  unfold gCel at e
  split at e
  · rename_i u hu
    rw [Option.map_eq_some_iff] at e
    obtain ⟨x, eu, e⟩ := e
    cases e
    obtain ⟨v, G, F', h1, h2, h3, h4, h5⟩ := S.take hu
    obtain ⟨a, rfl, rc⟩ := uCell_ok h2 eu
    let w2 : Wd := ⟨w.ρ ++ [a], w.Z, w.F ++ G⟩
    have ok2 : WOk (full w2 F') H := ⟨h4.nd, h4.sep, h4.trF, h4.trZ⟩
    have S2 : Sta c w2 F' (σd.set i none) (hd ++ [x]) σ H := ⟨RS.mono (pre_get _ _) (fun _ z => z) (fun _ _ _ e => e) (fun _ _ _ e => e) h3.s, h3.h.snoc rc, ok2⟩
    obtain ⟨F2, S3, x3⟩ := S2.put (i := i) (u := .ref hd.length) (v := .ref a) (Fv := []) (by rw [fullv_nil]; exact ok2) ⟨rfl, a, by
      show (w.ρ ++ [a])[hd.length]? = some a
      rw [← RHl.length h3.h, List.getElem?_append_right (Nat.le_refl _), Nat.sub_self]; rfl, rfl⟩
    rw [fullv_nil] at x3
    rw [set_set_none, set_same h1] at S3
    exact ⟨w2, F2, (h5.trans h4 (⟨pre_get _ _, fun _ z => z, fun _ _ e _ => e, fun a q => q.elim .inl fun q => .inr (.inl q), fun _ e => e⟩ : Ext (fullv w F' G) H (full w2 F') H)).trans ok2 x3, S3⟩
  · cases e
end
/-! ### a slot moved into another -/
def sMv (i j : Nat) : MS := fun σ h => match σ[j]? with
  | some (some u) => .nx ((σ.set j none).set i (some u)) h
  | _ => .bad
theorem s_mv {X : Cx} {c : Cg} {W : WX} {pos p' p2 : Pos} (i j : Nat) {x y : Str} (hs : PE X (.Name y p2) (tVar j) → PS X (.Assign [.Name x p'] (.Name y p2) pos) (tAsg (tVar j) (gName i))) (h : PE X (.Name y p2) (tVar j)) : PS X (.Assign [.Name x p'] (.Name y p2) pos) (tS c W (sMv i j)) :=
  PS.imp (hs h) fun D σ H ⟨w, Fs, σd, hd, S, p⟩ => by
    unfold sMv at p
    split at p
    · rename_i u hu
      obtain ⟨v, G, F', h1, h2, h3, h4, h5⟩ := S.take hu
      obtain ⟨F2, S3, x3⟩ := h3.put (i := i) h4 h2
      exact ⟨v, h1, p w F2 _ H (h5.trans h4 x3) S3⟩
    · exact p.elim

/-! ### new cells are given up at a def's end -/
mutual
def refsLt (n : Nat) : UV → Bool
  | .d _ => true
  | .ref i => decide (i < n)
  | .tp xs => refsLtL n xs
  | .fl xs => refsLtL n xs
  | .own xs => refsLtL n xs
  | .odK kvs => refsLtK n kvs
  | .odT kvs => refsLtT n kvs
  | .clo _ caps => refsLtL n caps
def refsLtL (n : Nat) : List UV → Bool
  | [] => true
  | x :: xs => refsLt n x && refsLtL n xs
def refsLtK (n : Nat) : List (Key × UV) → Bool
  | [] => true
  | (_, x) :: xs => refsLt n x && refsLtK n xs
def refsLtT (n : Nat) : List (List Key × UV) → Bool
  | [] => true
  | (_, x) :: xs => refsLt n x && refsLtT n xs
end
def refsLtF (n : Nat) : List (Str × UV) → Bool
  | [] => true
  | (_, x) :: xs => refsLt n x && refsLtF n xs
def celLt (n : Nat) : Cel → Bool
  | .lst xs => refsLtL n xs
  | .dK kvs => refsLtK n kvs
  | .dT kvs => refsLtT n kvs
  | .obj _ fs => refsLtF n fs
  | .tab _ _ => true
section
variable {c : Cg} {Z : Addr → Prop} {H : Hp} {ρ : List Addr} {n : Nat}
mutual
theorem RU.cut : ∀ {u : UV} {v : V} {F : List Addr}, refsLt n u = true → RU c Z H ρ u v F → RU c Z H (ρ.take n) u v F
  | .d _, _, _, _, h => h
  | .ref i, _, _, q, ⟨e, a, h, r⟩ => ⟨e, a, by
    have : i < n := of_decide_eq_true (by simpa [refsLt] using q)
    rw [List.getElem?_take_of_lt this]; exact h, r⟩
  | .tp _, _, _, q, ⟨a, vs, e, z, h, r⟩ => ⟨a, vs, e, z, h, RUl.cut (by simpa [refsLt] using q) r⟩
  | .fl _, _, _, q, ⟨a, vs, e, z, h, r⟩ => ⟨a, vs, e, z, h, RUl.cut (by simpa [refsLt] using q) r⟩
  | .own _, _, _, q, ⟨a, vs, G, e, h, eF, r⟩ => ⟨a, vs, G, e, h, eF, RUl.cut (by simpa [refsLt] using q) r⟩
  | .odK _, _, _, q, ⟨a, vs, G, e, h, eF, r⟩ => ⟨a, vs, G, e, h, eF, RUk.cut (by simpa [refsLt] using q) r⟩
  | .odT _, _, _, q, ⟨a, vs, G, e, h, eF, r⟩ => ⟨a, vs, G, e, h, eF, RUt.cut (by simpa [refsLt] using q) r⟩
  | .clo _ _, _, _, q, ⟨e, I, f, c', cl, vs, h1, h2, h3, h4, h5, h6, h7, r⟩ => ⟨e, I, f, c', cl, vs, h1, h2, h3, h4, h5, h6, h7, RUl.cut (by simpa [refsLt] using q) r⟩
theorem RUl.cut : ∀ {u : List UV} {v : List V} {F : List Addr}, refsLtL n u = true → RUl c Z H ρ u v F → RUl c Z H (ρ.take n) u v F
  | [], _, _, _, h => h
  | _ :: _, _, _, q, ⟨v, r, F1, F2, e, eF, h, t⟩ => ⟨v, r, F1, F2, e, eF, RU.cut (by simp [refsLtL] at q; exact q.1) h, RUl.cut (by simp [refsLtL] at q; exact q.2) t⟩
theorem RUk.cut : ∀ {u : List (Key × UV)} {v : List (Key × V)} {F : List Addr}, refsLtK n u = true → RUk c Z H ρ u v F → RUk c Z H (ρ.take n) u v F
  | [], _, _, _, h => h
  | (_, _) :: _, _, _, q, ⟨v, r, F1, F2, e, eF, h, t⟩ => ⟨v, r, F1, F2, e, eF, RU.cut (by simp [refsLtK] at q; exact q.1) h, RUk.cut (by simp [refsLtK] at q; exact q.2) t⟩
theorem RUt.cut : ∀ {u : List (List Key × UV)} {v : List (List Key × V)} {F : List Addr}, refsLtT n u = true → RUt c Z H ρ u v F → RUt c Z H (ρ.take n) u v F
  | [], _, _, _, h => h
  | (_, _) :: _, _, _, q, ⟨v, r, F1, F2, e, eF, h, t⟩ => ⟨v, r, F1, F2, e, eF, RU.cut (by simp [refsLtT] at q; exact q.1) h, RUt.cut (by simp [refsLtT] at q; exact q.2) t⟩
end
theorem RUf.cut : ∀ {u : List (Str × UV)} {v : List (Str × V)} {F : List Addr}, refsLtF n u = true → RUf c Z H ρ u v F → RUf c Z H (ρ.take n) u v F
  | [], _, _, _, h => h
  | (_, _) :: _, _, _, q, ⟨v, r, F1, F2, e, eF, h, t⟩ => ⟨v, r, F1, F2, e, eF, RU.cut (by simp [refsLtF] at q; exact q.1) h, RUf.cut (by simp [refsLtF] at q; exact q.2) t⟩
theorem RC.cut : ∀ {x : Cel} {a : Addr} {F : List Addr}, celLt n x = true → RC c Z H ρ x a F → RC c Z H (ρ.take n) x a F
  | .lst _, _, _, q, ⟨vs, G, h, e, r⟩ => ⟨vs, G, h, e, RUl.cut q r⟩
  | .dK _, _, _, q, ⟨vs, G, h, e, r⟩ => ⟨vs, G, h, e, RUk.cut q r⟩
  | .dT _, _, _, q, ⟨vs, G, h, e, r⟩ => ⟨vs, G, h, e, RUt.cut q r⟩
  | .obj _ _, _, _, q, ⟨Ca, dx, gs, G, m, h, e, r⟩ => ⟨Ca, dx, gs, G, m, h, e, RUf.cut q r⟩
  | .tab _ _, _, _, _, h => h
theorem RHl.cut : ∀ {h : HS} {l : List Addr} {F : List Addr} (k : Nat), (h.take k).all (celLt n) = true → RHl c Z H ρ h l F → ∃ F', F'.Sublist F ∧ RHl c Z H (ρ.take n) (h.take k) (l.take k) F'
  | [], _, _, k, _, r => by
    rw [r.1]
    refine ⟨[], List.nil_sublist _, ?_⟩
    rw [List.take_nil, List.take_nil]
    exact ⟨rfl, rfl⟩
  | _ :: _, _, _, 0, _, r => ⟨[], List.nil_sublist _, ⟨rfl, rfl⟩⟩
  | x :: h, _, _, k + 1, q, ⟨a, r, F1, F2, e, eF, hx, t⟩ => by
    rw [List.take_succ_cons, List.all_cons, Bool.and_eq_true] at q
    obtain ⟨F', s, t'⟩ := RHl.cut k q.2 t
    refine ⟨F1 ++ F', by rw [eF]; exact List.Sublist.append_left s F1, ?_⟩
    rw [e, List.take_succ_cons, List.take_succ_cons]
    exact ⟨a, r.take k, F1, F', rfl, rfl, RC.cut q.1 hx, t'⟩
end
/-- the store cut to the cells that were there -/
def trunc (n : Nat) : MR UV → MR UV
  | .ok u h => if refsLt n u = true ∧ (h.take n).all (celLt n) = true then .ok u (h.take n) else .bad
  | .err e h => if (h.take n).all (celLt n) = true then .err e (h.take n) else .bad
  | .bad => .bad
theorem Ext.cut {w w' : Wd} {H H' : Hp} {F' : List Addr} (e : Ext w H ⟨w'.ρ, w'.Z, F'⟩ H') {F'' : List Addr} (hs : ∀ a ∈ F'', a ∈ F') : Ext w H ⟨w'.ρ.take w.ρ.length, w'.Z, F''⟩ H' :=
  ⟨fun i a q => by
    show (w'.ρ.take w.ρ.length)[i]? = some a
    rw [List.getElem?_take_of_lt (List.getElem?_eq_some_iff.mp q).1]; exact e.rho i a q, e.z, e.keep, fun a q => e.new a (q.elim .inl fun q => .inr (hs a q)), e.there⟩
theorem CPo.trunc {c : Cg} {w : Wd} {H : Hp} {Q : VK} {E : XK} {r : MR UV} (h : CPo c w H Q E (trunc w.ρ.length r)) : CPo c w H Q E r := by
  cases r with
  | ok u h' =>
    intro w' H' v Fv mo rh ru
    have h : CPo c w H Q E (if refsLt w.ρ.length u = true ∧ (h'.take w.ρ.length).all (celLt w.ρ.length) = true then .ok u (h'.take w.ρ.length) else .bad) := h
    by_cases hq : refsLt w.ρ.length u = true ∧ (h'.take w.ρ.length).all (celLt w.ρ.length) = true
    · rw [if_pos hq] at h
      obtain ⟨F', s, rh'⟩ := RHl.cut w.ρ.length hq.2 rh
      refine h ⟨w'.ρ.take w.ρ.length, w'.Z, F'⟩ H' v Fv ⟨Ext.cut mo.1 fun a ha => ?_, ?_⟩ rh' (RU.cut hq.1 ru)
      · rcases List.mem_append.mp ha with q | q
        · exact List.mem_append_left _ (s.subset q)
        · exact List.mem_append_right _ q
      · have o1 := mo.2.less (List.Sublist.append_right s Fv)
        exact ⟨o1.nd, o1.sep, o1.trF, o1.trZ⟩
    · rw [if_neg hq] at h
      exact h.elim
  | err e h' =>
    intro w' H' cls dx e' ok' rh rx
    have h : CPo c w H Q E (if (h'.take w.ρ.length).all (celLt w.ρ.length) = true then .err e (h'.take w.ρ.length) else .bad) := h
    by_cases hq : (h'.take w.ρ.length).all (celLt w.ρ.length) = true
    · rw [if_pos hq] at h
      obtain ⟨F', s, rh'⟩ := RHl.cut w.ρ.length hq rh
      have o1 : WOk ⟨w'.ρ, w'.Z, F'⟩ H' := ok'.less s
      exact h ⟨w'.ρ.take w.ρ.length, w'.Z, F'⟩ H' cls dx (Ext.cut (w' := w') e' fun a ha => s.subset ha) ⟨o1.nd, o1.sep, o1.trF, o1.trZ⟩ rh' rx
    · rw [if_neg hq] at h
      exact h.elim
  | bad => exact h
/-- the function of a body whose new cells are given up -/
def fnT (N : Nat) (b : MS) : MF := fun us h => trunc h.length (fnM N b us h)
theorem spM_T {c : Cg} {n N : Nat} {b : MS} {vs : List V} {H : Hp} {Q : VK} {E : XK} (h : spM c n (fnT N b) vs H Q E) : spM c n (fnM N b) vs H Q E := by
  obtain ⟨hn, w, us, hd, ok, rh, ru, p⟩ := h
  refine ⟨hn, w, us, hd, ok, rh, ru, ?_⟩
  unfold fnT at p
  rw [← RHl.length rh] at p
  exact CPo.trunc p
end MM

/-! MM15: a try statement with several named clauses; the caught exception is data. -/
namespace MM
open PySem PySem.Spec PyProof.Rows L2

/-! ### the caught exception is tracked -/
theorem caught_ok {P : Program} {w : World} {H : Hp} {h : Heap} {a : Addr} {cls : Value} {d : Option Addr} {ob : Obj} {vs : Array Value} (e : h.get? a = some ob) (z : Zc cls d ob) (f : ob.data = .fields vs) : ObjOk P w H h a (caught a cls d) :=
  ⟨⟨ob, vs, e, z, f⟩, ⟨ob, e⟩, fun _ _ ⟨o, v, q, r⟩ k => ⟨o, v, k o q, r⟩⟩
theorem caught_own {a b : Addr} {cls : Value} {d : Option Addr} : caught a cls d ≠ .own b := fun z => by
  have z2 : HO.ext _ = HO.own b := z
  cases z2
theorem caught_tup {a : Addr} {cls : Value} {d : Option Addr} {xs : List V} : caught a cls d ≠ .tup xs := fun z => by
  have z2 : HO.ext _ = HO.tup xs := z
  cases z2
section
variable {X : Cx} {pins : List (Addr × Obj)} {σ : L2.St} {H : Hp} {s s0 : Shared} {a : Addr}
/-- from a state in which a stood nowhere: it is told of a -/
theorem track {cls : Value} {d : Option Addr} {ob : Obj} {vs : Array Value} (J : Inv X pins σ H s0) (n0 : s0.heap.get? a = none) (I : Inv X pins σ H s) (e : s.heap.get? a = some ob) (z : Zc cls d ob) (f : ob.data = .fields vs) (na : H a = none) (nL : a ≠ X.env.locals) :
    Inv X pins σ (upd H a (caught a cls d)) s := by
  have old : ∀ {b : Addr} {o : Obj}, X.s_0.heap.get? b = some o → b ∉ X.ex → b ≠ a := fun {b o} h hx q => by
    obtain ⟨o2, e2⟩ := J.base.there b o h hx
    rw [q, n0] at e2
    cases e2
  have ne : ∀ {b : Addr} {o : HO}, H b = some o → b ≠ a := fun {b o} h q => by
    rw [q, na] at h
    cases h
  refine ⟨I.ok, I.os, I.bare, ⟨I.base.keep, I.base.slot, fun b o h n hx => ?_, I.base.there, fun b xs h => ?_, fun b o u h => ?_, fun b ps h => ?_⟩, I.loc, I.cell, ?_, fun x c h => ?_, fun p hp => ?_, fun b o h => ?_, I.len⟩
  · rw [upd_ne (old h hx)]
    exact I.base.free b o h n hx
  · have q := I.base.tups b xs h
    rw [upd_ne (ne q)]
    exact q
  · have q := I.base.frzs b o u h
    rw [upd_ne (ne q)]
    exact q
  · obtain ⟨m, q⟩ := I.base.tbls b ps h
    exact ⟨m, by rw [upd_ne (ne q)]; exact q⟩
  · rw [upd_ne (Ne.symm nL)]
    exact I.free
  · have nc : c ≠ a := fun q => by
      obtain ⟨v, o, h1, h2⟩ := I.cell x c h
      rw [q, e] at h1
      cases h1
      rw [f] at h2
      cases h2
    rw [upd_ne nc]
    exact I.freeC x c h
  · obtain ⟨q1, q2, q3⟩ := I.pin p hp
    have np : p.1 ≠ a := fun q => by
      have j := (J.pin p hp).1
      rw [q, n0] at j
      cases j
    exact ⟨q1, by rw [upd_ne np]; exact q2, q3⟩
  · by_cases hb : b = a
    · subst hb
      rw [upd_same] at h
      cases h
      exact caught_ok e z f
    · rw [upd_ne hb] at h
      refine (I.hok b o h).stay (fun _ _ _ q => q) (fun c q => ?_) fun c xs q => ?_
      · rw [upd_ne (ne q)]; exact q
      · rw [upd_ne (ne q)]; exact q
/-- into the suite, out of it -/
theorem inSuite (I : Inv X pins σ H s) (a : Addr) : Inv (X.suite a (X.pn ++ pins)) [] σ H s :=
  ⟨I.ok.suite _ _, I.os, I.bare, I.base, I.loc, I.cell, I.free, I.freeC, fun p hp => I.pin p (by simpa using hp), I.hok, I.len⟩
theorem offSuite {q : List (Addr × Obj)} (I : Inv (X.suite a (X.pn ++ pins)) q σ H s) (ok : X.Ok) : Inv X pins σ H s :=
  ⟨ok, I.os, I.bare, I.base, I.loc, I.cell, I.free, I.freeC, fun p hp => I.pin p (List.mem_append.mpr (.inl hp)), I.hok, I.len⟩
end

/-! ### clauses -/
def endAt (i : Option Nat) (D : Ends) : Ends := match i with
  | some i => { nx := fun σ' H' => D.nx (σ'.set i none) H', rt := D.rt, bk := fun σ' H' => D.bk (σ'.set i none) H', ct := fun σ' H' => D.ct (σ'.set i none) H' }
  | none => D
def putAt (i : Option Nat) (v : V) (σ : L2.St) : L2.St := match i with
  | some i => σ.set i (some v)
  | none => σ
/-- what the clauses want of an exception -/
def wCl (K : PySem.W.Frag) (Wout : WX) (D : Ends) : List (Value × Option Nat × TS) → WX
  | [] => Wout
  | (c, i, ts) :: r => fun cls d σ H => ∃ b, PySem.W.exmOne K cls c = some b ∧ (b = true → ∀ a, H a = none → ts (endAt i D) (putAt i (.ref a) σ) (upd H a (caught a cls d))) ∧ (b = false → wCl K Wout D r cls d σ H)
inductive Cls (X : Cx) : List ExceptHandler → List (Value × Option Nat × TS) → Prop
  | nil : Cls X [] []
  | named {x n : Str} {c : Value} {i : Nat} {ts : TS} {b₀ : Stmt} {su : List Stmt} {p1 p2 : Pos} {hd : List ExceptHandler} {l : List (Value × Option Nat × TS)} (hc : Names X x c) (hN : X.N.Nodup) (hi : X.N[i]? = some n) (hl : X.env.kindOf n = some .local)
      (hs : ∀ (a : Addr) (pn : List (Addr × Obj)), PSs (X.suite a pn) (b₀ :: su) ts) (r : Cls X hd l) : Cls X (.ExceptHandler (some (.Name x p1)) (some n) (b₀ :: su) p2 :: hd) ((c, some i, ts) :: l)
  | plain {x : Str} {c : Value} {ts : TS} {b₀ : Stmt} {su : List Stmt} {p1 p2 : Pos} {hd : List ExceptHandler} {l : List (Value × Option Nat × TS)} (hc : Names X x c)
      (hs : ∀ (a : Addr) (pn : List (Addr × Obj)), PSs (X.suite a pn) (b₀ :: su) ts) (r : Cls X hd l) : Cls X (.ExceptHandler (some (.Name x p1)) none (b₀ :: su) p2 :: hd) ((c, none, ts) :: l)
section
variable {X : Cx} {body : List Stmt} {c0 : ExceptHandler} {cr : List ExceptHandler} {l : List (Value × Option Nat × TS)} {pos : Pos} {tb : WX → TS} {Wout : WX}
/-- the clauses one after the other, the exception grounded: B its ground -/
theorem clauses_ok {B : Heap} {a : Addr} {pins : List (Addr × Obj)} {σ : L2.St} {H : Hp} {sI s : Shared} {cls : Value} {d : Option Addr} {D : Ends} {h3 : Heap} (ok : X.Ok) (hst : X.stack = X.env :: X.outer) (hf : X.env.frame = some X.env.locals) (tk : Takes X Wout)
    (J : Inv X pins σ H sI) (n0 : sI.heap.get? a = none) (nb : ∀ b o, sI.heap.get? b = some o → b ∉ frs X.stack → B.get? b = some o) (fl : HandSPX.FlyingZ B (X.env :: X.outer) a (Zc cls d) h3) (up : sI.heap.UpToSlots h3) (na : H a = none) (nL : a ≠ X.env.locals)
    (os : s.os = sI.os) (ag : AllBare s.gens) : ∀ {hd : List ExceptHandler} {l : List (Value × Option Nat × TS)}, Cls X hd l → wCl X.K Wout D l cls d σ H → wpAny (model X.prog X.w) X.A (handleBy (.ref a) X.env hd) (SP X pins D) X.xe { s with heap := h3 } := by
  have J3 : Inv X pins σ H { s with heap := h3 } := J.landed nb fl.1 up os ag
  obtain ⟨oe, vs, he, hz, hda⟩ := fl.there
  have looks : PySem.W.Looks (model X.prog X.w) h3 (typeOf (.ref a)) cls := fun _ _ _ _ k q => wpAny_typeOf_ref (k _ _ he) (by rw [hz.1]; exact q)
  have asked : ∀ {x : Str} {c : Value} {p : Pos} {Q : Value → Shared → Prop} {E : Value → Shared → Prop}, Names X x c → Q c { s with heap := h3 } → wpAny (model X.prog X.w) (X.A.mark (some (.ref a))) (eval (.Name x p) X.env) Q E { s with heap := h3 } := fun {x c p Q E} hc q => by
    obtain ⟨g, nd, m | ⟨m, bv, nn⟩⟩ := hc
    · exact ld_glob (X := X.suite a (X.pn ++ pins)) (inSuite J3 a) g m q nd
    · exact ld_blt (X := X.suite a (X.pn ++ pins)) (inSuite J3 a) g m bv q nn nd
  -- at the suite's first row
  have there : ∀ {h4 : Heap}, HandSPX.FlyingZ B (X.env :: X.outer) a (Zc cls d) h4 → h3.UpToSlots h4 → Inv (X.suite a (X.pn ++ pins)) [] σ (upd H a (caught a cls d)) { s with heap := h4 } := fun {h4} f4 u4 => by
    obtain ⟨o4, v4, e4, z4, d4⟩ := f4.there
    exact inSuite (track J n0 (J.landed (s' := { s with heap := h4 }) nb f4.1 (up.trans u4) os ag) e4 z4 d4 na nL) a
  intro hd l cs
  induction cs with
  | nil =>
    intro w
    refine wpAny_handleBy_nil ?_
    obtain ⟨_, _, _, o1, v1, T, _, _, g1, _, g2, g3, _⟩ := id fl
    unfold PySem.passOn
    refine wpAny_bind (wpAny_field g1 g2 g3 ?_)
    rw [if_neg (by simp : ¬ (Value.ref T == Value.none) = true)]
    have up2 : wpAny (model X.prog X.w) X.A (setFlight (.ref a) X.env.frame) (fun _ t => wpAny (model X.prog X.w) X.A (throw (.ref a) : Sem Flow) (SP X pins D) X.xe t) X.xe { s with heap := h3 } := by
      rw [hf]
      exact HandSPX.setFlight_upZ fl fun h5 hh u5 => wpAny_throw (tk _ _ ⟨a, B, sI, pins, σ, H, cls, d, rfl, J, nb, up.trans u5, .inr (.inr (by rw [hst]; exact hh)), na, os, ag, w⟩)
    first
      | exact wpAny_bind (wpAny_pure (wpAny_bind up2))
      | exact wpAny_bind up2
  | @named x n c i ts b₀ su p1 p2 hd2 l2 hc hN hi hl hs r ih =>
    rintro ⟨b, hb, yes, no⟩
    refine wpAny_handleBy_cons (codeAny_handlers_test (asked hc ((PySem.W.exm_one (M := model X.prog X.w) J3.kIn looks hb).here ?_))) fun q => nomatch q
    cases b with
    | false => exact ih (no rfl)
    | true =>
      refine codeAny_handlers_suite_as (HandSPX.lands_againZ fl fun h4 f4 u4 => ?_)
      refine store_ok (X := X.suite a (X.pn ++ pins)) (v := .ref a) (there f4 u4) hN hi (.inl hl) rfl (fun s5 S5 => ?_) (.inr hl)
      refine wpAny_mono ((hs a (X.pn ++ pins)).run [] s5 _ _ (endAt (some i) D) S5 (yes rfl a na)) (fun f s6 sp => ?_) fun _ _ z => z.elim
      have goes : ∀ {σ6 : L2.St} {H6 : Hp} {Q : Shared → Prop}, Inv (X.suite a (X.pn ++ pins)) [] σ6 H6 s6 → (∀ t, Inv X pins (σ6.set i none) H6 t → Q t) → wpAny (model X.prog X.w) X.A (do bindName X.env n .none; unbindBehindTheSuite X.env n p2) (fun _ t => Q t) X.xe s6 := fun S6 q => gone_ok (offSuite S6 ok) hN hi hl q
      cases f with
      | next => obtain ⟨_, _, S6, q6⟩ := sp; exact goes S6 fun t T => ⟨_, _, T, q6⟩
      | brk => obtain ⟨_, _, S6, q6⟩ := sp; exact goes S6 fun t T => ⟨_, _, T, q6⟩
      | cont => obtain ⟨_, _, S6, q6⟩ := sp; exact goes S6 fun t T => ⟨_, _, T, q6⟩
      | ret u => obtain ⟨_, _, _, S6, r6, q6⟩ := sp; exact goes S6 fun t T => ⟨_, _, _, T, r6, q6⟩
  | @plain x c ts b₀ su p1 p2 hd2 l2 hc hs r ih =>
    rintro ⟨b, hb, yes, no⟩
    refine wpAny_handleBy_cons (codeAny_handlers_test (asked hc ((PySem.W.exm_one (M := model X.prog X.w) J3.kIn looks hb).here ?_))) fun q => nomatch q
    cases b with
    | false => exact ih (no rfl)
    | true =>
      refine codeAny_handlers_suite (HandSPX.lands_againZ fl fun h4 f4 u4 => ?_)
      refine wpAny_mono ((hs a (X.pn ++ pins)).run [] _ _ _ (endAt none D) (there f4 u4) (yes rfl a na)) (fun f s6 sp => ?_) fun _ _ z => z.elim
      cases f with
      | next => obtain ⟨_, _, S6, q6⟩ := sp; exact ⟨_, _, offSuite S6 ok, q6⟩
      | brk => obtain ⟨_, _, S6, q6⟩ := sp; exact ⟨_, _, offSuite S6 ok, q6⟩
      | cont => obtain ⟨_, _, S6, q6⟩ := sp; exact ⟨_, _, offSuite S6 ok, q6⟩
      | ret u => obtain ⟨_, _, _, S6, r6, q6⟩ := sp; exact ⟨_, _, _, offSuite S6 ok, r6, q6⟩
theorem ps_tryN (hst : X.stack = X.env :: X.outer) (hf : X.env.frame = some X.env.locals) (tk : Takes X Wout)
    (hb : ∀ (W : WX) (pn : List (Addr × Obj)) (xe : Value → Shared → Prop), Takes (X.tr pn xe) W → PassesOwn (model X.prog X.w) X.A X.env xe → PSs (X.tr pn xe) body (tb W))
    (hc : Cls X (c0 :: cr) l) : PS X (.Try body (c0 :: cr) [] [] pos) (fun D σ H => tb (wCl X.K Wout D l) D σ H) := by
  refine ⟨fun pins s σ H D I h => ?_⟩
  have ok := I.ok
  have fr : X.A.frames = some (X.env :: X.outer) := by rw [ok.frames, hst]
  let xe : Value → Shared → Prop := fun e t => wpAny (model X.prog X.w) X.A (noteFrame e X.env) (fun _ t2 => wpAny (model X.prog X.w) X.A (setFlight e none) (fun _ t3 => wpAny (model X.prog X.w) X.A (handleBy e X.env (c0 :: cr)) (SP X pins D) X.xe t3) X.xe t2) X.xe t
  refine wpAny_Try_except (wpAny_mono ((hb (wCl X.K Wout D l) (X.pn ++ pins) xe (fun u t q => ?_) PassesOwn.looking).run [] s σ H D (I.toTry _) h) (fun f s1 sp => ?_) fun _ _ z => z)
  · obtain ⟨a, B, sI, pins', σ', H', cls, d, rfl, J', nb, up, sky, na, os, ag, w⟩ := q
    have J : Inv X pins σ' H' sI := J'.ofTry ok
    have sky2 : Sky B (X.env :: X.outer) a (Zc cls d) X.env.locals t.heap := by rw [← hst]; exact sky
    have nB : B.get? a = none := by
      rcases sky2 with ⟨_, q, _⟩ | q | q
      · exact q
      · exact q.2.1
      · exact q.2.1
    show wpAny (model X.prog X.w) X.A (noteFrame (.ref a) X.env) _ _ _
    refine Sky.land Zc.steady fr hf sky2 fun h3 fl up3 => ?_
    obtain ⟨oe, vs, he, hz, hda⟩ := fl.there
    have nfr : a ∉ frs (X.env :: X.outer) := fun hm => by
      obtain ⟨_, o2, e2, nf⟩ := fl.2.2.1.mem hm
      rw [he] at e2
      cases e2
      exact nf _ hda
    have nL : a ≠ X.env.locals := fun z => nfr (List.mem_filterMap.mpr ⟨X.env, List.mem_cons_self, by rw [hf, z]⟩)
    have n0 : sI.heap.get? a = none := by
      cases q : sI.heap.get? a with
      | none => rfl
      | some o => have := nb a o q (by rw [hst]; exact nfr); rw [nB] at this; cases this
    exact clauses_ok ok hst hf tk J n0 nb fl (up.trans up3) na nL os ag hc w
  · cases f with
    | next => obtain ⟨_, _, S6, q6⟩ := sp; exact wpAny_execs_nil ⟨_, _, S6.ofTry ok, q6⟩
    | brk => obtain ⟨_, _, S6, q6⟩ := sp; exact ⟨_, _, S6.ofTry ok, q6⟩
    | cont => obtain ⟨_, _, S6, q6⟩ := sp; exact ⟨_, _, S6.ofTry ok, q6⟩
    | ret u => obtain ⟨_, _, _, S6, r6, q6⟩ := sp; exact ⟨_, _, _, S6.ofTry ok, r6, q6⟩
end
end MM

/-! MM16: exceptions: try, raise, e.f, isinstance(e, C). -/
namespace MM
open PySem PySem.Spec PyProof.Rows L2

/-! ### what owns is a list, a dict or an object -/
def OwnK (H : Hp) (a : Addr) : Prop := (∃ xs, H a = some (.lst xs)) ∨ (∃ k, H a = some (.dK k)) ∨ (∃ k, H a = some (.dT k)) ∨ (∃ C d f, H a = some (.ins C d f)) ∨ ∃ ps, H a = some (.tbl ps)
section
variable {c : Cg} {Z : Addr → Prop} {H : Hp} {ρ : List Addr}
theorem memCons {a b : Addr} {P : Addr → Prop} {G F : List Addr} (e : F = a :: G) (h1 : P a) (h2 : ∀ x ∈ G, P x) (hb : b ∈ F) : P b := by
  rw [e] at hb
  rcases List.mem_cons.mp hb with q | q
  · rw [q]; exact h1
  · exact h2 b q
theorem memApp2 {b : Addr} {P : Addr → Prop} {G1 G2 F : List Addr} (e : F = G1 ++ G2) (h1 : ∀ x ∈ G1, P x) (h2 : ∀ x ∈ G2, P x) (hb : b ∈ F) : P b := by
  rw [e] at hb
  exact (List.mem_append.mp hb).elim (h1 b) (h2 b)
mutual
theorem RU.kind : ∀ {u : UV} {v : V} {F : List Addr}, RU c Z H ρ u v F → ∀ a ∈ F, OwnK H a
  | .d _, _, _, h => fun a ha => by rw [h.1] at ha; cases ha
  | .ref _, _, _, h => fun a ha => by rw [h.1] at ha; cases ha
  | .tp _, _, _, ⟨_, _, _, _, _, r⟩ => RUl.kind r
  | .fl _, _, _, ⟨_, _, _, _, _, r⟩ => RUl.kind r
  | .own _, _, _, ⟨a, vs, G, _, h, e, r⟩ => fun b hb => memCons e (.inl ⟨_, h⟩) (RUl.kind r) hb
  | .odK _, _, _, ⟨a, vs, G, _, h, e, r⟩ => fun b hb => memCons e (.inr (.inl ⟨_, h⟩)) (RUk.kind r) hb
  | .odT _, _, _, ⟨a, vs, G, _, h, e, r⟩ => fun b hb => memCons e (.inr (.inr (.inl ⟨_, h⟩))) (RUt.kind r) hb
  | .clo _ _, _, _, h => fun a ha => by rw [h.1] at ha; cases ha
theorem RUl.kind : ∀ {u : List UV} {v : List V} {F : List Addr}, RUl c Z H ρ u v F → ∀ a ∈ F, OwnK H a
  | [], _, _, h => fun a ha => by rw [h.2] at ha; cases ha
  | _ :: _, _, _, ⟨v, r, F1, F2, _, e, h, t⟩ => fun b hb => memApp2 e (RU.kind h) (RUl.kind t) hb
theorem RUk.kind : ∀ {u : List (Key × UV)} {v : List (Key × V)} {F : List Addr}, RUk c Z H ρ u v F → ∀ a ∈ F, OwnK H a
  | [], _, _, h => fun a ha => by rw [h.2] at ha; cases ha
  | (_, _) :: _, _, _, ⟨v, r, F1, F2, _, e, h, t⟩ => fun b hb => memApp2 e (RU.kind h) (RUk.kind t) hb
theorem RUt.kind : ∀ {u : List (List Key × UV)} {v : List (List Key × V)} {F : List Addr}, RUt c Z H ρ u v F → ∀ a ∈ F, OwnK H a
  | [], _, _, h => fun a ha => by rw [h.2] at ha; cases ha
  | (_, _) :: _, _, _, ⟨v, r, F1, F2, _, e, h, t⟩ => fun b hb => memApp2 e (RU.kind h) (RUt.kind t) hb
end
theorem RUf.kind : ∀ {u : List (Str × UV)} {v : List (Str × V)} {F : List Addr}, RUf c Z H ρ u v F → ∀ a ∈ F, OwnK H a
  | [], _, _, h => fun a ha => by rw [h.2] at ha; cases ha
  | (_, _) :: _, _, _, ⟨v, r, F1, F2, _, e, h, t⟩ => fun b hb => memApp2 e (RU.kind h) (RUf.kind t) hb
theorem RC.kind : ∀ {x : Cel} {a : Addr} {F : List Addr}, RC c Z H ρ x a F → ∀ b ∈ F, OwnK H b
  | .lst _, _, _, ⟨vs, G, h, e, r⟩ => fun b hb => memCons e (.inl ⟨_, h⟩) (RUl.kind r) hb
  | .dK _, _, _, ⟨vs, G, h, e, r⟩ => fun b hb => memCons e (.inr (.inl ⟨_, h⟩)) (RUk.kind r) hb
  | .dT _, _, _, ⟨vs, G, h, e, r⟩ => fun b hb => memCons e (.inr (.inr (.inl ⟨_, h⟩))) (RUt.kind r) hb
  | .obj _ _, _, _, ⟨Ca, dx, gs, G, m, h, e, r⟩ => fun b hb => memCons e (.inr (.inr (.inr (.inl ⟨_, _, _, h⟩)))) (RUf.kind r) hb
  | .tab _ _, _, _, ⟨_, e, ps, h, _⟩ => fun b hb => memCons e (.inr (.inr (.inr (.inr ⟨_, h⟩)))) (fun _ z => nomatch z) hb
theorem RHl.kind : ∀ {h : HS} {l : List Addr} {F : List Addr}, RHl c Z H ρ h l F → ∀ a ∈ F, OwnK H a
  | [], _, _, h => fun a ha => by rw [h.2] at ha; cases ha
  | _ :: _, _, _, ⟨a, r, F1, F2, _, e, h, t⟩ => fun b hb => memApp2 e (RC.kind h) (RHl.kind t) hb
theorem RS.kind : ∀ {s : SL} {l : L2.St} {F : List Addr}, RS c Z H ρ s l F → ∀ a ∈ F, OwnK H a
  | [], _, _, h => fun a ha => by rw [h.2] at ha; cases ha
  | none :: _, _, _, ⟨o, r, _, t⟩ => RS.kind t
  | some _ :: _, _, _, ⟨v, r, F1, F2, _, e, h, t⟩ => fun b hb => memApp2 e (RU.kind h) (RS.kind t) hb
theorem OwnK.xd {a : Addr} {gs : List (Str × V)} (h : OwnK H a) (e : H a = some (.xd gs)) : False := by
  rcases h with ⟨_, h⟩ | ⟨_, h⟩ | ⟨_, h⟩ | ⟨_, _, _, h⟩ | ⟨_, h⟩ <;> · rw [e] at h; cases h
end

/-! ### the classes' tables -/
structure ExT where
  sg : Str → Str → Option Bool
  st : Str → String → Option Bool
  fl : Str → Str → Bool
structure ExOk (K : PySem.W.Frag) (mg : Str → Option Value) (T : ExT) : Prop where
  g : ∀ C Ca x Da b, mg C = some (.ref Ca) → mg x = some (.ref Da) → T.sg C x = some b → PySem.W.exmOne K (.ref Ca) (.ref Da) = some b ∧ PySem.W.kitOne K (.ref Ca) (.ref Da) = some b ∧ ExcC K Ca
  t : ∀ C Ca n b, mg C = some (.ref Ca) → T.st C n = some b → PySem.W.exmOne K (.ref Ca) (.type n) = some b ∧ PySem.W.kitOne K (.ref Ca) (.type n) = some b ∧ ExcC K Ca
  f : ∀ C Ca f, mg C = some (.ref Ca) → T.fl C f = true → XfC K Ca ∧ PySem.W.findIn K (.ref Ca) f = some none

/-! ### try -/
def putR (i : Option Nat) (e : Exn) (σ : SL) : SL := match i with
  | some i => σ.set i (some (.d (.exn e.cls e.fs)))
  | none => σ
def goR (i : Option Nat) (σ : SL) : SL := match i with
  | some i => σ.set i none
  | none => σ
def endR (i : Option Nat) : RS' → RS'
  | .nx σ h => .nx (goR i σ) h
  | .bk σ h => .bk (goR i σ) h
  | .ct σ h => .ct (goR i σ) h
  | .rt u h => .rt u h
  | .ex _ _ _ => .bad
  | .bad => .bad
def catchM (e : Exn) : List ((Str → Option Bool) × Option Nat × MS) → MS
  | [] => fun σ h => .ex e σ h
  | (k, i, m) :: r => fun σ h => match k e.cls with
    | some true => endR i (m (putR i e σ) h)
    | some false => catchM e r σ h
    | none => .bad
def sTry (b : MS) (cl : List ((Str → Option Bool) × Option Nat × MS)) : MS := fun σ h => match b σ h with
  | .ex e σ' h' => catchM e cl σ' h'
  | r => r
section
variable {X : Cx} {c : Cg} {W : WX} {σ : L2.St} {H : Hp} {D : Ends}
theorem RS.blank {Z : Addr → Prop} {ρ : List Addr} : ∀ {s : SL} {l : L2.St} {F : List Addr} (i : Nat), RS c Z H ρ s l F → ∃ F', F'.Sublist F ∧ RS c Z H ρ (s.set i none) (l.set i none) F'
  | [], _, _, i, h => by
    rw [h.1, h.2]
    exact ⟨[], List.Sublist.refl _, ⟨rfl, rfl⟩⟩
  | none :: s, _, F, 0, ⟨o, r, e, t⟩ => by rw [e]; exact ⟨F, List.Sublist.refl _, ⟨none, r, rfl, t⟩⟩
  | some x :: s, _, _, 0, ⟨v, r, F1, F2, e, eF, h, t⟩ => by rw [e, eF]; exact ⟨F2, List.sublist_append_right _ _, ⟨none, r, rfl, t⟩⟩
  | none :: s, _, F, i + 1, ⟨o, r, e, t⟩ => by
    obtain ⟨F', h1, h2⟩ := RS.blank i t
    rw [e]
    exact ⟨F', h1, ⟨o, _, rfl, h2⟩⟩
  | some x :: s, _, _, i + 1, ⟨v, r, F1, F2, e, eF, h, t⟩ => by
    obtain ⟨F', h1, h2⟩ := RS.blank i t
    rw [e, eF]
    exact ⟨F1 ++ F', List.Sublist.append_left h1 F1, ⟨v, _, F1, F', rfl, rfl, h, h2⟩⟩
theorem Sta.blank {w : Wd} {Fs : List Addr} {σd : SL} {hd : HS} (S : Sta c w Fs σd hd σ H) (i : Nat) : ∃ Fs', Sta c w Fs' (σd.set i none) hd (σ.set i none) H ∧ Ext (full w Fs) H (full w Fs') H := by
  obtain ⟨F', h1, h2⟩ := RS.blank i S.s
  exact ⟨F', ⟨h2, S.h, S.ok.less (List.Sublist.append_right h1 _)⟩, Ext.sub fun a ha => (List.mem_append.mp ha).elim (fun q => List.mem_append_left _ (h1.subset q)) (fun q => List.mem_append_right _ q)⟩
theorem endR_ok {W' : WX} {i : Option Nat} {w0 : Wd} {r : RS'} (p : SPo c W w0 H D (endR i r)) : SPo c W' w0 H (endAt i D) r := by
  cases r with
  | rt u h => cases i <;> exact p
  | ex e σ h => exact p.elim
  | bad => exact p.elim
  | nx σd h =>
    cases i with
    | none => exact p
    | some i => exact fun w' Fs' σ' H' e S => let ⟨F2, S2, x2⟩ := S.blank i; p w' F2 _ H' (e.trans S.ok x2) S2
  | bk σd h =>
    cases i with
    | none => exact p
    | some i => exact fun w' Fs' σ' H' e S => let ⟨F2, S2, x2⟩ := S.blank i; p w' F2 _ H' (e.trans S.ok x2) S2
  | ct σd h =>
    cases i with
    | none => exact p
    | some i => exact fun w' Fs' σ' H' e S => let ⟨F2, S2, x2⟩ := S.blank i; p w' F2 _ H' (e.trans S.ok x2) S2
/-- the exception in hand -/
theorem Sta.caught {w : Wd} {Fs : List Addr} {σd : SL} {hd : HS} {e : Exn} {cls : Value} {dx : Option Addr} {a : Addr} (S : Sta c w Fs σd hd σ H) (rx : RX c w.Z H e cls dx) (na : H a = none) (i : Option Nat) :
    ∃ w2 Fs2, Ext (full w Fs) H (full w2 Fs2) (upd H a (MM.caught a cls dx)) ∧ Sta c w2 Fs2 (putR i e σd) hd (putAt i (.ref a) σ) (upd H a (MM.caught a cls dx)) := by
  obtain ⟨Ca, d, gs, rfl, hm, rfl, zd, ed, r⟩ := rx
  let H2 := upd H a (MM.caught a (.ref Ca) (some d))
  have kp : ∀ b o, H b = some o → H2 b = some o := fun b o h => upd_keep na b o h
  have th : ∀ b, H b ≠ none → H2 b ≠ none := fun b h => upd_there b h
  have nF : ∀ b ∈ Fs ++ w.F, b ≠ a := fun b hb => fun q => S.ok.trF b hb (by rw [q]; exact na)
  let w2 : Wd := ⟨w.ρ, fun b => w.Z b ∨ b = a, w.F⟩
  have hz : ∀ b, w.Z b → w2.Z b := fun b z => .inl z
  have ok2 : WOk (full w2 Fs) H2 := ⟨S.ok.nd, fun b hb z => by
      rcases z with z | z
      · exact S.ok.sep b hb z
      · exact nF b hb z, fun b hb => th b (S.ok.trF b hb), fun b z => by
      rcases z with z | z
      · exact th b (S.ok.trZ b z)
      · rw [z]; show upd H a _ a ≠ none; rw [upd_same]; exact fun q => nomatch q⟩
  have S2 : Sta c w2 Fs σd hd σ H2 := ⟨RS.mono (fun _ _ q => q) hz (fun b o _ q => kp b o q) (fun b _ o q => kp b o q) S.s, RHl.mono (fun _ _ q => q) hz (fun b o _ q => kp b o q) (fun b _ o q => kp b o q) S.h, ok2⟩
  have x2 : Ext (full w Fs) H (full w2 Fs) H2 := ⟨fun _ _ q => q, hz, fun b o q _ => kp b o q, fun b q => by
    rcases q with (q | q) | q
    · exact .inl q
    · exact .inr (.inr (by rw [q]; exact na))
    · exact .inr (.inl q), th⟩
  cases i with
  | none => exact ⟨w2, Fs, x2, S2⟩
  | some i =>
    have rd : RU c w2.Z H2 w2.ρ (.d (.exn e.cls e.fs)) (.ref a) [] := ⟨rfl, a, d, Ca, gs, rfl, hm, .inr rfl, upd_same, .inl zd, kp _ _ ed, RDf.mono hz (fun b o _ q => kp b o q) r⟩
    obtain ⟨F3, S3, x3⟩ := S2.put (i := i) (Fv := []) (by rw [fullv_nil]; exact ok2) rd
    rw [fullv_nil] at x3
    exact ⟨w2, F3, x2.trans ok2 x3, S3⟩
/-- the clauses' suites -/
inductive ClM (c : Cg) (K : PySem.W.Frag) : List ((Str → Option Bool) × Option Nat × MS) → List (Value × Option Nat × TS) → Prop
  | nil : ClM c K [] []
  | cons {k : Str → Option Bool} {i : Option Nat} {m : MS} {v : Value} {W' : WX} {r : List ((Str → Option Bool) × Option Nat × MS)} {l : List (Value × Option Nat × TS)} (hk : ∀ C Ca b, c.mg C = some (.ref Ca) → k C = some b → PySem.W.exmOne K (.ref Ca) v = some b) (t : ClM c K r l) :
      ClM c K ((k, i, m) :: r) ((v, i, tS c W' m) :: l)
theorem catch_ok {K : PySem.W.Frag} {e : Exn} {cls : Value} {dx : Option Addr} {w : Wd} {Fs : List Addr} {hd : HS} {σd : SL} : ∀ {cl : List ((Str → Option Bool) × Option Nat × MS)} {l : List (Value × Option Nat × TS)}, ClM c K cl l → Sta c w Fs σd hd σ H → RX c w.Z H e cls dx →
    SPo c W (full w Fs) H D (catchM e cl σd hd) → wCl K W D l cls dx σ H
  | _, _, .nil, S, rx, p => p w Fs σ H cls dx Ext.refl S rx
  | _, _, .cons (k := k) (i := i) (m := m) hk t, S, rx, p => by
    obtain ⟨Ca, d, gs, e1, hm, e2, _⟩ := id rx
    unfold catchM at p
    cases q : k e.cls with
    | none => simp only [q] at p; exact p.elim
    | some b =>
      refine ⟨b, by rw [e1]; exact hk _ _ _ hm q, fun hb a na => ?_, fun hb => ?_⟩
      · subst hb
        simp only [q] at p
        obtain ⟨w2, Fs2, x2, S2⟩ := S.caught rx na i
        exact ⟨w2, Fs2, _, hd, S2, endR_ok (SPo.shift x2 S2.ok p)⟩
      · subst hb
        simp only [q] at p
        exact catch_ok t S rx p
theorem s_try {body : List Stmt} {c0 : ExceptHandler} {cr : List ExceptHandler} {l : List (Value × Option Nat × TS)} {pos : Pos} {mb : MS} {cl : List ((Str → Option Bool) × Option Nat × MS)} (hst : X.stack = X.env :: X.outer) (hf : X.env.frame = some X.env.locals) (tk : Takes X W)
    (hb : ∀ (W' : WX) (pn : List (Addr × Obj)) (xe : Value → Shared → Prop), Takes (X.tr pn xe) W' → PassesOwn (model X.prog X.w) X.A X.env xe → PSs (X.tr pn xe) body (tS c W' mb))
    (hc : Cls X (c0 :: cr) l) (hm : ClM c X.K cl l) : PS X (.Try body (c0 :: cr) [] [] pos) (tS c W (sTry mb cl)) :=
  PS.imp (ps_tryN hst hf tk hb hc) fun D σ H ⟨w, Fs, σd, hd, S, p⟩ => ⟨w, Fs, σd, hd, S, by
    unfold sTry at p
    revert p
    cases mb σd hd with
    | ex e σ' h' => exact fun p w' Fs' σ2 H2 cls dx x S2 rx => catch_ok hm S2 rx (SPo.shift x S2.ok p)
    | nx σ' h' => exact fun p => p
    | bk σ' h' => exact fun p => p
    | ct σ' h' => exact fun p => p
    | rt u h' => exact fun p => p
    | bad => exact fun p => p⟩
end

/-! ### e.f -/
def tXfT (K : PySem.W.Frag) (f : Str) (te : TE) : TE := fun σ H Q => te σ H fun x H1 => ∃ (a Ca d : Addr) (gs : List (Str × V)) (v : V), x = .ref a ∧ H1 a = some (caught a (.ref Ca) (some d)) ∧ H1 d = some (.xd gs) ∧ XfC K Ca ∧ PySem.W.findIn K (.ref Ca) f = some none ∧ gs.lookup f = some v ∧ Q v H1
section
variable {X : Cx} {c : Cg} {W : WX} {m : ME} {pu : Bool} {e : Expr} {pos : Pos} {f : Str}
theorem caught_inst {pins : List (Addr × Obj)} {σ : L2.St} {H : Hp} {s : Shared} {a Ca d : Addr} {gs : List (Str × V)} (I : Inv X pins σ H s) (e1 : H a = some (caught a (.ref Ca) (some d))) (e2 : H d = some (.xd gs)) :
    ∃ (ob od : Obj), PySem.W.InstAt s.heap a ob Ca (some od) ∧ ∃ mA : Str → Option Value, (∀ f, PySem.W.lookIn f od = some (mA f)) ∧ ∀ f, RelO (gs.lookup f) (mA f) := by
  obtain ⟨⟨ob, vs, h1, hz, h2⟩, _, _⟩ := I.hok a _ e1
  obtain ⟨mA, hns, hr⟩ := (show ObjOk X.prog X.w H s.heap d (.xd gs) from I.hok d _ e2)
  obtain ⟨od, ho, hl⟩ := lookIn_ns hns
  exact ⟨ob, od, ⟨h1, hz.1, by unfold PySem.W.notCls; rw [h2] <;> rfl, by rw [hz.2]; exact ho⟩, mA, hl, hr⟩
theorem pe_xfT {te : TE} (he : PE X e te) (hb : attributeBase e f X.env (eval e X.env) = eval e X.env := by rfl) : PE X (.Attribute e f pos) (tXfT X.K f te) := by
  refine ⟨fun pins s σ H Q I h => attr_of hb (thn (he.run pins s σ H _ I h) fun u s1 hh => ?_)⟩
  obtain ⟨x, H1, I1, rx, a, Ca, d, gs, v, rfl, e1, e2, T, hno, l, q⟩ := hh
  obtain rfl : u = Value.ref a := rx
  obtain ⟨ob, od, J, mA, hl, hr⟩ := caught_inst I1 e1 e2
  obtain ⟨u, hu, ru⟩ := RelO.some_of (v := v) (o := mA f) (by rw [← l]; exact hr f)
  exact HandSPX.exc_get I1.kIn J T.ga T.gg T.exC (PySem.W.findObj_own T.hdC hno rfl (by rw [hl, hu])) (handed_of ru) ⟨v, H1, I1.tok _, ru, q⟩
def mXf (T : ExT) (f : Str) (m : ME) : ME := fun σ h => bindM (m σ h) fun u h1 => match u with
  | .d (.exn C fs) => if T.fl C f = true then ofO ((fs.lookup f).map .d) h1 else .bad
  | _ => .bad
theorem RDf.look {Z : Addr → Prop} {H : Hp} {f : Str} {d : DV} : ∀ {fs : List (Str × DV)} {gs : List (Str × V)}, RDf c Z H fs gs → fs.lookup f = some d → ∃ v, gs.lookup f = some v ∧ RD c Z H d v
  | [], _, _, e => by cases e
  | (g, x) :: fs, _, ⟨v, r, e1, h, t⟩, e => by
    rw [e1]
    rw [List.lookup_cons] at e ⊢
    cases q : f == g with
    | true => rw [q] at e; cases e; exact ⟨v, rfl, h⟩
    | false => rw [q] at e; exact t.look e
theorem e_xf {T : ExT} (hT : ExOk X.K X.mg T) (hm : c.mg = X.mg) (he : PE X e (tV pu .C c W m)) (hb : attributeBase e f X.env (eval e X.env) = eval e X.env := by rfl) : PE X (.Attribute e f pos) (tV pu .E c W (mXf T f m)) :=
  PE.imp (pe_xfT he hb) fun σ H Q ⟨w, Fs, σd, hd, S, p⟩ => step1 (md := .C) S p fun u h1 w1 H1 x Fx S1 mo ru p1 => by
    split at p1
    · rename_i C fs
      split at p1
      · rename_i hf
        cases q : fs.lookup f with
        | none => rw [q] at p1; exact p1.elim
        | some d =>
          rw [q] at p1
          obtain ⟨_, a, dd, Ca, gs, rfl, hC, _, e1, _, e2, r⟩ := ru
          obtain ⟨v, l, rd⟩ := r.look q
          obtain ⟨h1, h2⟩ := hT.f C Ca f (by rw [← hm]; exact hC) hf
          exact ⟨a, Ca, dd, gs, v, rfl, e1, e2, h1, h2, l, fin_d p1 S1.wok S1.h rd⟩
      · exact p1.elim
    · exact p1.elim
end

/-! ### isinstance(e, C) -/
def rIsX (K : PySem.W.Frag) : List V → Hp → VK → Prop := fun xs H Q => ∃ (a Ca d : Addr) (gs : List (Str × V)) (cv : V) (u : Value) (b : Bool), xs = [.ref a, cv] ∧ ClsV cv u ∧ H a = some (caught a (.ref Ca) (some d)) ∧ H d = some (.xd gs) ∧ ExcC K Ca ∧ PySem.W.kitOne K (.ref Ca) u = some b ∧ Q (.bl b) H
section
variable {X : Cx} {c : Cg}
theorem call_isX : CallR X (.builtin "isinstance") (rIsX X.K) := by
  intro pins s σ H xs us Q I r h
  obtain ⟨a, Ca, d, gs, cv, u, b, rfl, k, e1, e2, C, e, q⟩ := h
  obtain ⟨u1, u2, rfl, r1, r2⟩ := vals2 r
  cases (show u1 = Value.ref a from r1)
  cases k.eq r2
  obtain ⟨ob, od, J, _⟩ := caught_inst I e1 e2
  have hcl : (PySem.W.clsIn X.K Ca).isSome = true := by
    obtain ⟨cd, hc, _⟩ := PySem.W.any_some C.hd
    rw [hc]
    rfl
  exact PySem.W.kia_one (PySem.W.kitx_exc hcl C.hg C.hk C.hs C.ha C.hn C.ht C.hm) I.kIn J e (fun z => nomatch z) fun tk => ⟨.bl b, H, I.tok tk, rfl, q⟩
def fIsX (T : ExT) : HS → UV → UV → Option UV := fun h u v => match u, v with
  | .d (.exn C _), .d (.glo x) => (T.sg C x).map fun b => .d (.bl b)
  | .d (.exn C _), .d (.ty n) => (T.st C n).map fun b => .d (.bl b)
  | u, v => fIsi h u v
theorem fIsX_ok {T : ExT} (hT : ExOk c.K c.mg T) : OpS c (fun x y H Q => rIsi c.K [x, y] H Q ∨ rIsX c.K [x, y] H Q) (fIsX T) := fun pu W σ w H h u u' x y Fx Fy z Q ok hh ru ru' e p => by
  unfold fIsX at e
  split at e
  · rename_i C fs x
    rw [Option.map_eq_some_iff] at e
    obtain ⟨b, e, rfl⟩ := e
    obtain ⟨_, a, d, Ca, gs, rfl, hC, _, e1, _, e2, r⟩ := ru
    obtain ⟨_, Da, rfl, hD⟩ := ru'
    obtain ⟨_, h2, h3⟩ := hT.g C Ca x Da b hC hD e
    exact .inr ⟨a, Ca, d, gs, .ref Da, .ref Da, b, rfl, .own Da, e1, e2, h3, h2, fin_d p ok hh rfl⟩
  · rename_i C fs n
    rw [Option.map_eq_some_iff] at e
    obtain ⟨b, e, rfl⟩ := e
    obtain ⟨_, a, d, Ca, gs, rfl, hC, _, e1, _, e2, r⟩ := ru
    rw [show y = _ from ru'.2]
    obtain ⟨_, h2, h3⟩ := hT.t C Ca n b hC e
    exact .inr ⟨a, Ca, d, gs, .ty n, .type n, b, rfl, .ty n, e1, e2, h3, h2, fin_d p ok hh rfl⟩
  · exact .inl (fIsi_ok pu W σ w H h _ _ x y Fx Fy z Q ok hh ru ru' e p)
end
end MM

/-! MM17: raise C(e, ..), C's own __init__ saying Base.__init__(self, ..) and storing its parameters. -/
namespace MM
open PySem PySem.Spec PyProof.Rows L2

/-- what the base class must say: Base.__init__ is ValueError's -/
structure IniB (K : PySem.W.Frag) (L : Addr) : Prop where
  hg : PySem.W.specialIn K (.ref L) "__getattribute__" = some (some (.builtin "type.__getattribute__"))
  hr : PySem.W.readsIn K L (.type "type") = true
  hi : PySem.W.findCls K (.ref L) (.type "type") "__init__" = some (.val (.builtin "ValueError.__init__"))
section
variable {X : Cx} {e : Expr} {es : List Expr} {ta : TA} {L : Str} {La : Addr} {p1 p2 pos : Pos}
/-- Base.__init__(self, ..) -/
theorem pe_binit {pl : Sem Bool} (B : IniB X.K La) (hg : Gl X L) (hm : X.mg L = some (.ref La)) (ha : PA X (e :: es) ta) (hdb : (L == ("__debug__" : Str)) = false := by decide)
    (hc : eval (.Call (.Attribute (.Name L p1) "__init__" p2) (e :: es) [] pos) X.env = (do
      let u ← eval (.Name L p1) X.env
      standAt p2.atName
      let (g, fst) ← holding [u] (getMethod u "__init__" pl)
      callWith pos g fst (backTo pos (starEach (e :: es) X.env)) (backToKw pos (keywordEach [] X.env))) := by rfl)
    (he : starEach (e :: es) X.env = (false, eval e X.env) :: starEach es X.env := by rfl) (hpl : (backTo pos (starEach es X.env)).any (·.1) = false := by rfl) :
    PE X (.Call (.Attribute (.Name L p1) "__init__" p2) (e :: es) [] pos) (tVeI X.K ta) := by
  refine ⟨fun pins s σ H Q I h => PySem.W.methodCall_KW (ld_glob I hg hm ?_ hdb) hc⟩
  refine PySem.W.method_cls I.kIn B.hg (PySem.W.cls_value I.kIn B.hr B.hi (by decide +kernel) ?_)
  show wpAny _ _ (callWith pos (Value.builtin "ValueError.__init__") [] (backTo pos (starEach (e :: es) X.env)) []) _ _ _
  refine PyProof.Rows.callWith_method1 (thn (ha.run pos pins _ σ H _ (I.tok _) h) fun us s1 q => ?_) he hpl
  obtain ⟨vs, H1, I1, r1, a, C, ws, rfl, hl, T, ea, q⟩ := q
  cases r1 with
  | @cons _ u0 _ ur ra rw' =>
    obtain rfl : u0 = Value.ref a := ra
    exact oinit_ok T I1 ea (by rw [← Paired.length rw', sizeLine_eq]; omega) fun s' J => ⟨.non, H1, J, rfl, q⟩
end
/-- the promise of such an __init__: the fields fs, in the order of the parameters -/
def spIni (C : Addr) (fs : List Str) : Sp := fun vs H Q E => ∃ a ys, vs = .ref a :: ys ∧ ys.length = fs.length ∧ H a = some (exo a C none) ∧
  ∀ d H', H d = none → d ≠ a → H' a = some (exo a C (some d)) → H' d = some (exd d (fs.zip ys).reverse) → (∀ b, b ≠ a → b ≠ d → H' b = H b) → Q .non H'
section
variable {P : Program} {w : World} {K : PySem.W.Frag} {mg : Str → Option Value} {base : Heap} {qual : Str} {st : Stmt} {fa C La : Addr} {fd : FuncData} {N : List Str} {k : Nat}
theorem ini1 {x f m : Str} {j : Nat} {p1 p2 p3 p4 p5 p6 q1 q2 q3 q4 : Pos} (F : Fun K "__init__" qual st fa fd) (hN : N = [("self" : Str), x]) (S : FnScope N N (defScope st)) (T : OexC K C) (B : IniB K La) (hno : PySem.W.findIn K (.ref C) f = some none)
    (hb : defBody st = [.Expr (.Call (.Attribute (.Name "LiftedError" p1) "__init__" p2) [.Name "self" p3, .Constant (.str m) j p4] [] p5) p6, .Assign [.Attribute (.Name "self" q1) f q2] (.Name x q3) q4])
    (hc : ∀ env : Env, ∃ pl : Sem Bool, eval (.Call (.Attribute (.Name "LiftedError" p1) "__init__" p2) [.Name "self" p3, .Constant (.str m) j p4] [] p5) env = (do
      let u ← eval (.Name "LiftedError" p1) env
      standAt p2.atName
      let (g, fst) ← holding [u] (getMethod u "__init__" pl)
      callWith p5 g fst (backTo p5 (starEach [.Name "self" p3, .Constant (.str m) j p4] env)) (backToKw p5 (keywordEach [] env))))
    (hL : (defScope st).names.lookup ("LiftedError" : Str) = some .globalImplicit) (hm : mg ("LiftedError" : Str) = some (.ref La)) (hs : (defScope st).names.lookup ("self" : Str) = some .local) (hxs : (defScope st).names.lookup x = some .local)
    (d4 : (x == ("__debug__" : Str)) = false := by decide) (d5 : (x == ("__classdict__" : Str)) = false := by decide) :
    FnOk P w K mg base (L2.CX P w) (k + 1) fa fd N (spIni C [f]) := by
  subst hN
  refine F.okX S (fun vs H Q E ⟨a, ys, e, l, _⟩ => by rw [e, List.length_cons, l]; rfl) fun cdv A outer s H vs Q E hr h => ?_
  rw [hb]
  obtain ⟨pl, hc⟩ := hc (cxOf (L2.CX P w) P w K mg base _ qual (defScope st) fa cdv A outer s H E).env
  refine ⟨_, pss_cons (ps_expr (pe_binit B hL hm (pa_cons (pe_var (i := 0) rfl (.inl hs) (by decide) (by decide)) (pa_cons pe_str pa_nil)) (by decide) hc) ?_) (pss_one (ps_ost (pe_var (i := 0) rfl (.inl hs) (by decide) (by decide)) (pe_var (i := 1) rfl (.inl hxs) d4 d5))), ?_⟩
  · rfl
  obtain ⟨a, ys, rfl, hl, ha, q⟩ := h
  match ys, hl with
  | [y], _ =>
    refine ⟨.ref a, rfl, a, C, [.str m], rfl, (by show 1 ≤ 1000; decide), T, ha, y, rfl, .ref a, rfl, a, C, rfl, T, hno, .inl ⟨ha, fun dx n ne => ?_⟩⟩
    exact q dx _ n ne upd_same (by rw [upd_ne ne, upd_same]; rfl) fun b h1 h2 => by rw [upd_ne h1, upd_ne h2]
theorem ini2 {x y f g m : Str} {j : Nat} {p1 p2 p3 p4 p5 p6 q1 q2 q3 q4 r1 r2 r3 r4 : Pos} (F : Fun K "__init__" qual st fa fd) (hN : N = [("self" : Str), x, y]) (S : FnScope N N (defScope st)) (T : OexC K C) (B : IniB K La) (hno : PySem.W.findIn K (.ref C) f = some none) (hno2 : PySem.W.findIn K (.ref C) g = some none)
    (hb : defBody st = [.Expr (.Call (.Attribute (.Name "LiftedError" p1) "__init__" p2) [.Name "self" p3, .Constant (.str m) j p4] [] p5) p6, .Assign [.Attribute (.Name "self" q1) f q2] (.Name x q3) q4, .Assign [.Attribute (.Name "self" r1) g r2] (.Name y r3) r4])
    (hc : ∀ env : Env, ∃ pl : Sem Bool, eval (.Call (.Attribute (.Name "LiftedError" p1) "__init__" p2) [.Name "self" p3, .Constant (.str m) j p4] [] p5) env = (do
      let u ← eval (.Name "LiftedError" p1) env
      standAt p2.atName
      let (g, fst) ← holding [u] (getMethod u "__init__" pl)
      callWith p5 g fst (backTo p5 (starEach [.Name "self" p3, .Constant (.str m) j p4] env)) (backToKw p5 (keywordEach [] env))))
    (hL : (defScope st).names.lookup ("LiftedError" : Str) = some .globalImplicit) (hm : mg ("LiftedError" : Str) = some (.ref La)) (hs : (defScope st).names.lookup ("self" : Str) = some .local) (hxs : (defScope st).names.lookup x = some .local) (hys : (defScope st).names.lookup y = some .local)
    (d4 : (x == ("__debug__" : Str)) = false := by decide) (d5 : (x == ("__classdict__" : Str)) = false := by decide) (d6 : (y == ("__debug__" : Str)) = false := by decide) (d7 : (y == ("__classdict__" : Str)) = false := by decide) :
    FnOk P w K mg base (L2.CX P w) (k + 1) fa fd N (spIni C [f, g]) := by
  subst hN
  refine F.okX S (fun vs H Q E ⟨a, ys, e, l, _⟩ => by rw [e, List.length_cons, l]; rfl) fun cdv A outer s H vs Q E hr h => ?_
  rw [hb]
  obtain ⟨pl, hc⟩ := hc (cxOf (L2.CX P w) P w K mg base _ qual (defScope st) fa cdv A outer s H E).env
  refine ⟨_, pss_cons (ps_expr (pe_binit B hL hm (pa_cons (pe_var (i := 0) rfl (.inl hs) (by decide) (by decide)) (pa_cons pe_str pa_nil)) (by decide) hc) ?_) (pss_cons (ps_ost (pe_var (i := 0) rfl (.inl hs) (by decide) (by decide)) (pe_var (i := 1) rfl (.inl hxs) d4 d5)) (pss_one (ps_ost (pe_var (i := 0) rfl (.inl hs) (by decide) (by decide)) (pe_var (i := 2) rfl (.inl hys) d6 d7)))), ?_⟩
  · rfl
  obtain ⟨a, ys, rfl, hl, ha, q⟩ := h
  match ys, hl with
  | [u, v], _ =>
    refine ⟨.ref a, rfl, a, C, [.str m], rfl, (by show 1 ≤ 1000; decide), T, ha, u, rfl, .ref a, rfl, a, C, rfl, T, hno, .inl ⟨ha, fun dx n ne => ?_⟩⟩
    refine ⟨v, rfl, .ref a, rfl, a, C, rfl, T, hno2, .inr ⟨dx, [(f, u)], upd_same, by rw [upd_ne ne, upd_same], (by show 1 ≤ 900; decide), ?_⟩⟩
    exact q dx _ n ne (by rw [upd_ne (Ne.symm ne), upd_same]) (by rw [upd_same]; rfl) fun b h1 h2 => by rw [upd_ne h2, upd_ne h1, upd_ne h2]
end

/-! ### raise -/
def uDs (us : List UV) : Option (List DV) := mapO uD us
def sRaise (C : Str) (fs : List Str) (ms : MAs) : MS := fun σ h => match ms σ h with
  | .ok us h1 => match uDs us with
    | some ds => .ex ⟨C, (fs.zip ds).reverse⟩ σ h1
    | none => .bad
  | .err e h1 => .ex e σ h1
  | .bad => .bad
section
variable {X : Cx} {c : Cg} {W : WX} {ms : MAs} {σ : L2.St} {H : Hp} {e : Expr} {es : List Expr} {x : Str} {p pos pos2 : Pos} {C fI : Addr} {k : Nat} {fd : FuncData} {ps fs : List Str}
theorem RDf.snoc {Z : Addr → Prop} {H : Hp} {f : Str} {d : DV} {v : V} (r : RD c Z H d v) : ∀ {fs : List (Str × DV)} {gs : List (Str × V)}, RDf c Z H fs gs → RDf c Z H (fs ++ [(f, d)]) (gs ++ [(f, v)])
  | [], _, t => by rw [show _ = [] from t]; exact ⟨v, [], rfl, r, rfl⟩
  | (_, _) :: _, _, ⟨v', r', e, h, t⟩ => by rw [e]; exact ⟨v', r' ++ [(f, v)], rfl, h, t.snoc r⟩
theorem RDf.zipR {Z : Addr → Prop} {H : Hp} : ∀ {fs : List Str} {ds : List DV} {vs : List V}, RDl c Z H ds vs → RDf c Z H (fs.zip ds).reverse (fs.zip vs).reverse
  | [], _, _, _ => by rw [List.zip_nil_left, List.zip_nil_left]; rfl
  | _ :: _, [], _, t => by rw [show _ = [] from t, List.zip_nil_right, List.zip_nil_right]; rfl
  | f :: fs, d :: ds, _, ⟨v, r, e, h, t⟩ => by
    rw [e, List.zip_cons_cons, List.zip_cons_cons, List.reverse_cons, List.reverse_cons]
    exact RDf.snoc h (RDf.zipR t)
theorem s_raise {a : Expr} {as : List Expr} (hcalm : X.calm = true) (tk : Takes X W) (hmg : c.mg = X.mg) (T : OexC X.K C) (iC : PySem.W.findIn X.K (.ref C) "__init__" = some (some (.ref fI))) (tI : PySem.W.typeIn X.K (.ref fI) = some (.type "function"))
    (F1 : FnOk X.prog X.w X.K X.mg X.base (L2.CX X.prog X.w) k fI fd ps (spIni C fs)) (hr : Room (k + 1) X.A) (hb : Binds X.K fd ps []) (hg : Gl X x) (hm : X.mg x = some (.ref C)) (ha : PA X (a :: as) (tAs false c W ms)) (hn : ArgN ms fs.length)
    (hlen : fs.length ≤ 1000 := by decide) (hdb : (x == ("__debug__" : Str)) = false := by decide) (he : starEach (a :: as) X.env = (false, eval a X.env) :: starEach as X.env := by rfl) (hpl : (backTo pos (starEach as X.env)).any (·.1) = false := by rfl) :
    PS X (.Raise (some (.Call (.Name x p) (a :: as) [] pos)) none pos2) (tS c W (sRaise x fs ms)) :=
  PS.imp (ps_raise hcalm tk (pmk_oex T iC tI F1 hr hb .nil (fun _ _ _ _ _ _ _ ⟨_, _, _, _, _, _, _, _, _, _, _, _, q⟩ => q.elim) hg hm ha hdb he hpl)) fun D σ H ⟨w, Fs, σd, hd, S, p⟩ => by
    refine ⟨w, Fs, σd, hd, S, ?_⟩
    unfold sRaise at p
    have hn' := hn σd hd
    revert p hn'
    cases ms σd hd with
    | err e h1 => exact fun p _ w' H' cls dx e' ok' rh rx => p w' Fs σ H' cls dx (e'.full Fs) (S.ext e' ok' rh) rx
    | bad => exact fun p _ => p
    | ok us h1 =>
      intro p hn' w1 H1 vs Fv mo pp rh ru
      have p : SPo c W (full w Fs) H D (match uDs us with
        | some ds => .ex ⟨x, (fs.zip ds).reverse⟩ σd h1
        | none => .bad) := p
      cases q : uDs us with
      | none => rw [q] at p; exact p.elim
      | some ds =>
        rw [q] at p
        have rd := uDs_ok q ru
        have hl : vs.length = fs.length := by rw [ru.length]; exact hn' us h1 rfl
        refine ⟨by rw [hl]; exact hlen, fun b nb => ⟨b, vs, by rw [List.append_nil], hl, upd_same, fun d H' nd ne e1 e2 e3 => ⟨rfl, d, (fs.zip vs).reverse, e1, e2, by rw [upd_ne ne] at nd; exact nd, ?_⟩⟩⟩
        have nd1 : H1 d = none := by rw [upd_ne ne] at nd; exact nd
        have eH : upd (del H' b) d (.xd (fs.zip vs).reverse) = upd H1 d (.xd (fs.zip vs).reverse) := by
          funext z
          by_cases hz : z = d
          · rw [hz, upd_same, upd_same]
          · rw [upd_ne hz, upd_ne hz]
            by_cases hzb : z = b
            · rw [hzb, del_same, nb]
            · rw [del_ne hzb, e3 z hzb hz, upd_ne hzb]
        rw [eH]
        have S1 := S.ext mo.ext.1 mo.ext.2 rh
        obtain ⟨x2, ok2⟩ := ext_tup (o := .xd (fs.zip vs).reverse) nd1 S1.ok
        let w2 : Wd := ⟨w1.ρ, fun z => w1.Z z ∨ z = d, w1.F⟩
        have hz : ∀ z, w1.Z z → w2.Z z := fun z q => .inl q
        have S2 : Sta c w2 Fs σd h1 σ (upd H1 d (.xd (fs.zip vs).reverse)) := ⟨RS.mono (fun _ _ q => q) hz (fun z o _ q => upd_keep nd1 z o q) (fun z _ o q => upd_keep nd1 z o q) S1.s, RH_updZ nd1 S1.h, ok2⟩
        exact p w2 Fs σ _ (.ref C) (some d) ((mo.ext.1.full Fs).trans S1.ok x2) S2 ⟨C, d, _, rfl, by rw [hmg]; exact hm, rfl, .inr rfl, upd_same, RDf.mono hz (fun z o _ q => upd_keep nd1 z o q) (RDf.zipR rd)⟩
end
end MM

/-! MM18: lambdas without parameters handed to defs: a closure is a value, its caught cells are tracked while it is abroad. -/
namespace MM
open PySem PySem.Spec PyProof.Rows L2
open Classical in
/-- without what T tells -/
noncomputable def drT (T : Addr → Prop) (H : Hp) : Hp := fun b => if T b then none else H b
open Classical in
/-- what T tells as in H, the rest as in H' -/
noncomputable def reT (T : Addr → Prop) (H H' : Hp) : Hp := fun b => if T b then H b else H' b
section
variable {T : Addr → Prop} {H H' : Hp} {b : Addr}
theorem drT_in (h : T b) : drT T H b = none := by unfold drT; rw [if_pos h]
theorem drT_out (h : ¬ T b) : drT T H b = H b := by unfold drT; rw [if_neg h]
theorem drT_some {o : HO} (h : drT T H b = some o) : ¬ T b ∧ H b = some o := by
  by_cases q : T b
  · rw [drT_in q] at h; cases h
  · rw [drT_out q] at h; exact ⟨q, h⟩
theorem reT_in (h : T b) : reT T H H' b = H b := by unfold reT; rw [if_pos h]
theorem reT_out (h : ¬ T b) : reT T H H' b = H' b := by unfold reT; rw [if_neg h]
end
/-- T tells tracked cells -/
def TCel (T : Addr → Prop) (H : Hp) : Prop := ∀ b, T b → ∃ o, H b = some (CelO b o)
section
variable {P : Program} {w : World} {T : Addr → Prop} {H H' : Hp} {h h' B : Heap} {fs : List Addr}
theorem hok_dr (x : HOk P w H h) (t : TCel T H) : HOk P w (drT T H) h := fun b u e => by
  obtain ⟨_, e⟩ := drT_some e
  refine (x b u e).stay (fun _ _ _ q => q) (fun c q => ?_) fun c xs q => ?_
  · rw [drT_out fun z => ?_]
    · exact q
    · obtain ⟨o, q2⟩ := t c z; rw [q] at q2; cases q2
  · rw [drT_out fun z => ?_]
    · exact q
    · obtain ⟨o, q2⟩ := t c z; rw [q] at q2; cases q2
theorem hok_re (x : HOk P w H' h') (t : TCel T H) (gone : ∀ b, T b → H' b = none) (kp : ∀ b o, T b → H b = some (CelO b o) → h'.get? b = some o) : HOk P w (reT T H H') h' := fun b u e => by
  by_cases q : T b
  · rw [reT_in q] at e
    obtain ⟨o, e2⟩ := t b q
    rw [e2] at e
    cases e
    exact ⟨kp b o q e2, o, kp b o q e2⟩
  · rw [reT_out q] at e
    refine (x b u e).stay (fun _ _ _ z => z) (fun c z => ?_) fun c xs z => ?_
    · rw [reT_out fun y => by rw [gone c y] at z; cases z]; exact z
    · rw [reT_out fun y => by rw [gone c y] at z; cases z]; exact z
/-- a call at the heap without T, seen with T -/
theorem un_re (u : Un fs [] (drT T H) H' h h') (x : HOk P w H h) (t : TCel T H) (nf : ∀ b, T b → b ∉ fs) : Un fs [] H (reT T H H') h h' ∧ (∀ b, T b → H' b = none) ∧ ∀ b o, T b → H b = some (CelO b o) → h'.get? b = some o := by
  have at_ : ∀ b o, T b → H b = some (CelO b o) → h.get? b = some o := fun b o _ e => (x b _ e).1
  have gone : ∀ b, T b → H' b = none := fun b q => by
    obtain ⟨o, e⟩ := t b q
    exact u.free b o (at_ b o q e) (drT_in q) (by simp)
  have nT : ∀ {b}, H b = none → ¬ T b := fun {b} n q => by
    obtain ⟨o, e⟩ := t b q
    rw [n] at e; cases e
  refine ⟨⟨fun b o e n f g => u.keep b o e (by rw [drT_out (nT n)]; exact n) f g, fun b o e n f g => u.slot b o e (by rw [drT_out (nT n)]; exact n) f g, fun b o e n g => ?_, u.there, fun b xs e => ?_, fun b o v e => ?_, fun b ps e => ?_⟩, gone, fun b o q e => u.keep b o (at_ b o q e) (drT_in q) (nf b q) (by simp)⟩
  · rw [reT_out (nT n)]
    exact u.free b o e (by rw [drT_out (nT n)]; exact n) g
  · have nt : ¬ T b := fun q => by obtain ⟨o, e2⟩ := t b q; rw [e] at e2; cases e2
    rw [reT_out nt]
    exact u.tups b xs (by rw [drT_out nt]; exact e)
  · by_cases q : T b
    · rw [reT_in q]; exact e
    · rw [reT_out q]
      exact u.frzs b o v (by rw [drT_out q]; exact e)
  · have nt : ¬ T b := fun q => by obtain ⟨o, e2⟩ := t b q; rw [e] at e2; cases e2
    rw [reT_out nt]
    exact u.tbls b ps (by rw [drT_out nt]; exact e)
theorem ub_re (u : UB fs (drT T H) H' h B h') (x : HOk P w H h) (t : TCel T H) (nf : ∀ b, T b → b ∉ fs) : UB fs H (reT T H H') h B h' ∧ (∀ b, T b → H' b = none) ∧ ∀ b o, T b → H b = some (CelO b o) → B.get? b = some o := by
  have at_ : ∀ b o, T b → H b = some (CelO b o) → h.get? b = some o := fun b o _ e => (x b _ e).1
  have gone : ∀ b, T b → H' b = none := fun b q => by
    obtain ⟨o, e⟩ := t b q
    exact u.free b o (at_ b o q e) (drT_in q)
  have nT : ∀ {b}, H b = none → ¬ T b := fun {b} n q => by
    obtain ⟨o, e⟩ := t b q
    rw [n] at e; cases e
  refine ⟨⟨fun b o e n f => u.keep b o e (by rw [drT_out (nT n)]; exact n) f, u.slot, fun b o e n => ?_, u.there, fun b xs e => ?_, fun b o v e => ?_, fun b ps e => ?_⟩, gone, fun b o q e => u.keep b o (at_ b o q e) (drT_in q) (nf b q)⟩
  · rw [reT_out (nT n)]
    exact u.free b o e (by rw [drT_out (nT n)]; exact n)
  · have nt : ¬ T b := fun q => by obtain ⟨o, e2⟩ := t b q; rw [e] at e2; cases e2
    rw [reT_out nt]
    exact u.tups b xs (by rw [drT_out nt]; exact e)
  · by_cases q : T b
    · rw [reT_in q]; exact e
    · rw [reT_out q]
      exact u.frzs b o v (by rw [drT_out q]; exact e)
  · have nt : ¬ T b := fun q => by obtain ⟨o, e2⟩ := t b q; rw [e] at e2; cases e2
    rw [reT_out nt]
    exact u.tbls b ps (by rw [drT_out nt]; exact e)
end

/-! ### a closure's run -/
/-- what its text must be like -/
structure CloS (J : CloI) : Prop where
  kind : J.scope.kind = .function
  co : J.scope.isCoroutine = false
  gen : J.scope.isGenerator = false
  own : ∀ y ∈ J.scope.names, y.2 ≠ .local ∧ y.2 ≠ .cell
  free : ∀ y ∈ J.scope.names, y.2 = .free → y.1 ∈ J.caps
  frk : ∀ y ∈ J.caps, J.scope.names.lookup y = some .free
  nd : J.caps.Nodup
  bind : ∀ (cl : List (Str × Addr)) (pm cv ctv : Value), bindArgs (PySem.W.kla_fn "<lambda>" J.qual J.params J.body J.scope cl pm cv ctv) ⟨[], []⟩ = pure []
abbrev cloEnv (J : CloI) (L f c' : Addr) (cl : List (Str × Addr)) : Env := PySem.W.envX J.qual J.scope L f (.ref c') cl
def cloCx (P : Program) (w : World) (K : PySem.W.Frag) (mg : Str → Option Value) (base : Heap) (J : CloI) (f c' : Addr) (cl : List (Str × Addr)) (A : Around) (outer : List Env) (s : Shared) (H : Hp) (E : XK) : Cx where
  prog := P
  w := w
  K := K
  mg := mg
  base := base
  A := A.deeper (cloEnv J s.heap.objs.size f c' cl)
  N := J.caps
  s_0 := s
  H_0 := H
  env := cloEnv J s.heap.objs.size f c' cl
  outer := outer
  stack := cloEnv J s.heap.objs.size f c' cl :: outer
  ex := []
  fn := fun _ => false
  calm := true
  pn := []
  xe := fun e s' => wpAny (model P w) (A.deeper (cloEnv J s.heap.objs.size f c' cl)) (leaving (cloEnv J s.heap.objs.size f c' cl) e) (fun _ t => L2.CX P w outer H s E e t) (fun e' t => L2.CX P w outer H s E e' t) s'
section
variable {P : Program} {w : World} {K : PySem.W.Frag} {mg : Str → Option Value} {base : Heap} {J : CloI} {f c' : Addr} {cl : List (Str × Addr)} {A : Around} {outer : List Env} {s : Shared} {H : Hp} {Z : Addr → Prop} {vs : List V}
theorem clo_start {E : XK} {h₁ : Heap} {tk : Nat} (S : CloS J) (hd : A.handled = none) (e0 : Env0 P w K mg base A outer s (drT (fun b => ∃ y, cl.lookup y = some b) H)) (x : HOk P w H s.heap) (C : CapA Z H cl J.caps vs) (hns : h₁.Ns s.heap.objs.size fun y => ([] : List (Str × Value)).reverse.lookup y)
    (kp : ∀ b o, s.heap.get? b = some o → h₁.get? b = some o) : Inv (cloCx P w K mg base J f c' cl A outer s (drT (fun b => ∃ y, cl.lookup y = some b) H) E) [] (vs.map some) (drT (fun b => ∃ y, cl.lookup y = some b) H) { s with heap := h₁, toks := tk } := by
  have noA : ∀ b : Addr, b ∉ (cloCx P w K mg base J f c' cl A outer s (drT (fun b => ∃ y, cl.lookup y = some b) H) E).ex := fun b z => nomatch (show b ∈ ([] : List Addr) from z)
  have at_ : ∀ {a o}, H a = some (CelO a o) → h₁.get? a = some o := fun {a o} q => kp _ _ (x a _ q).1
  refine ⟨⟨e0.mod, S.kind, rfl, rfl, Nat.le_refl _, C.inj, fun y hy => ?_, fun y c z _ => ?_, fun _ => hd, Around.frames_deeper e0.frames, .inr ⟨rfl, rfl⟩, fun b z => absurd z (noA b), e0.bs, e0.bsz, fun b _ _ => noA b, fun b z => absurd z (noA b), e0.funs, e0.frf⟩,
    rfl, e0.bare, Un.kept kp, ⟨_, hns, fun i y v e1 e2 e3 => ?_⟩, fun y c e => ?_, e0.hok.fresh (Nat.le_refl _), fun y c e => drT_in ⟨y, e⟩, fun q hq => absurd (show q ∈ ([] : List (Addr × Obj)) ++ [] from hq) (by simp), e0.hok.kept kp, ?_⟩
  · have hy : J.scope.names.lookup y = some .cell ∨ J.scope.names.lookup y = some .free := hy
    rcases hy with hy | hy
    · exact absurd rfl (S.own _ (PySem.mem_of_lookup hy)).2
    · obtain ⟨j, hj⟩ := List.mem_iff_getElem?.mp (S.free _ (PySem.mem_of_lookup hy) rfl)
      have hjv : j < vs.length := by rw [C.len]; exact (List.getElem?_eq_some_iff.mp hj).1
      obtain ⟨a, _, _, q, _⟩ := C.has j y _ hj (List.getElem?_eq_getElem hjv)
      exact ⟨a, q⟩
  · have z : false = true := z
    cases z
  · have e2' : vs[i]? = some v := by
      rw [List.getElem?_map] at e2
      cases q : vs[i]? with
      | none => rw [q] at e2; cases e2
      | some u => rw [q] at e2; cases e2; rfl
    obtain ⟨a, o, u, q1, q2, q3, q4⟩ := C.has i y v e1 e2'
    exact ⟨u, q4, .inr ⟨.inr (S.frk y (List.mem_of_getElem? e1)), a, q1, o, at_ q2, q3⟩⟩
  · obtain ⟨_, o, v, q, hv⟩ := C.all y c e
    exact ⟨v, o, at_ q, hv⟩
  · show (vs.map some).length = J.caps.length
    rw [List.length_map, C.len]
abbrev clT (cl : List (Str × Addr)) : Addr → Prop := fun b => ∃ y, cl.lookup y = some b
abbrev cloE (cl : List (Str × Addr)) (H : Hp) (E : XK) : XK := fun cls d H' => (∀ b, clT cl b → H' b = none) → E cls d (reT (clT cl) H H')
theorem clo_run {k : Nat} {Q : VK} {E : XK} (S : CloS J) (hr : Room (k + 1) A) (e0 : Env0 P w K mg base A outer s H) (hf : H f = some (LmO f J cl c')) (hc : H c' = some (LamX.CodeO c' J.qual)) (C : CapA Z H cl J.caps vs)
    (hbody : ∀ X : Cx, X = cloCx P w K mg base J f c' cl A outer s (drT (clT cl) H) (cloE cl H E) → Room k X.A → Takes X (fun cls d _ H' => cloE cl H E cls d H') → PassesOwn (model X.prog X.w) X.A X.env X.xe → ∃ tb, PE X J.body tb ∧
      tb (vs.map some) (drT (clT cl) H) fun v H' => (∀ b, clT cl b → H' b = none) → Q v (reT (clT cl) H H')) :
    codeAny (model P w) A (.call (.ref f) ⟨[], []⟩) (CR (L2.CX P w) outer P w H s Q E) s := by
  have tc : TCel (clT cl) H := fun b ⟨y, q⟩ => let ⟨_, o, _, q2, _⟩ := C.all y b q; ⟨o, q2⟩
  have nf : ∀ b, clT cl b → b ∉ frs outer := fun b q hb => by
    obtain ⟨o, e⟩ := tc b q
    rw [e0.frf b hb] at e
    cases e
  have lim : s.heap.NoLimit := e0.mod.nolimit.keeps fun b o e => (e0.bs b o e).1
  have nn : ∀ b, H b = none → drT (clT cl) H b = none := fun b n => by
    by_cases q : clT cl b
    · exact drT_in q
    · rw [drT_out q]; exact n
  have e1 : Env0 P w K mg base A outer s (drT (clT cl) H) := ⟨e0.frames, e0.mod, fun b o e => ⟨(e0.bs b o e).1, nn b (e0.bs b o e).2⟩, e0.bsz, e0.funs, fun b hb => nn b (e0.frf b hb), hok_dr e0.hok tc, e0.bare⟩
  obtain ⟨⟨pm, ctv, of1⟩, _, _⟩ := e0.hok f _ hf
  obtain ⟨⟨oc, ws, t, hoc, hdc, hvc⟩, _, _⟩ := e0.hok c' _ hc
  refine PySem.W.kla_callFunE hr.depth of1 rfl S.co S.gen rfl ⟨c', oc, ws, t, rfl, hoc, hdc, hvc⟩ ?_
  rw [S.bind]
  refine wpAny_pure (wpAny_newFunctionEnv (fun y hy => (S.own y hy).2) (fun y hy => absurd hy (by simp)) (fun h₁ hns hsb => ⟨lim.fresh _ hsb, ?_⟩) S.kind)
  show codeAny _ _ (.expr J.body (cloEnv J s.heap.objs.size f c' cl)) _ _
  have kp : ∀ b o, s.heap.get? b = some o → h₁.get? b = some o := fun b o e => hsb.extBut b o (Nat.ne_of_lt (Heap.lt_size e)) (Heap.get?_push_of_some _ e)
  have I : Inv (cloCx P w K mg base J f c' cl A outer s (drT (clT cl) H) (cloE cl H E)) [] (vs.map some) (drT (clT cl) H) { s with heap := h₁, toks := s.toks + ([] : List (Str × Value)).length } := clo_start S hr.hd e1 e0.hok C hns kp
  obtain ⟨tb, hp, hq⟩ := hbody _ rfl (hr.deeper _) (takes_of rfl rfl rfl rfl) (passes_of rfl)
  have out : ∀ e s', (cloCx P w K mg base J f c' cl A outer s (drT (clT cl) H) (cloE cl H E)).xe e s' → wpAny (model P w) (A.deeper (cloEnv J s.heap.objs.size f c' cl)) (leaving (cloEnv J s.heap.objs.size f c' cl) e) (fun _ t => CR (L2.CX P w) outer P w H s Q E (.error e) t) (fun e' t => CR (L2.CX P w) outer P w H s Q E (.error e') t) s' := fun e s' q => by
    have conv : ∀ u t, L2.CX P w outer (drT (clT cl) H) s (cloE cl H E) u t → CR (L2.CX P w) outer P w H s Q E (.error u) t := fun u t ⟨a, B, H', cls, d, q1, fl, hok, ub, na, os, ag, hE⟩ => by
      obtain ⟨ub2, gone, kp2⟩ := ub_re ub e0.hok tc nf
      have ng : ¬ clT cl a := fun z => by
        obtain ⟨o, e⟩ := tc a z
        have := kp2 a o z e
        rw [fl.2.1] at this
        cases this
      exact ⟨a, B, reT (clT cl) H H', cls, d, q1, fl, hok_re hok tc gone kp2, ub2, by rw [reT_out ng]; exact na, os, ag, hE gone⟩
    exact wpAny_mono q (fun _ t z => conv e t z) fun e' t z => conv e' t z
  refine PySem.W.kla_codeExpr (wpAny_mono (hp.run [] _ _ _ _ I hq) (fun v s' z => ?_) out)
  obtain ⟨u, H', J', rv, q⟩ := z
  obtain ⟨un2, gone, kp2⟩ := un_re J'.base e0.hok tc nf
  exact ⟨u, reT (clT cl) H H', J'.os, J'.bare, un2, hok_re J'.hok tc gone kp2, rv, q gone⟩
end
end MM

/-! MM19: values without closures stand without the tracked cells; call() of a closure. -/
namespace MM
open PySem PySem.Spec PyProof.Rows L2

mutual
def noClo : UV → Bool
  | .d _ => true
  | .ref _ => true
  | .tp xs => noCloL xs
  | .fl xs => noCloL xs
  | .own xs => noCloL xs
  | .odK kvs => noCloK kvs
  | .odT kvs => noCloT kvs
  | .clo _ _ => false
def noCloL : List UV → Bool
  | [] => true
  | x :: xs => noClo x && noCloL xs
def noCloK : List (Key × UV) → Bool
  | [] => true
  | (_, x) :: xs => noClo x && noCloK xs
def noCloT : List (List Key × UV) → Bool
  | [] => true
  | (_, x) :: xs => noClo x && noCloT xs
end
def noCloF : List (Str × UV) → Bool
  | [] => true
  | (_, x) :: xs => noClo x && noCloF xs
def noCloC : Cel → Bool
  | .lst xs => noCloL xs
  | .dK kvs => noCloK kvs
  | .dT kvs => noCloT kvs
  | .obj _ fs => noCloF fs
  | .tab _ _ => true
section
variable {c : Cg} {Z T : Addr → Prop} {H : Hp} {ρ : List Addr} (t : TCel T H)
abbrev mZ (Z T : Addr → Prop) : Addr → Prop := fun a => Z a ∧ ¬ T a
include t
theorem not_T {a : Addr} {o : HO} (e : H a = some o) (ne : ∀ ob, o ≠ CelO a ob) : ¬ T a := fun q => by
  obtain ⟨ob, e2⟩ := t a q
  rw [e] at e2
  exact ne ob (Option.some.inj e2)
theorem keep_T {a : Addr} {o : HO} (z : Z a) (e : H a = some o) (ne : ∀ ob, o ≠ CelO a ob) : mZ Z T a ∧ drT T H a = some o :=
  ⟨⟨z, not_T t e ne⟩, by rw [drT_out (not_T t e ne)]; exact e⟩
theorem Rd_T {a : Addr} {u : HO} (ne : u ≠ .own a) (nf : ∀ ob, u ≠ CelO a ob) (h : Rd H a u) : ¬ T a ∧ Rd (drT T H) a u := by
  rcases h with h | ⟨o, h⟩
  · exact ⟨not_T t h nf, .inl (by rw [drT_out (not_T t h nf)]; exact h)⟩
  · have n : ¬ T a := not_T t h fun ob e => by
      unfold CelO at e
      injection e with _ e2
      exact ne e2
    exact ⟨n, .inr ⟨o, by rw [drT_out n]; exact h⟩⟩
theorem FzT.dr {a : Addr} {xs : List V} (h : FzT c Z H a xs) : FzT c (mZ Z T) (drT T H) a xs := h.elim (fun h => let ⟨n, r⟩ := Rd_T (u := .tup xs) t (fun e => nomatch e) (fun _ e => nomatch e) h.2; .inl ⟨⟨h.1, n⟩, r⟩) .inr
theorem FzL.dr {a : Addr} {xs : List V} (h : FzL c Z H a xs) : FzL c (mZ Z T) (drT T H) a xs := h.elim (fun h => let ⟨n, r⟩ := Rd_T (u := .lst xs) t (fun e => nomatch e) (fun _ e => nomatch e) h.2; .inl ⟨⟨h.1, n⟩, r⟩) .inr
mutual
theorem RD.dr : ∀ {x : DV} {v : V}, RD c Z H x v → RD c (mZ Z T) (drT T H) x v
  | .non, _, h => h
  | .bl _, _, h => h
  | .int _, _, h => h
  | .str _, _, h => h
  | .ty _, _, h => h
  | .glo _, _, h => h
  | .tup _, _, ⟨a, vs, e, f, r⟩ => ⟨a, vs, e, FzT.dr t f, RDl.dr r⟩
  | .lst _, _, ⟨a, vs, e, z, h, r⟩ => let ⟨k1, k2⟩ := keep_T t z h (fun _ q => nomatch q); ⟨a, vs, e, k1, k2, RDl.dr r⟩
  | .rol _, _, ⟨a, vs, e, f, r⟩ => ⟨a, vs, e, FzL.dr t f, RDl.dr r⟩
  | .dK _, _, ⟨a, vs, e, z, h, r⟩ => let ⟨k1, k2⟩ := keep_T t z h (fun _ q => nomatch q); ⟨a, vs, e, k1, k2, RDk.dr r⟩
  | .dT _, _, ⟨a, vs, e, z, h, r⟩ => let ⟨k1, k2⟩ := keep_T t z h (fun _ q => nomatch q); ⟨a, vs, e, k1, k2, RDt.dr r⟩
  | .ins _ _, _, ⟨a, dx, Ca, gs, e, m, z, h, r⟩ => let ⟨k1, k2⟩ := keep_T t z h (fun _ q => nomatch q); ⟨a, dx, Ca, gs, e, m, k1, k2, RDf.dr r⟩
  | .exn _ _, _, ⟨a, d, Ca, gs, e, m, z, h, z2, h2, r⟩ => let ⟨k1, k2⟩ := keep_T t z h (fun _ q => nomatch q); let ⟨k3, k4⟩ := keep_T t z2 h2 (fun _ q => nomatch q); ⟨a, d, Ca, gs, e, m, k1, k2, k3, k4, RDf.dr r⟩
theorem RDl.dr : ∀ {xs : List DV} {vs : List V}, RDl c Z H xs vs → RDl c (mZ Z T) (drT T H) xs vs
  | [], _, h => h
  | _ :: _, _, ⟨v, r, e, h, q⟩ => ⟨v, r, e, RD.dr h, RDl.dr q⟩
theorem RDk.dr : ∀ {xs : List (Key × DV)} {vs : List (Key × V)}, RDk c Z H xs vs → RDk c (mZ Z T) (drT T H) xs vs
  | [], _, h => h
  | (_, _) :: _, _, ⟨v, r, e, h, q⟩ => ⟨v, r, e, RD.dr h, RDk.dr q⟩
theorem RDt.dr : ∀ {xs : List (List Key × DV)} {vs : List (List Key × V)}, RDt c Z H xs vs → RDt c (mZ Z T) (drT T H) xs vs
  | [], _, h => h
  | (_, _) :: _, _, ⟨v, r, e, h, q⟩ => ⟨v, r, e, RD.dr h, RDt.dr q⟩
theorem RDf.dr : ∀ {xs : List (Str × DV)} {vs : List (Str × V)}, RDf c Z H xs vs → RDf c (mZ Z T) (drT T H) xs vs
  | [], _, h => h
  | (_, _) :: _, _, ⟨v, r, e, h, q⟩ => ⟨v, r, e, RD.dr h, RDf.dr q⟩
end
theorem out_T {a : Addr} {o : HO} (e : H a = some o) (ne : ∀ ob, o ≠ CelO a ob) : drT T H a = some o := by rw [drT_out (not_T t e ne)]; exact e
mutual
theorem RU.dr : ∀ {x : UV} {v : V} {F : List Addr}, noClo x = true → RU c Z H ρ x v F → RU c (mZ Z T) (drT T H) ρ x v F
  | .d _, _, _, _, ⟨e, h⟩ => ⟨e, RD.dr t h⟩
  | .ref _, _, _, _, h => h
  | .tp _, _, _, n, ⟨a, vs, e, z, h, r⟩ => let ⟨k1, k2⟩ := Rd_T (u := .tup vs) t (fun q => nomatch q) (fun _ q => nomatch q) h; ⟨a, vs, e, ⟨z, k1⟩, k2, RUl.dr (by simpa [noClo] using n) r⟩
  | .fl _, _, _, n, ⟨a, vs, e, z, h, r⟩ => let ⟨k1, k2⟩ := keep_T t z h (fun _ q => nomatch q); ⟨a, vs, e, k1, k2, RUl.dr (by simpa [noClo] using n) r⟩
  | .own _, _, _, n, ⟨a, vs, G, e, h, eF, r⟩ => ⟨a, vs, G, e, out_T t h (fun _ q => nomatch q), eF, RUl.dr (by simpa [noClo] using n) r⟩
  | .odK _, _, _, n, ⟨a, vs, G, e, h, eF, r⟩ => ⟨a, vs, G, e, out_T t h (fun _ q => nomatch q), eF, RUk.dr (by simpa [noClo] using n) r⟩
  | .odT _, _, _, n, ⟨a, vs, G, e, h, eF, r⟩ => ⟨a, vs, G, e, out_T t h (fun _ q => nomatch q), eF, RUt.dr (by simpa [noClo] using n) r⟩
  | .clo _ _, _, _, n, _ => by simp [noClo] at n
theorem RUl.dr : ∀ {xs : List UV} {vs : List V} {F : List Addr}, noCloL xs = true → RUl c Z H ρ xs vs F → RUl c (mZ Z T) (drT T H) ρ xs vs F
  | [], _, _, _, h => h
  | _ :: _, _, _, n, ⟨v, r, F1, F2, e, eF, h, q⟩ => ⟨v, r, F1, F2, e, eF, RU.dr (by simp [noCloL] at n; exact n.1) h, RUl.dr (by simp [noCloL] at n; exact n.2) q⟩
theorem RUk.dr : ∀ {xs : List (Key × UV)} {vs : List (Key × V)} {F : List Addr}, noCloK xs = true → RUk c Z H ρ xs vs F → RUk c (mZ Z T) (drT T H) ρ xs vs F
  | [], _, _, _, h => h
  | (_, _) :: _, _, _, n, ⟨v, r, F1, F2, e, eF, h, q⟩ => ⟨v, r, F1, F2, e, eF, RU.dr (by simp [noCloK] at n; exact n.1) h, RUk.dr (by simp [noCloK] at n; exact n.2) q⟩
theorem RUt.dr : ∀ {xs : List (List Key × UV)} {vs : List (List Key × V)} {F : List Addr}, noCloT xs = true → RUt c Z H ρ xs vs F → RUt c (mZ Z T) (drT T H) ρ xs vs F
  | [], _, _, _, h => h
  | (_, _) :: _, _, _, n, ⟨v, r, F1, F2, e, eF, h, q⟩ => ⟨v, r, F1, F2, e, eF, RU.dr (by simp [noCloT] at n; exact n.1) h, RUt.dr (by simp [noCloT] at n; exact n.2) q⟩
end
theorem RUf.dr : ∀ {xs : List (Str × UV)} {vs : List (Str × V)} {F : List Addr}, noCloF xs = true → RUf c Z H ρ xs vs F → RUf c (mZ Z T) (drT T H) ρ xs vs F
  | [], _, _, _, h => h
  | (_, _) :: _, _, _, n, ⟨v, r, F1, F2, e, eF, h, q⟩ => ⟨v, r, F1, F2, e, eF, RU.dr t (by simp [noCloF] at n; exact n.1) h, RUf.dr (by simp [noCloF] at n; exact n.2) q⟩
theorem RC.dr : ∀ {x : Cel} {a : Addr} {F : List Addr}, noCloC x = true → RC c Z H ρ x a F → RC c (mZ Z T) (drT T H) ρ x a F
  | .lst _, _, _, n, ⟨vs, G, h, e, r⟩ => ⟨vs, G, out_T t h (fun _ q => nomatch q), e, RUl.dr t n r⟩
  | .dK _, _, _, n, ⟨vs, G, h, e, r⟩ => ⟨vs, G, out_T t h (fun _ q => nomatch q), e, RUk.dr t n r⟩
  | .dT _, _, _, n, ⟨vs, G, h, e, r⟩ => ⟨vs, G, out_T t h (fun _ q => nomatch q), e, RUt.dr t n r⟩
  | .obj _ _, _, _, n, ⟨Ca, dx, gs, G, m, h, e, r⟩ => ⟨Ca, dx, gs, G, m, out_T t h (fun _ q => nomatch q), e, RUf.dr t n r⟩
  | .tab _ _, _, _, _, ⟨e, eF, ps, h, tr, r⟩ => ⟨e, eF, ps, out_T t h (fun _ q => nomatch q), tr, fun pos cv q => let ⟨c', e1, e2, e3⟩ := r pos cv q; let ⟨k1, k2⟩ := keep_T t e2 e3 (fun _ q => nomatch q); ⟨c', e1, k1, k2⟩⟩
theorem RHl.dr : ∀ {x : HS} {l : List Addr} {F : List Addr}, x.all noCloC = true → RHl c Z H ρ x l F → RHl c (mZ Z T) (drT T H) ρ x l F
  | [], _, _, _, h => h
  | _ :: _, _, _, n, ⟨v, r, F1, F2, e, eF, h, q⟩ => by
    rw [List.all_cons, Bool.and_eq_true] at n
    exact ⟨v, r, F1, F2, e, eF, RC.dr t n.1 h, RHl.dr n.2 q⟩
end
/-- what a closure may have caught -/
def plainU : UV → Bool
  | .d _ => true
  | .ref _ => true
  | _ => false
theorem plain_F {c : Cg} {Z : Addr → Prop} {H : Hp} {ρ : List Addr} : ∀ {xs : List UV} {vs : List V} {F : List Addr}, xs.all plainU = true → RUl c Z H ρ xs vs F → F = [] ∧ noCloL xs = true
  | [], _, _, _, h => ⟨h.2, rfl⟩
  | x :: xs, _, _, n, ⟨v, r, F1, F2, e, eF, h, q⟩ => by
    rw [List.all_cons, Bool.and_eq_true] at n
    obtain ⟨k1, k2⟩ := plain_F n.2 q
    cases x with
    | d y => exact ⟨by rw [eF, h.1, k1]; rfl, by simp [noCloL, noClo, k2]⟩
    | ref i => exact ⟨by rw [eF, h.1, k1]; rfl, by simp [noCloL, noClo, k2]⟩
    | _ => exact absurd n.1 (by simp [plainU])
/-- the lambdas' functions keep what they tell -/
structure CloOk (c : Cg) (P : Program) (w : World) (base : Heap) (CB : Nat → ME) (k : Nat) : Prop where
  run : ∀ i J, c.ci i = some J → CloS J ∧ ∀ (X : Cx) (W : WX), Cc c P w base J.caps J.scope k X W → PE X J.body (tV false .E c W (CB i))
def mClo (CB : Nat → ME) (j : Nat) : ME := fun σ h => match σ[j]? with
  | some (some (.clo i caps)) => if h.all noCloC = true ∧ caps.all plainU = true then CB i (caps.map some) h else .bad
  | _ => .bad
section
variable {X : Cx} {c : Cg} {W : WX} {P : Program} {w : World} {base : Heap} {N : List Str} {sc : Scope} {k : Nat} {CB : Nat → ME}
theorem RUl.plainS {Z : Addr → Prop} {H : Hp} {ρ : List Addr} : ∀ {us : List UV} {vs : List V} {F : List Addr}, RUl c Z H ρ us vs F → RS c Z H ρ (us.map some) (vs.map some) F
  | [], _, _, h => by rw [h.1, h.2]; exact ⟨rfl, rfl⟩
  | _ :: _, _, _, ⟨v, r, F1, F2, e, eF, h, t⟩ => by rw [e]; exact ⟨v, r.map some, F1, F2, rfl, eF, h, t.plainS⟩
theorem e_clo (C : Cc c P w base N sc (k + 1) X W) (O : CloOk c P w base CB k) (j : Nat) {a : Str} {p1 p2 : Pos} (hv : PE X (.Name a p1) (tVar j)) : PE X (.Call (.Name a p1) [] [] p2) (tV false .E c W (mClo CB j)) := by
  refine ⟨fun pins s σ H Q I ⟨wd, Fs, σd, hd, S, p⟩ => ?_⟩
  unfold mClo at p
  split at p
  · rename_i i caps hj
    split at p
    · rename_i hn
      obtain ⟨v0, G, e0, ru, _⟩ := S.s.get hj
      obtain ⟨eG, J, f, c', cl, vs, hci, rfl, zf, hf, zc, hc, ca, rl⟩ := ru
      have tc : TCel (clT cl) H := fun b ⟨y, q⟩ => let ⟨_, o, _, q2, _⟩ := ca.all y b q; ⟨o, q2⟩
      have tz : ∀ b, clT cl b → wd.Z b := fun b ⟨y, q⟩ => (ca.all y b q).1
      refine wpAny_Call_Name_kw (thn (hv.run pins s σ H (fun v H1 => v = .ref f ∧ H1 = H) I ⟨.ref f, e0, rfl, rfl⟩) fun u s1 ⟨v, H1, I1, r1, q1⟩ => ?_)
      obtain ⟨rfl, rfl⟩ := q1
      obtain rfl : u = Value.ref f := r1
      obtain ⟨⟨pm, ctv, of1⟩, _, _⟩ := I1.hok f _ hf
      refine PySem.W.callWith_F0 ⟨_, _, _, _, of1⟩ ?_
      obtain ⟨CS, hb⟩ := O.run i J hci
      let T := clT cl
      let w3 : Wd := ⟨wd.ρ, mZ wd.Z T, wd.F⟩
      have nF : ∀ b ∈ wd.F, ¬ T b := fun b hb q => S.wok.sep b hb (tz b q)
      have ok3 : WOk w3 (drT T H1) := ⟨S.wok.nd, fun b hb z => S.wok.sep b hb z.1, fun b hb => by rw [drT_out (nF b hb)]; exact S.wok.trF b hb, fun b z => by rw [drT_out z.2]; exact S.wok.trZ b z.1⟩
      have S3 : Sta c w3 [] (caps.map some) hd (vs.map some) (drT T H1) := ⟨RUl.plainS (RUl.dr tc (plain_F hn.2 rl).2 rl), RHl.dr tc hn.1 S.h, ok3⟩
      -- back with the cells
      have back : ∀ {w' : Wd} {H' : Hp} {G : List Addr}, (∀ b, T b → H' b = none) → Ext w3 (drT T H1) ⟨w'.ρ, w'.Z, w'.F ++ G⟩ H' → WOk ⟨w'.ρ, w'.Z, w'.F ++ G⟩ H' → Ext wd H1 ⟨w'.ρ, fun b => w'.Z b ∨ T b, w'.F ++ G⟩ (reT T H1 H') ∧ WOk ⟨w'.ρ, fun b => w'.Z b ∨ T b, w'.F ++ G⟩ (reT T H1 H') := fun {w' H' G} gone e ok => by
        have nT : ∀ b, H' b ≠ none → ¬ T b := fun b n q => n (gone b q)
        have th : ∀ b, H' b ≠ none → reT T H1 H' b ≠ none := fun b n => by rw [reT_out (nT b n)]; exact n
        refine ⟨⟨e.rho, fun b z => ?_, fun b o q n => ?_, fun b q => ?_, fun b n => ?_⟩, ⟨ok.nd, fun b hb z => ?_, fun b hb => th b (ok.trF b hb), fun b z => ?_⟩⟩
        · by_cases q : T b
          · exact .inr q
          · exact .inl (e.z b ⟨z, q⟩)
        · by_cases y : T b
          · rw [reT_in y]; exact q
          · rw [reT_out y]; exact e.keep b o (by rw [drT_out y]; exact q) n
        · have old : w3.Z b ∨ b ∈ w3.F ∨ drT T H1 b = none → ¬ T b → wd.Z b ∨ b ∈ wd.F ∨ H1 b = none := fun z y => by
            rcases z with z | z | z
            · exact .inl z.1
            · exact .inr (.inl z)
            · rw [drT_out y] at z; exact .inr (.inr z)
          by_cases y : T b
          · exact .inl (tz b y)
          · rcases q with (q | q) | q
            · exact old (e.new b (.inl q)) y
            · exact absurd q y
            · exact old (e.new b (.inr q)) y
        · by_cases y : T b
          · rw [reT_in y]; exact n
          · rw [reT_out y]; exact e.there b (by rw [drT_out y]; exact n)
        · rcases z with z | z
          · exact ok.sep b hb z
          · exact nT b (ok.trF b hb) z
        · rcases z with z | z
          · exact th b (ok.trZ b z)
          · rw [reT_in z]
            exact S.wok.trZ b (tz b z)
      have up : ∀ {w' : Wd} {H' : Hp}, (∀ b, T b → H' b = none) → ∀ b o, H' b = some o → reT T H1 H' b = some o := fun {w' H'} gone b o q => by
        rw [reT_out fun y => by rw [gone b y] at q; cases q]; exact q
      have rc := clo_run (k := k) (vs := vs) (Q := Q) (E := WE W σ) CS (by have := C.room; exact this) I1.env0 hf hc ca fun X3 e3 hr3 tk3 po3 => by
        subst e3
        refine ⟨_, hb _ (fun cls d _ H' => cloE cl H1 (WE W σ) cls d H') ⟨C.eP, C.ew, C.eK, C.emg, C.ebase, rfl, rfl, rfl, hr3, tk3, po3, CS.kind, CS.nd⟩, w3, [], _, hd, S3, ?_⟩
        revert p
        cases CB i (caps.map some) hd with
        | ok u h' =>
          intro p w' H' v Fv mo pp rh ru gone
          obtain ⟨b1, b2⟩ := back gone mo.1 mo.2
          exact p ⟨w'.ρ, fun b => w'.Z b ∨ T b, w'.F⟩ _ v Fv ⟨b1, b2⟩ .no (RHl.mono (fun _ _ e => e) (fun _ z => .inl z) (fun b o _ q => up (w' := w') gone b o q) (fun b _ o q => up (w' := w') gone b o q) rh)
            (RU.mono (fun _ _ e => e) (fun _ z => .inl z) (fun b o _ q => up (w' := w') gone b o q) (fun b _ o q => up (w' := w') gone b o q) ru)
        | err e h' =>
          intro p w' H' cls dx ex ok rh rx gone
          obtain ⟨b1, b2⟩ := back (w' := w') (G := []) gone (by rw [List.append_nil]; exact ex) (by rw [List.append_nil]; exact ok)
          rw [List.append_nil] at b1 b2
          obtain ⟨Ca, d, gs, x1, x2, x3, x4, x5, x6⟩ := rx
          exact p ⟨w'.ρ, fun b => w'.Z b ∨ T b, w'.F⟩ _ cls dx b1 b2 (RHl.mono (fun _ _ e => e) (fun _ z => .inl z) (fun b o _ q => up (w' := w') gone b o q) (fun b _ o q => up (w' := w') gone b o q) rh)
            ⟨Ca, d, gs, x1, x2, x3, .inl x4, up (w' := w') gone _ _ x5, RDf.mono (fun _ z => .inl z) (fun b o _ q => up (w' := w') gone b o q) x6⟩
        | bad => exact fun p => p
      refine wpAny_call (codeAny_mono rc fun r s' hq => ?_)
      cases r with
      | error e => exact passAt C.tk σ pins H1 s1 e s' I1 hq
      | ok fl =>
        cases fl with
        | ret u => exact I1.after hq
        | next => exact False.elim hq
        | brk => exact False.elim hq
        | cont => exact False.elim hq
    · exact p.elim
  · exact p.elim
end
end MM

/-! MM20: lambdas made, defs called with them. -/
namespace MM
open PySem PySem.Spec PyProof.Rows L2

/-! ### a lambda is made -/
def tLm (P : Addr) (J : CloI) (cl : List (Str × Addr)) : TE := fun σ H Q => ∃ ps : Array Value, H P = some (.tbl ps) ∧ TriplesOk ps.toList ∧ (∀ (pos : Pos) (cv : Value), codeAmong pos ps.toList = some cv → ∃ c', cv = .ref c' ∧ H c' = some (LamX.CodeO c' J.qual)) ∧
  (∀ f c', H f = none → H c' = some (LamX.CodeO c' J.qual) → (∃ pos : Pos, codeAmong pos ps.toList = some (.ref c')) → Q (.ref f) (upd H f (LmO f J cl c'))) ∧
  (∀ (f c' : Addr) (ps' : Array Value), H f = none → H c' = none → f ≠ c' → TriplesOk ps'.toList → (∀ (p' : Pos) (cv : Value), codeAmong p' ps'.toList = some cv → codeAmong p' ps.toList = some cv ∨ cv = .ref c') →
    Q (.ref f) (upd (upd (upd H P (.tbl ps')) c' (LamX.CodeO c' J.qual)) f (LmO f J cl c')))
/-- what a def that makes lambdas is known to be -/
structure Lm (X : Cx) (cP P : Addr) (q : Str) : Prop where
  code : X.env.code = .ref cP
  qual : X.env.qual ++ "<lambda>" = q
  tb : LamX.TabB X.base X.mg cP P
  fn : ∀ y, X.fn y = true
  st : X.stack = X.env :: X.outer
/-- how the lambda's names lie to the maker's -/
structure LamAt (sc : Scope) (N : List Str) (J : CloI) (js : List Nat) : Prop where
  free : ∀ y ∈ J.scope.names, y.2 = .free → sc.names.lookup y.1 = some .cell ∨ sc.names.lookup y.1 = some .free
  caps : ∀ y ∈ J.caps, (y, NameKind.free) ∈ J.scope.names
  at_ : js.map (fun j => N[j]?) = J.caps.map some
section
variable {X : Cx} {cP P : Addr} {q : Str}
theorem lm_obj {pins : List (Addr × Obj)} {σ : L2.St} {H : Hp} {s : Shared} {J : CloI} {cl : List (Str × Addr)} {c' : Addr} {pm ctv : Value} {t' : Nat} (I : Inv X pins σ H s) :
    Inv X pins σ (upd H s.heap.objs.size (LmO s.heap.objs.size J cl c')) { s with heap := s.heap.push (PySem.W.kla_obj "<lambda>" J.qual J.params J.body J.scope cl pm c' ctv), toks := t' } := by
  refine I.laid (a := s.heap.objs.size) (fun b u e => Heap.get?_push_of_some _ e) (Nat.le_refl _) ?_
  have e : (s.heap.push (PySem.W.kla_obj "<lambda>" J.qual J.params J.body J.scope cl pm c' ctv)).get? s.heap.objs.size = some (PySem.W.kla_obj "<lambda>" J.qual J.params J.body J.scope cl pm c' ctv) := Heap.get?_push_size _ rfl
  exact ⟨⟨pm, ctv, e⟩, ⟨_, e⟩, fun h1 h2 ⟨p, t, z⟩ st => ⟨p, t, st _ z⟩⟩
theorem pe_lm {sc : Scope} {N : List Str} {J : CloI} {js : List Nat} {pos : Pos} (M : Lm X cP P q) (hq : J.qual = q) (hs : X.env.scope = sc) (L : LamAt sc N J js) (hdef : ∀ env : Env, defaultsOf J.params env = ([], [])) :
    PE X (.Lambda J.params J.body J.scope pos) (tLm P J (cloFrom X.env.cells J.scope.names [])) := by
  refine ⟨fun pins s σ H Q I ⟨ps, hP, ht, ha, k1, k2⟩ => PySem.W.kla_eval (hdef _) ?_⟩
  have hfree : ∀ y ∈ J.scope.names, y.2 = .free → ∃ c, X.env.cells.lookup y.1 = some c := fun y hy e => by
    have z := L.free y hy e
    rw [← hs] at z
    exact I.ok.has _ z
  have bP : s.heap.BuiltinsAt X.mg P := M.tb.bm.keeps I.bk
  have hP' : s.heap.get? P = some { cls := .none, data := .fields ps } := I.hok P _ hP
  have eq : X.env.qual ++ "<lambda>" = J.qual := M.qual.trans hq.symm
  rw [eq]
  cases hc : codeAmong pos ps.toList with
  | none =>
    refine PySem.W.kla_makeFunction (mg := X.mg) (c := cP) (P := P) (ps := ps) (closure_ok hfree) I.ok.glob (I.mod.glob.keeps I.bk) M.code (M.tb.code.keeps I.bk) hP' ht hc M.tb.gP bP fun c' ctv h' tk hx hge hlt hrec htb => ?_
    obtain ⟨c2, oc, vs, t, e2, hoc, hd, hv⟩ := hrec
    cases e2
    have nC : H c' = none := I.hok.fresh hge
    have I1 := LamX.inv_table (t' := tk) (more := #[rawInt pos.line, rawInt pos.col, .ref c']) (h' := h') I hP (fun b o hb e => hx b o hb e) htb hge ⟨oc, vs, t, hoc, hd, hv⟩
    have hsz : s.heap.objs.size ≤ h'.objs.size := Nat.le_trans hge (Nat.le_of_lt hlt)
    have eL : (ps ++ #[rawInt pos.line, rawInt pos.col, .ref c']).toList = ps.toList ++ [rawInt pos.line, rawInt pos.col, .ref c'] := by simp
    refine ⟨.ref h'.objs.size, _, lm_obj (J := J) (cl := cloFrom X.env.cells J.scope.names []) (c' := c') (pm := (X.mg "__name__").getD .none) (ctv := ctv) I1, rfl, k2 h'.objs.size c' _ (I.hok.fresh hsz) nC (Nat.ne_of_gt hlt) (by rw [eL]; exact PySem.TriplesOk_snoc _ _ _ _ ht) fun p' cv hcv => ?_⟩
    rw [eL] at hcv
    exact LamX.among_app _ ht hcv
  | some cv =>
    obtain ⟨c', e, hco⟩ := ha pos cv hc
    subst e
    refine PySem.W.kla_makeFunctionHit (mg := X.mg) (c := cP) (P := P) (ps := ps) (closure_ok hfree) I.ok.glob (I.mod.glob.keeps I.bk) M.code (M.tb.code.keeps I.bk) hP' ht hc bP fun ctv h' tk hx hsz => ?_
    have I1 : Inv X pins σ H { s with heap := h', toks := tk } := I.kept hx
    exact ⟨.ref h'.objs.size, _, lm_obj (J := J) (cl := cloFrom X.env.cells J.scope.names []) (c' := c') (pm := (X.mg "__name__").getD .none) (ctv := ctv) I1, rfl, k1 h'.objs.size c' (I.hok.fresh hsz) hco ⟨pos, hc⟩⟩
end

/-! ### argument lists with lambdas -/
inductive AU where
  | v (u : UV) | lam (i : Nat) (js : List Nat)
section
variable (c : Cg) (Z : Addr → Prop) (H : Hp) (ρ : List Addr) (ec : List (Str × Addr))
def RA : AU → V → Prop
  | .v u, v => RU c Z H ρ u v []
  | .lam i _, v => ∃ J f c', c.ci i = some J ∧ v = .ref f ∧ Z f ∧ H f = some (LmO f J (cloFrom ec J.scope.names []) c') ∧ Z c' ∧ H c' = some (LamX.CodeO c' J.qual)
def RAl : List AU → List V → Prop
  | [], vs => vs = []
  | x :: xs, vs => ∃ v r, vs = v :: r ∧ RA c Z H ρ ec x v ∧ RAl xs r
end
section
variable {c : Cg} {Z Z' : Addr → Prop} {H H' : Hp} {ρ ρ' : List Addr} {ec : List (Str × Addr)} (hr : ∀ (i : Nat) a, ρ[i]? = some a → ρ'[i]? = some a) (hz : ∀ a, Z a → Z' a) (hk : ∀ a o, Z a → H a = some o → H' a = some o)
include hr hz hk
theorem RA.mono : ∀ {x : AU} {v : V}, RA c Z H ρ ec x v → RA c Z' H' ρ' ec x v
  | .v _, _, h => RU.mono hr hz hk (fun _ z => nomatch z) h
  | .lam _ _, _, ⟨J, f, c', h1, h2, h3, h4, h5, h6⟩ => ⟨J, f, c', h1, h2, hz _ h3, hk _ _ h3 h4, hz _ h5, hk _ _ h5 h6⟩
theorem RAl.mono : ∀ {xs : List AU} {vs : List V}, RAl c Z H ρ ec xs vs → RAl c Z' H' ρ' ec xs vs
  | [], _, h => h
  | _ :: _, _, ⟨v, r, e, h, t⟩ => ⟨v, r, e, RA.mono hr hz hk h, RAl.mono t⟩
end
abbrev MLs := SL → HS → MR (List AU)
def ALo (c : Cg) (W : WX) (ec : List (Str × Addr)) (σ : L2.St) (w : Wd) (H : Hp) (Q : List V → Hp → Prop) : MR (List AU) → Prop
  | .ok as h' => ∀ (w' : Wd) (H' : Hp) (vs : List V), Ext w H w' H' → WOk w' H' → RH c w'.Z H' w'.ρ h' w'.F → RAl c w'.Z H' w'.ρ ec as vs → Q vs H'
  | .err e h' => ∀ (w' : Wd) (H' : Hp) (cls : Value) (dx : Option Addr), Ext w H w' H' → WOk w' H' → RH c w'.Z H' w'.ρ h' w'.F → RX c w'.Z H' e cls dx → W cls dx σ H'
  | .bad => False
def tAsL (c : Cg) (W : WX) (ec : List (Str × Addr)) (m : MLs) : TA := fun σ H Q => ∃ w Fs σd hd, Sta c w Fs σd hd σ H ∧ ALo c W ec σ w H Q (m σd hd)
def lNil : MLs := fun _ h => .ok [] h
def lCons (m : ME) (ms : MLs) : MLs := fun σ h => bindM (m σ h) fun u h1 => if noOwn u = true then bindM (ms σ h1) fun as h2 => .ok (.v u :: as) h2 else .bad
def lLam (i : Nat) (js : List Nat) (k : Nat) (P : Addr) (q : Str) (ms : MLs) : MLs := fun σ h => match h[k]? with
  | some (.tab P' q') => if P' = P ∧ q' = q then bindM (ms σ h) fun as h2 => .ok (.lam i js :: as) h2 else .bad
  | _ => .bad
section
variable {X : Cx} {c : Cg} {W : WX} {m : ME} {ms : MLs} {e : Expr} {es : List Expr} {ec : List (Str × Addr)}
theorem ALo.shift {σ : L2.St} {w w1 : Wd} {H H1 : Hp} {Q : List V → Hp → Prop} {r : MR (List AU)} (e : Ext w H w1 H1) (ok : WOk w1 H1) (h : ALo c W ec σ w H Q r) : ALo c W ec σ w1 H1 Q r := by
  cases r with
  | ok as h' => exact fun w' H' vs x o rh ra => h w' H' vs (e.trans ok x) o rh ra
  | err x h' => exact fun w' H' cls dx e' ok' rh rx => h w' H' cls dx (e.trans ok e') ok' rh rx
  | bad => exact h
theorem la_nil : PA X [] (tAsL c W ec lNil) := PA.imp pa_nil fun σ H Q ⟨w, Fs, σd, hd, S, p⟩ => p w H [] Ext.refl S.wok S.h rfl
theorem la_cons (ha : PE X e (tV false .E c W m)) (hr : PA X es (tAsL c W ec ms)) (hs : starEach (e :: es) X.env = (false, eval e X.env) :: starEach es X.env := by rfl) : PA X (e :: es) (tAsL c W ec (lCons m ms)) :=
  PA.imp (pa_cons ha hr hs) fun σ H Q ⟨w, Fs, σd, hd, S, p⟩ => by
    refine ⟨w, Fs, σd, hd, S, ?_⟩
    unfold lCons at p
    revert p
    cases m σd hd with
    | bad => exact fun p => p
    | err x h' => exact fun p => p
    | ok u h1 =>
      intro p w1 H1 v Fv mo pp rh ru
      have p : ALo c W ec σ w H Q (if noOwn u = true then bindM (ms σd h1) fun as h2 => .ok (.v u :: as) h2 else .bad) := p
      by_cases hn : noOwn u = true
      · rw [if_pos hn] at p
        have eF := noOwn_F hn ru
        subst eF
        have S1 := S.ext mo.ext.1 mo.ext.2 rh
        have p1 := ALo.shift mo.ext.1 mo.ext.2 p
        refine ⟨w1, Fs, σd, h1, S1, ?_⟩
        revert p1
        cases ms σd h1 with
        | bad => exact fun p => p
        | err x h' => exact fun p => p
        | ok as h2 =>
          exact fun p1 w2 H2 vs x o rh2 ra => p1 w2 H2 (v :: vs) x o rh2 ⟨v, vs, rfl, RU.mono x.rho x.z (frozen_kept S1.wok x) (fun _ z => nomatch z) ru, ra⟩
      · rw [if_neg hn] at p; exact p.elim
theorem la_lam {cP P : Addr} {q : Str} {sc : Scope} {N : List Str} {J : CloI} {i k : Nat} {js : List Nat} {pos : Pos} (M : Lm X cP P q) (hci : c.ci i = some J) (hq : J.qual = q) (hs' : X.env.scope = sc) (L : LamAt sc N J js) (hdef : ∀ env : Env, defaultsOf J.params env = ([], []))
    (hr : PA X es (tAsL c W X.env.cells ms)) (hs : starEach (.Lambda J.params J.body J.scope pos :: es) X.env = (false, eval (.Lambda J.params J.body J.scope pos) X.env) :: starEach es X.env := by rfl) : PA X (.Lambda J.params J.body J.scope pos :: es) (tAsL c W X.env.cells (lLam i js k P q ms)) :=
  PA.imp (pa_cons (pe_lm M hq hs' L hdef) hr hs) fun σ H Q ⟨w, Fs, σd, hd, S, p⟩ => by
    unfold lLam at p
    split at p
    · rename_i P' q' hk
      split at p
      · rename_i he
        rw [he.1, he.2] at hk
        obtain ⟨a0, G0, hρ, rc, hsub⟩ := RHl.get S.h hk
        obtain ⟨ea, eG, ps, hP, ht, ha⟩ := id rc
        rw [ea] at hρ
        have PF : P ∈ w.F := hsub _ (by rw [eG]; exact List.mem_cons_self)
        have fin : ∀ (w1 : Wd) (H1 : Hp) (f c' : Addr), Ext w H w1 H1 → Sta c w1 Fs σd hd σ H1 → w1.Z f → H1 f = some (LmO f J (cloFrom X.env.cells J.scope.names []) c') → w1.Z c' → H1 c' = some (LamX.CodeO c' J.qual) →
            tAsL c W X.env.cells ms σ H1 fun vs H2 => Q (.ref f :: vs) H2 := fun w1 H1 f c' x S1 zf hf zc hc => by
          refine ⟨w1, Fs, σd, hd, S1, ?_⟩
          have p1 := ALo.shift x S1.wok p
          revert p1
          cases ms σd hd with
          | bad => exact fun p => p
          | err x h' => exact fun p => p
          | ok as h2 => exact fun p1 w2 H2 vs y o rh2 ra => p1 w2 H2 (.ref f :: vs) y o rh2 ⟨.ref f, vs, rfl, ⟨J, f, c', hci, rfl, y.z _ zf, frozen_kept S1.wok y _ _ zf hf, y.z _ zc, frozen_kept S1.wok y _ _ zc hc⟩, ra⟩
        refine ⟨ps, hP, ht, fun pos cv z => ?_, fun f c' nf hc' hin => ?_, fun f c' ps' nf nc nfc ht' hin => ?_⟩
        · obtain ⟨c', e1, _, e3⟩ := ha pos cv z
          exact ⟨c', e1, by rw [hq]; exact e3⟩
        · obtain ⟨pp, hpp⟩ := hin
          obtain ⟨c2, e1, zc, _⟩ := ha pp _ hpp
          cases e1
          obtain ⟨x1, ok1⟩ := ext_tup (o := LmO f J (cloFrom X.env.cells J.scope.names []) c') nf S.ok
          have hz : ∀ z, w.Z z → w.Z z ∨ z = f := fun z q => .inl q
          have S1 : Sta c ⟨w.ρ, fun z => w.Z z ∨ z = f, w.F⟩ Fs σd hd σ (upd H f (LmO f J (cloFrom X.env.cells J.scope.names []) c')) := ⟨RS.mono (fun _ _ q => q) hz (fun z o _ q => upd_keep nf z o q) (fun z _ o q => upd_keep nf z o q) S.s, RH_updZ nf S.h, ok1⟩
          exact fin _ _ f c' (ext_tup nf S.wok).1 S1 (.inr rfl) upd_same (.inl zc) (upd_keep nf _ _ hc')
        · let H1 := upd (upd (upd H P (.tbl ps')) c' (LamX.CodeO c' J.qual)) f (LmO f J (cloFrom X.env.cells J.scope.names []) c')
          have nPc : P ≠ c' := fun z => by rw [z, nc] at hP; cases hP
          have nPf : P ≠ f := fun z => by rw [z, nf] at hP; cases hP
          have atO : ∀ b, b ≠ P → b ≠ c' → b ≠ f → H1 b = H b := fun b h1 h2 h3 => by show upd _ _ _ b = _; rw [upd_ne h3, upd_ne h2, upd_ne h1]
          have atP : H1 P = some (.tbl ps') := by show upd _ _ _ P = _; rw [upd_ne nPf, upd_ne nPc, upd_same]
          have atc : H1 c' = some (LamX.CodeO c' J.qual) := by show upd _ _ _ c' = _; rw [upd_ne (Ne.symm nfc), upd_same]
          have atf : H1 f = some (LmO f J (cloFrom X.env.cells J.scope.names []) c') := upd_same
          have kp : ∀ b o, H b = some o → b ≠ P → H1 b = some o := fun b o q n => by
            rw [atO b n (ne_of_none q nc) (ne_of_none q nf)]; exact q
          have th : ∀ b, H b ≠ none → H1 b ≠ none := fun b n => by
            by_cases z : b = P
            · rw [z, atP]; exact fun q => nomatch q
            · cases q : H b with
              | none => exact absurd q n
              | some o => rw [kp b o q z]; exact fun q => nomatch q
          let w1 : Wd := ⟨w.ρ, fun z => w.Z z ∨ z = c' ∨ z = f, w.F⟩
          have hz : ∀ z, w.Z z → w1.Z z := fun z q => .inl q
          have zP : ∀ z, w.Z z → z ≠ P := fun z q e => S.wok.sep P PF (e ▸ q)
          have x1 : Ext w H w1 H1 := ⟨fun _ _ q => q, hz, fun b o q n => kp b o q (fun e => n (e ▸ PF)), fun b q => by
            rcases q with (q | q | q) | q
            · exact .inl q
            · exact .inr (.inr (by rw [q]; exact nc))
            · exact .inr (.inr (by rw [q]; exact nf))
            · exact .inr (.inl q), th⟩
          have ndS := List.nodup_append.mp S.ok.nd
          have ok1 : WOk (full w1 Fs) H1 := ⟨S.ok.nd, fun b hb z => by
            rcases z with z | z | z
            · exact S.ok.sep b hb z
            · exact S.ok.trF b hb (by rw [z]; exact nc)
            · exact S.ok.trF b hb (by rw [z]; exact nf), fun b hb => th b (S.ok.trF b hb), fun b z => by
            rcases z with z | z | z
            · exact th b (S.ok.trZ b z)
            · rw [z, atc]; exact fun q => nomatch q
            · rw [z, atf]; exact fun q => nomatch q⟩
          have rhH : RHl c w1.Z H w.ρ hd w.ρ w.F := RHl.mono (fun _ _ q => q) hz (fun _ _ _ q => q) (fun _ _ _ q => q) S.h
          obtain ⟨Fx, F1, F2, e1, rc1, kk⟩ := RHl.focus rhH hk hρ
          obtain ⟨_, eFx, _⟩ := id rc1
          subst eFx
          have ndF : (F1 ++ [P] ++ F2).Nodup := by rw [← e1]; exact ndS.2.1
          have notP : ∀ b ∈ F1 ++ F2, b ≠ P := fun b hb e => by
            subst e
            have pm : (F1 ++ [b] ++ F2).Perm (b :: (F1 ++ F2)) := by rw [List.append_assoc]; exact List.perm_middle
            exact (List.nodup_cons.mp (pm.nodup_iff.mp ndF)).1 hb
          have rcM : RC c w1.Z H1 w1.ρ (.tab P q) P [P] := ⟨rfl, rfl, ps', atP, ht', fun p0 cv z => by
            rcases hin p0 cv z with z | z
            · obtain ⟨c2, e2, e3, e4⟩ := ha p0 cv z
              exact ⟨c2, e2, .inl e3, kp _ _ e4 (zP _ e3)⟩
            · exact ⟨c', z, .inr (.inl rfl), by rw [← hq]; exact atc⟩⟩
          have rh1 := kk H1 (.tab P q) [P] (fun b o z e => by
            refine kp b o e ?_
            rcases z with (z | z | z) | z
            · exact zP b z
            · intro _; rw [z, nc] at e; cases e
            · intro _; rw [z, nf] at e; cases e
            · exact notP b z) rcM
          have ehd : hd.set k (.tab P q) = hd := by
            obtain ⟨hl, e⟩ := List.getElem?_eq_some_iff.mp hk
            rw [← e, List.set_getElem_self]
          rw [ehd, ← e1] at rh1
          have S1 : Sta c w1 Fs σd hd σ H1 := ⟨RS.mono (fun _ _ q => q) hz (fun b o z q => kp b o q (zP b z)) (fun b hb o q => kp b o q fun e => ndS.2.2 b hb P PF e) S.s, rh1, ok1⟩
          exact fin w1 H1 f c' x1 S1 (.inr (.inr rfl)) atf (.inr (.inl rfl)) atc
      · exact p.elim
    · exact p.elim
end
end MM

/-! MM21: a def called with lambdas: its caller's cells are tracked meanwhile. -/
namespace MM
open PySem PySem.Spec PyProof.Rows L2
open Classical in
/-- the cells that T tells are tracked -/
noncomputable def trT (T : Addr → Prop) (h : Heap) (H : Hp) : Hp := fun b => if T b then (h.get? b).map (CelO b) else H b
section
variable {T : Addr → Prop} {H H' : Hp} {h h' : Heap} {b : Addr}
theorem trT_in {o : Obj} (q : T b) (e : h.get? b = some o) : trT T h H b = some (CelO b o) := by unfold trT; rw [if_pos q, e]; rfl
theorem trT_out (q : ¬ T b) : trT T h H b = H b := by unfold trT; rw [if_neg q]
/-- the running frame's cells -/
abbrev envT (X : Cx) : Addr → Prop := fun b => ∃ y, X.env.cells.lookup y = some b
variable {X : Cx} {pins : List (Addr × Obj)} {σ : L2.St} {s : Shared}
theorem cel_at (I : Inv X pins σ H s) (q : envT X b) : ∃ o v, s.heap.get? b = some o ∧ o.data = .cell v ∧ H b = none ∧ trT (envT X) s.heap H b = some (CelO b o) := by
  obtain ⟨y, e⟩ := q
  obtain ⟨v, o, ho, hd⟩ := I.cell y b e
  exact ⟨o, v, ho, hd, I.freeC y b e, trT_in ⟨y, e⟩ ho⟩
theorem trT_keep (I : Inv X pins σ H s) {o : HO} (e : H b = some o) : ¬ envT X b ∧ trT (envT X) s.heap H b = some o := by
  have n : ¬ envT X b := fun q => by obtain ⟨_, _, _, _, n, _⟩ := cel_at I q; rw [e] at n; cases n
  exact ⟨n, by rw [trT_out n]; exact e⟩
theorem trT_TCel (I : Inv X pins σ H s) : TCel (envT X) (trT (envT X) s.heap H) := fun b q => by
  obtain ⟨o, _, _, _, _, e⟩ := cel_at I q
  exact ⟨o, e⟩
theorem trT_hok (I : Inv X pins σ H s) : HOk X.prog X.w (trT (envT X) s.heap H) s.heap := fun b u e => by
  by_cases q : envT X b
  · obtain ⟨o, v, ho, hd, _, e2⟩ := cel_at I q
    rw [e2] at e
    cases e
    exact ⟨ho, o, ho⟩
  · rw [trT_out q] at e
    exact (I.hok b u e).stay (fun _ _ _ z => z) (fun c z => (trT_keep I z).2) fun c xs z => (trT_keep I z).2
theorem cel_new (I : Inv X pins σ H s) (hfn : ∀ y, X.fn y = true) (q : envT X b) : X.s_0.heap.objs.size ≤ b ∧ b ≠ X.env.locals := let ⟨y, e⟩ := q; ⟨I.ok.cab y b (hfn y) e, I.cne y b e⟩
theorem cel_nofr (I : Inv X pins σ H s) (hfn : ∀ y, X.fn y = true) (q : envT X b) : b ∉ frs X.stack := fun hb => by
  obtain ⟨h1, h2⟩ := cel_new I hfn q
  rcases List.mem_cons.mp (I.stkSub b hb) with z | z
  · exact h2 z
  · obtain ⟨_, o, ho, _⟩ := I.ok.funs.mem z
    exact absurd (Nat.lt_of_lt_of_le (Heap.lt_size ho) h1) (Nat.lt_irrefl _)
theorem trT_env0 (I : Inv X pins σ H s) (hfn : ∀ y, X.fn y = true) : Env0 X.prog X.w X.K X.mg X.base X.A X.stack s (trT (envT X) s.heap H) := by
  have e0 := I.env0
  refine ⟨e0.frames, e0.mod, fun b o e => ⟨(e0.bs b o e).1, ?_⟩, e0.bsz, e0.funs, fun b hb => ?_, trT_hok I, e0.bare⟩
  · rw [trT_out fun q => ?_]
    · exact (e0.bs b o e).2
    · exact absurd (Nat.lt_of_lt_of_le (Heap.lt_size e) (Nat.le_trans I.ok.bsz (cel_new I hfn q).1)) (Nat.lt_irrefl _)
  · rw [trT_out fun q => cel_nofr I hfn q hb]
    exact e0.frf b hb
/-- a call with the cells tracked, seen without -/
theorem un_tr (I : Inv X pins σ H s) {fs : List Addr} (u : Un fs [] (trT (envT X) s.heap H) H' s.heap h') (x : HOk X.prog X.w H' h') : Un fs [] H (drT (envT X) H') s.heap h' ∧ HOk X.prog X.w (drT (envT X) H') h' ∧ TCel (envT X) H' := by
  have tc : TCel (envT X) H' := fun b q => by
    obtain ⟨o, _, _, _, _, e⟩ := cel_at I q
    exact ⟨o, u.frzs b o _ e⟩
  refine ⟨⟨fun b o e n f g => ?_, fun b o e n f g => ?_, fun b o e n g => ?_, u.there, fun b xs e => ?_, fun b o v e => ?_, fun b ps e => ?_⟩, hok_dr x tc, tc⟩
  · by_cases q : envT X b
    · obtain ⟨o2, _, h2, _, _, e2⟩ := cel_at I q
      rw [e] at h2
      cases h2
      exact (x b _ (u.frzs b o _ e2)).1
    · exact u.keep b o e (by rw [trT_out q]; exact n) f g
  · by_cases q : envT X b
    · obtain ⟨o2, _, h2, _, _, e2⟩ := cel_at I q
      rw [e] at h2
      cases h2
      exact ⟨o.slots, (x b _ (u.frzs b o _ e2)).1⟩
    · exact u.slot b o e (by rw [trT_out q]; exact n) f g
  · by_cases q : envT X b
    · exact drT_in q
    · rw [drT_out q]
      exact u.free b o e (by rw [trT_out q]; exact n) g
  · obtain ⟨n, e2⟩ := trT_keep I e
    rw [drT_out n]
    exact u.tups b xs e2
  · obtain ⟨n, e2⟩ := trT_keep I e
    rw [drT_out n]
    exact u.frzs b o v e2
  · obtain ⟨n, e2⟩ := trT_keep I e
    rw [drT_out n]
    exact u.tbls b ps e2
theorem run_tr {k : Nat} {f : Addr} {fd : FuncData} {ps : List Str} {sp : Sp} {us : List Value} {vs : List V} {Q : VK} (F : FnOk X.prog X.w X.K X.mg X.base (L2.CX X.prog X.w) k f fd ps sp) (hr : Room k X.A) (hb : Binds X.K fd ps []) (hfn : ∀ y, X.fn y = true) (I : Inv X pins σ H s) (r : Vals vs us)
    (h : sp vs (trT (envT X) s.heap H) (fun v H' => TCel (envT X) H' → Q v (drT (envT X) H')) fun _ _ _ => False) : wpAny (model X.prog X.w) X.A (call (.ref f) us) (EP X pins σ Q) X.xe s := by
  have hl : (us ++ []).length = ps.length := by rw [List.append_nil, ← r.length]; exact F.len _ _ _ _ h
  refine wpAny_call (codeAny_mono (F.run X.A X.stack s _ ⟨us, []⟩ (us ++ []) vs _ _ hr (trT_env0 I hfn) (hb s us I.kIn hl) (by rw [List.append_nil]; exact r) h) fun r s' hq => ?_)
  cases r with
  | error e =>
    obtain ⟨_, _, _, _, _, _, _, _, _, _, _, _, z⟩ := hq
    exact z.elim
  | ok fl =>
    cases fl with
    | ret u =>
      obtain ⟨v, H', os, bare, un, hok, rv, q⟩ := hq
      obtain ⟨un2, hok2, tc⟩ := un_tr I un hok
      exact I.after ⟨v, _, os, bare, un2, hok2, rv, q tc⟩
    | next => exact False.elim hq
    | brk => exact False.elim hq
    | cont => exact False.elim hq
end
/-- the arguments, the lambdas with what they catch -/
def resL (σ : SL) : List AU → Option (List UV)
  | [] => some []
  | .v u :: r => (resL σ r).map (u :: ·)
  | .lam i js :: r => match mapO (fun j => match σ[j]? with
      | some (some u) => if plainU u then some u else none
      | _ => none) js, resL σ r with
    | some caps, some us => some (.clo i caps :: us)
    | _, _ => none
def mCallL (f : MF) (ms : MLs) : ME := fun σ h => bindM (ms σ h) fun as h1 => match resL σ as with
  | some us => match f us h1 with
    | .ok (.d x) h2 => if h2.all noCloC = true then .ok (.d x) h2 else .bad
    | _ => .bad
  | none => .bad
/-- the lambdas' places in the maker -/
def LamsOk (c : Cg) (sc : Scope) (N : List Str) (as : List AU) : Prop := ∀ a ∈ as, match a with
  | .v _ => True
  | .lam i js => ∃ J, c.ci i = some J ∧ LamAt sc N J js
section
variable {X : Cx} {c : Cg} {W : WX} {pins : List (Addr × Obj)} {σ : L2.St} {H : Hp} {s : Shared}
theorem mapO_get {α β : Type} {f : α → Option β} : ∀ {xs : List α} {ys : List β}, mapO f xs = some ys → ys.length = xs.length ∧ ∀ (i : Nat) x, xs[i]? = some x → ∃ y, ys[i]? = some y ∧ f x = some y
  | [], ys, h => by cases h; exact ⟨rfl, fun i x e => by simp at e⟩
  | x :: xs, ys, h => by
    unfold mapO at h
    split at h
    · rename_i y ys' q1 q2
      cases h
      obtain ⟨h1, h2⟩ := mapO_get q2
      refine ⟨by simp [h1], fun i z e => ?_⟩
      cases i with
      | zero => simp at e; subst e; exact ⟨y, rfl, q1⟩
      | succ i => simp at e; simpa using h2 i z e
    · cases h
theorem RS.pick {Z : Addr → Prop} {ρ : List Addr} {Fs : List Addr} {σd : SL} (rs : RS c Z H ρ σd σ Fs) : ∀ {js : List Nat} {caps : List UV}, mapO (fun j => match σd[j]? with
      | some (some u) => if plainU u then some u else none
      | _ => none) js = some caps → caps.all plainU = true ∧ ∃ vs, RUl c Z H ρ caps vs [] ∧ js.map (fun j => σ[j]?) = vs.map fun v => some (some v)
  | [], caps, h => by cases h; exact ⟨rfl, [], ⟨rfl, rfl⟩, rfl⟩
  | j :: js, caps, h => by
    unfold mapO at h
    split at h
    · rename_i u caps' q1 q2
      cases h
      obtain ⟨p1, vs, p2, p3⟩ := RS.pick rs q2
      split at q1
      · rename_i u' hu
        split at q1
        · rename_i hp
          cases q1
          obtain ⟨v, G, e, r, _⟩ := rs.get hu
          have eG : G = [] := by
            cases u with
            | d x => exact r.1
            | ref i => exact r.1
            | _ => exact absurd hp (by simp [plainU])
          subst eG
          exact ⟨by rw [List.all_cons, hp, p1]; rfl, v :: vs, ⟨v, vs, [], [], rfl, rfl, r, p2⟩, by rw [List.map_cons, List.map_cons, e, p3]⟩
        · cases q1
      · cases q1
    · cases h
/-- behind the arguments, with the cells tracked -/
theorem res_ok {w : Wd} {Fs : List Addr} {σd : SL} {hd : HS} {sc : Scope} {N : List Str} (I : Inv X pins σ H s) (S : Sta c w Fs σd hd σ H) (hs : X.env.scope = sc) (hN : X.N = N) : ∀ {as : List AU} {us : List UV} {vs : List V}, LamsOk c sc N as → RAl c w.Z H w.ρ X.env.cells as vs → resL σd as = some us →
    RUl c (fun b => w.Z b ∨ envT X b) (trT (envT X) s.heap H) w.ρ us vs []
  | [], us, vs, _, r, e => by
    cases e
    exact ⟨r, rfl⟩
  | .v u :: as, us, vs, L, ⟨v, r, e1, h, t⟩, e => by
    simp only [resL, Option.map_eq_some_iff] at e
    obtain ⟨us', e, rfl⟩ := e
    exact ⟨v, r, [], [], e1, rfl, RU.mono (fun _ _ q => q) (fun _ z => .inl z) (fun b o _ q => (trT_keep I q).2) (fun _ z => nomatch z) h, res_ok I S hs hN (fun a ha => L a (List.mem_cons_of_mem _ ha)) t e⟩
  | .lam i js :: as, us, vs, L, ⟨v, r, e1, ⟨J, f, c', hci, ev, zf, hf, zc, hc⟩, t⟩, e => by
    unfold resL at e
    split at e
    · rename_i caps us' q1 q2
      cases e
      obtain ⟨p1, ws, p2, p3⟩ := RS.pick S.s q1
      obtain ⟨J', hci', LA⟩ := L (.lam i js) List.mem_cons_self
      rw [hci] at hci'
      cases hci'
      have hfree : ∀ y ∈ J.scope.names, y.2 = .free → ∃ c, X.env.cells.lookup y.1 = some c := fun y hy e => by
        have z := LA.free y hy e
        rw [← hs] at z
        exact I.ok.has _ z
      refine ⟨v, r, [], [], e1, rfl, ?_, res_ok I S hs hN (fun a ha => L a (List.mem_cons_of_mem _ ha)) t q2⟩
      refine ⟨rfl, J, f, c', _, ws, hci, ev, .inl zf, (trT_keep I hf).2, .inl zc, (trT_keep I hc).2, ⟨?_, fun y a q => ?_, fun x y a q1 q2 => I.ok.inj x y a (NdefX.clo_cm hfree q1) (NdefX.clo_cm hfree q2), fun j y u e1 e2 => ?_⟩, RUl.mono (fun _ _ q => q) (fun _ z => .inl z) (fun b o _ q => (trT_keep I q).2) (fun _ z => nomatch z) p2⟩
      · have l1 := congrArg List.length LA.at_
        have l2 := congrArg List.length p3
        rw [List.length_map, List.length_map] at l1 l2
        omega
      · have q2 := NdefX.clo_cm hfree q
        obtain ⟨o, w0, _, hd, _, e⟩ := cel_at I ⟨y, q2⟩
        exact ⟨.inr ⟨y, q2⟩, o, w0, e, hd⟩
      · have a1 : (js.map fun j => N[j]?)[j]? = some (some y) := by rw [LA.at_, List.getElem?_map, e1]; rfl
        have a2 : (js.map fun j => σ[j]?)[j]? = some (some (some u)) := by rw [p3, List.getElem?_map, e2]; rfl
        rw [List.getElem?_map] at a1 a2
        cases ej : js[j]? with
        | none => rw [ej] at a1; cases a1
        | some n =>
          rw [ej] at a1 a2
          have n1 : X.N[n]? = some y := by rw [hN]; exact Option.some.inj a1
          have n2 : σ[n]? = some (some u) := Option.some.inj a2
          have hy := LA.caps y (List.mem_of_getElem? e1)
          have kin := LA.free _ hy rfl
          rw [← hs] at kin
          obtain ⟨m, hn, hl⟩ := I.loc
          obtain ⟨u2, ru, lk⟩ := hl n y u n1 n2 (kin.elim (fun z => .inr (.inl z)) fun z => .inr (.inr z))
          rcases lk with ⟨z, _⟩ | ⟨_, a, q, o, ho, hdo⟩
          · have z : X.env.scope.names.lookup y = some .local := z
            have kin : X.env.scope.names.lookup y = some .cell ∨ X.env.scope.names.lookup y = some .free := kin
            rcases kin with k | k <;> · rw [z] at k; cases k
          · exact ⟨a, o, u2, NdefX.clo_has hfree hy q, trT_in ⟨y, q⟩ ho, hdo, ru⟩
    · cases e
theorem e_callL {P : Program} {w : World} {base : Heap} {N : List Str} {sc : Scope} {k n : Nat} {fa cP Pt : Addr} {fd : FuncData} {ps : List Str} {f : MF} {x q : Str} {p pos : Pos} {e : Expr} {es : List Expr} {ms : MLs} (C : Cc c P w base N sc k X W) (M : Lm X cP Pt q)
    (F : FnOk X.prog X.w X.K X.mg X.base (L2.CX X.prog X.w) k fa fd ps (spM c n f)) (hg : Gl X x) (hm : X.mg x = some (.ref fa)) (hk : PySem.W.keepIn X.K (.ref fa) = true) (hb : Binds X.K fd ps [])
    (ha : PA X (e :: es) (tAsL c W X.env.cells ms)) (hn : ∀ σd hd as h1, ms σd hd = .ok as h1 → as.length = n ∧ LamsOk c sc N as)
    (hdb : (x == ("__debug__" : Str)) = false := by decide) (he : starEach (e :: es) X.env = (false, eval e X.env) :: starEach es X.env := by rfl) (hpl : (backTo pos (starEach es X.env)).any (·.1) = false := by rfl) :
    PE X (.Call (.Name x p) (e :: es) [] pos) (tV false .E c W (mCallL f ms)) := by
  refine ⟨fun pins s σ H Q I ⟨wd, Fs, σd, hd, S, pp⟩ => ?_⟩
  refine wpAny_Call_Name_kw (ld_glob I hg hm ?_ hdb)
  let R : List V → Hp → Prop := fun vs H1 => ∃ w1 as h1, Ext wd H w1 H1 ∧ WOk w1 H1 ∧ RH c w1.Z H1 w1.ρ h1 w1.F ∧ RAl c w1.Z H1 w1.ρ X.env.cells as vs ∧ ms σd hd = .ok as h1
  have args : tAsL c W X.env.cells ms σ H R := by
    refine ⟨wd, Fs, σd, hd, S, ?_⟩
    unfold mCallL at pp
    revert pp
    cases em : ms σd hd with
    | ok as h1 => exact fun _ w' H' vs x o rh ra => ⟨w', as, h1, x, o, rh, ra, em⟩
    | err e h1 => exact fun pp => pp
    | bad => exact fun pp => pp
  refine PySem.W.callWith_K (h₀ := X.base) I.ok.mod.kin hk (thn (ha.run pos pins s σ H R I args) fun us s1 ⟨vs, H1, I1, r, w1, as, h1, x1, o1, rh1, ra, em⟩ => ⟨I1.kIn, ?_⟩) he hpl
  unfold mCallL at pp
  rw [em] at pp
  simp only [bindM_ok] at pp
  split at pp
  · rename_i us' hus
    have S1 := S.ext x1 o1 rh1
    obtain ⟨hl, L⟩ := hn _ _ _ _ em
    have rl := res_ok I1 S1 C.esc C.eN L ra hus
    have p1 := EPo.shift x1 o1 (pu := false) .no pp
    let w2 : Wd := ⟨w1.ρ, fun b => w1.Z b ∨ envT X b, w1.F⟩
    let H2 := trT (envT X) s1.heap H1
    have up : ∀ b o, H1 b = some o → H2 b = some o := fun b o q => (trT_keep I1 q).2
    have nT : ∀ b, H1 b ≠ none → ¬ envT X b := fun b n q => by obtain ⟨_, _, _, _, z, _⟩ := cel_at I1 q; exact n z
    have th : ∀ b, H1 b ≠ none → H2 b ≠ none := fun b n => by
      cases q : H1 b with
      | none => exact absurd q n
      | some o => rw [up b o q]; exact fun z => nomatch z
    have ok2 : WOk w2 H2 := ⟨o1.nd, fun b hb z => by
      rcases z with z | z
      · exact o1.sep b hb z
      · exact nT b (o1.trF b hb) z, fun b hb => th b (o1.trF b hb), fun b z => by
      rcases z with z | z
      · exact th b (o1.trZ b z)
      · obtain ⟨o, _, _, _, _, e⟩ := cel_at I1 z
        rw [show H2 b = _ from e]
        exact fun q => nomatch q⟩
    have rh2 : RH c w2.Z H2 w2.ρ h1 w2.F := RHl.mono (fun _ _ q => q) (fun _ z => .inl z) (fun b o _ q => up b o q) (fun b _ o q => up b o q) rh1
    have hlen : vs.length = n := by
      have : ∀ {as : List AU} {vs : List V}, RAl c w1.Z H1 w1.ρ X.env.cells as vs → vs.length = as.length := fun {as} => by
        induction as with
        | nil => intro vs h; rw [show vs = [] from h]; rfl
        | cons a as ih => intro vs ⟨v, r, e, _, t⟩; rw [e, List.length_cons, List.length_cons, ih t]
      rw [this ra, hl]
    refine run_tr F C.room hb M.fn I1 r ⟨hlen, w2, us', h1, ok2, rh2, rl, ?_⟩
    revert p1
    cases f us' h1 with
    | bad => exact fun p => p.elim
    | err e h' => exact fun p => p.elim
    | ok u h' =>
      cases u with
      | d d =>
        intro p1 w3 H3 v Fv mo rh3 ru3 tc
        have p1 : EPo false .E c W σ w1 H1 Q (if h'.all noCloC = true then .ok (.d d) h' else .bad) := p1
        by_cases hq : h'.all noCloC = true
        · rw [if_pos hq] at p1
          have eF : Fv = [] := ru3.1
          subst eF
          let w4 : Wd := ⟨w3.ρ, mZ w3.Z (envT X), w3.F⟩
          have x3 := mo.ext.1
          have o3 := mo.ext.2
          have zT : ∀ b, envT X b → w3.Z b := fun b q => x3.z b (.inr q)
          have nF : ∀ b ∈ w3.F, ¬ envT X b := fun b hb q => o3.sep b hb (zT b q)
          have x4 : Ext w1 H1 w4 (drT (envT X) H3) := ⟨x3.rho, fun b z => ⟨x3.z b (.inl z), nT b (o1.trZ b z)⟩, fun b o q n => by
            rw [drT_out (nT b (by rw [q]; exact fun z => nomatch z))]
            exact x3.keep b o (up b o q) n, fun b q => by
            have nb : ¬ envT X b := q.elim (fun z => z.2) (nF b)
            rcases x3.new b (q.elim (fun z => .inl z.1) .inr) with z | z | z
            · exact z.elim .inl fun z => absurd z nb
            · exact .inr (.inl z)
            · refine .inr (.inr ?_)
              exact (trT_out nb).symm.trans z, fun b n => by
            rw [drT_out (nT b n)]
            exact x3.there b (th b n)⟩
          have o4 : WOk w4 (drT (envT X) H3) := ⟨o3.nd, fun b hb z => o3.sep b hb z.1, fun b hb => by rw [drT_out (nF b hb)]; exact o3.trF b hb, fun b z => by rw [drT_out z.2]; exact o3.trZ b z.1⟩
          exact p1 w4 _ v [] ⟨by rw [List.append_nil]; exact x4, by rw [List.append_nil]; exact o4⟩ .no (RHl.dr tc hq rh3) ⟨rfl, RD.dr tc ru3.2⟩
        · rw [if_neg hq] at p1
          exact p1.elim
      | _ => exact fun p => p.elim
  · exact pp.elim
end
end MM

/-! MM22: the rules in the words of the printed derivations. -/
namespace MM
open PySem PySem.Spec PyProof.Rows L2

def visB (sc : Scope) (x : Str) : Bool := match sc.names.lookup x with
  | some .local => true
  | some .cell => true
  | some .free => true
  | _ => false
theorem visB_ok {sc : Scope} {x : Str} (h : visB sc x = true) : Vis sc x := by
  unfold visB at h
  split at h
  · rename_i q; exact .inl q
  · rename_i q; exact .inr (.inl q)
  · rename_i q; exact .inr (.inr q)
  · cases h
def locB (sc : Scope) (x : Str) : Bool := match sc.names.lookup x with
  | some .local => true
  | some .cell => true
  | _ => false
theorem locB_ok {sc : Scope} {x : Str} (h : locB sc x = true) : Loc sc x := by
  unfold locB at h
  split at h
  · rename_i q; exact .inl q
  · rename_i q; exact .inr q
  · cases h
/-- no such names in the module -/
def NoG (c : Cg) (L : List Str) : Prop := ∀ x ∈ L, c.mg x = none
theorem NoG.at {c : Cg} {L : List Str} (h : NoG c L) {x : Str} (hx : L.contains x = true) : c.mg x = none := h x (by simpa using hx)
/-- a def that is known by its function -/
def Gd (c : Cg) (P : Program) (w : World) (base : Heap) (k : Nat) (x : Str) (n : Nat) (f : MF) : Prop :=
  ∃ fa fd ps, FnOk P w c.K c.mg base (L2.CX P w) k fa fd ps (spM c n f) ∧ c.mg x = some (.ref fa) ∧ PySem.W.keepIn c.K (.ref fa) = true ∧ Binds c.K fd ps []
theorem Gd.mono {c : Cg} {P : Program} {w : World} {base : Heap} {j k : Nat} {x : Str} {n : Nat} {f : MF} (g : Gd c P w base j x n f) (h : j ≤ k) : Gd c P w base k x n f :=
  let ⟨fa, fd, ps, F, a, b, d⟩ := g; ⟨fa, fd, ps, F.mono h, a, b, d⟩
section
variable {c : Cg} {P : Program} {w : World} {base : Heap} {N : List Str} {sc : Scope} {k : Nat} {X : Cx} {W : WX} {pu : Bool} {L : List Str} {m ma mb : ME} {ms : MAs} {a b e : Expr} {es : List Expr} {p pos : Pos}
theorem Cc.blk (C : Cc c P w base N sc k X W) {scope : Scope} (hk : scope.kind = .function) : Blk X scope fun Y => Cc c P w base N (relS scope sc) k Y W0 := fun s H Ca cl fp =>
  ⟨C.eP, C.ew, C.eK, C.emg, C.ebase, C.eN, by rw [← C.esc]; rfl, C.calm, C.room, LamX.takes0, .never, hk, C.nd⟩
theorem Cc.hu (C : Cc c P w base N sc k X W) : X.A.units + 64 < cLine := by have := C.room.un; omega
theorem Cc.var (C : Cc c P w base N sc k X W) (i : Nat) {x : Str} (hi : N[i]? = some x := by rfl) (hv : visB sc x = true := by rfl) (hd : (x == ("__debug__" : Str)) = false := by decide) (hcd : (x == ("__classdict__" : Str)) = false := by decide) : PE X (.Name x pos) (tVar i) := C.v i hi (visB_ok hv) hd hcd
theorem Cc.glb (C : Cc c P w base N sc k X W) {x : Str} (h : sc.names.lookup x = some .globalImplicit := by rfl) : Gl X x := C.gl h
theorem Cc.fn (C : Cc c P w base N sc k X W) {j : Nat} {fa : Addr} {fd : FuncData} {ps : List Str} {sp : Sp} (F : FnOk P w c.K c.mg base (L2.CX P w) j fa fd ps sp) : FnOk X.prog X.w X.K X.mg X.base (L2.CX X.prog X.w) j fa fd ps sp := by
  rw [C.eP, C.ew, ← C.eK, ← C.emg, C.ebase]; exact F
theorem g_call (C : Cc c P w base N sc k X W) {x : Str} {n : Nat} {f : MF} (G : Gd c P w base k x n f) (ha : PA X (e :: es) (tAs false c W ms)) (hn : ArgN ms n) (hg : sc.names.lookup x = some .globalImplicit := by rfl) (hdb : (x == ("__debug__" : Str)) = false := by decide)
    (he : starEach (e :: es) X.env = (false, eval e X.env) :: starEach es X.env := by rfl) (hpl : (backTo pos (starEach es X.env)).any (·.1) = false := by rfl) : PE X (.Call (.Name x p) (e :: es) [] pos) (tV false .E c W (mCall f ms)) := by
  obtain ⟨fa, fd, ps, F, m1, m2, m3⟩ := G
  exact e_call (C.fn F) C.room (C.gl hg) (C.mgo m1) (by rw [← C.eK]; exact m2) (by rw [← C.eK]; exact m3) C.tk ha hn hdb he hpl
theorem g_callL (C : Cc c P w base N sc k X W) {cP Pt : Addr} {q : Str} (M : Lm X cP Pt q) {x : Str} {n : Nat} {f : MF} {mls : MLs} (G : Gd c P w base k x n f) (ha : PA X (e :: es) (tAsL c W X.env.cells mls)) (hn : ∀ σd hd as h1, mls σd hd = .ok as h1 → as.length = n ∧ LamsOk c sc N as) (hg : sc.names.lookup x = some .globalImplicit := by rfl) (hdb : (x == ("__debug__" : Str)) = false := by decide)
    (he : starEach (e :: es) X.env = (false, eval e X.env) :: starEach es X.env := by rfl) (hpl : (backTo pos (starEach es X.env)).any (·.1) = false := by rfl) : PE X (.Call (.Name x p) (e :: es) [] pos) (tV false .E c W (mCallL f mls)) := by
  obtain ⟨fa, fd, ps, F, m1, m2, m3⟩ := G
  exact e_callL C M (C.fn F) (C.gl hg) (C.mgo m1) (by rw [← C.eK]; exact m2) (by rw [← C.eK]; exact m3) ha hn hdb he hpl
/-! #### how many arguments, which lambdas -/
abbrev LN (c : Cg) (sc : Scope) (N : List Str) (ms : MLs) (n : Nat) : Prop := ∀ σd hd as h1, ms σd hd = .ok as h1 → as.length = n ∧ LamsOk c sc N as
theorem ln_nil : LN c sc N lNil 0 := fun σ h as h1 e => by cases e; exact ⟨rfl, fun _ z => nomatch z⟩
theorem ln_cons {mls : MLs} {n : Nat} (h : LN c sc N mls n) : LN c sc N (lCons m mls) (n + 1) := fun σ hd as h1 e => by
  unfold lCons at e
  cases q : m σ hd with
  | err x h' => rw [q] at e; cases e
  | bad => rw [q] at e; cases e
  | ok u h' =>
    rw [q] at e
    simp only [bindM_ok] at e
    split at e
    · cases q2 : mls σ h' with
      | err x h' => rw [q2] at e; cases e
      | bad => rw [q2] at e; cases e
      | ok us2 h2 =>
        rw [q2] at e
        simp only [bindM_ok] at e
        cases e
        obtain ⟨l1, l2⟩ := h _ _ _ _ q2
        exact ⟨by rw [List.length_cons, l1], fun a ha => (List.mem_cons.mp ha).elim (fun z => by rw [z]; trivial) (l2 a)⟩
    · cases e
theorem ln_lam {mls : MLs} {n i kt : Nat} {js : List Nat} {Pt : Addr} {q : Str} {J : CloI} (hci : c.ci i = some J) (LA : LamAt sc N J js) (h : LN c sc N mls n) : LN c sc N (lLam i js kt Pt q mls) (n + 1) := fun σ hd as h1 e => by
  unfold lLam at e
  split at e
  · split at e
    · cases q2 : mls σ hd with
      | err x h' => rw [q2] at e; cases e
      | bad => rw [q2] at e; cases e
      | ok us2 h2 =>
        rw [q2] at e
        simp only [bindM_ok] at e
        cases e
        obtain ⟨l1, l2⟩ := h _ _ _ _ q2
        exact ⟨by rw [List.length_cons, l1], fun a ha => (List.mem_cons.mp ha).elim (fun z => by rw [z]; exact ⟨J, hci, LA⟩) (l2 a)⟩
    · cases e
  · cases e
def lamAtB (sc : Scope) (N : List Str) (J : CloI) (js : List Nat) : Bool :=
  J.scope.names.all (fun y => !decide (y.2 = .free) || decide (sc.names.lookup y.1 = some .cell) || decide (sc.names.lookup y.1 = some .free)) && J.caps.all (fun y => decide ((y, NameKind.free) ∈ J.scope.names)) && decide (js.map (fun j => N[j]?) = J.caps.map some)
theorem lamAtB_ok {J : CloI} {js : List Nat} (h : lamAtB sc N J js = true) : LamAt sc N J js := by
  unfold lamAtB at h
  simp only [Bool.and_eq_true, List.all_eq_true, Bool.or_eq_true, Bool.not_eq_true', decide_eq_true_eq, decide_eq_false_iff_not] at h
  obtain ⟨⟨h1, h2⟩, h3⟩ := h
  exact ⟨fun y hy e => (h1 y hy).elim (fun z => z.elim (fun z => absurd e z) .inl) .inr, h2, h3⟩
def cloSB (J : CloI) : Bool :=
  decide (J.scope.kind = .function) && !J.scope.isCoroutine && !J.scope.isGenerator && J.scope.names.all (fun y => !decide (y.2 = .local) && !decide (y.2 = .cell)) && J.scope.names.all (fun y => !decide (y.2 = .free) || decide (y.1 ∈ J.caps)) && J.caps.all (fun y => decide (J.scope.names.lookup y = some .free)) && decide J.caps.Nodup
theorem cloSB_ok {J : CloI} (h : cloSB J = true) (hb : ∀ (cl : List (Str × Addr)) (pm cv ctv : Value), bindArgs (PySem.W.kla_fn "<lambda>" J.qual J.params J.body J.scope cl pm cv ctv) ⟨[], []⟩ = pure []) : CloS J := by
  unfold cloSB at h
  simp only [Bool.and_eq_true, List.all_eq_true, Bool.or_eq_true, Bool.not_eq_true', decide_eq_true_eq, decide_eq_false_iff_not] at h
  obtain ⟨⟨⟨⟨⟨⟨h1, h2⟩, h3⟩, h4⟩, h5⟩, h6⟩, h7⟩ := h
  exact ⟨h1, h2, h3, h4, fun y hy e => (h5 y hy).elim (fun z => absurd e z) id, h6, h7, hb⟩

/-! #### built-in functions -/
theorem g_len (C : Cc c P w base N sc k X W) (B : NoG c L) (ha : PE X a (tV pu .C c W m)) (hb : L.contains ("len" : Str) = true := by rfl) (hg : sc.names.lookup ("len" : Str) = some .globalImplicit := by rfl) (hs : starEach [a] X.env = (false, eval a X.env) :: starEach [] X.env := by rfl) : PE X (.Call (.Name "len" p) [a] [] pos) (tV pu .E c W (mUn fLen m)) :=
  e_call1 (by have := @call_len X; rw [← C.eK] at this; exact this) fLen_ok (C.gl hg) (C.mgo (B.at hb)) PySem.boot_len ha hs
theorem g_abs (C : Cc c P w base N sc k X W) (B : NoG c L) (ha : PE X a (tV pu .C c W m)) (hb : L.contains ("abs" : Str) = true := by rfl) (hg : sc.names.lookup ("abs" : Str) = some .globalImplicit := by rfl) (hs : starEach [a] X.env = (false, eval a X.env) :: starEach [] X.env := by rfl) : PE X (.Call (.Name "abs" p) [a] [] pos) (tV pu .E c W (mUn fAbs m)) :=
  e_call1 call_abs fAbs_ok (C.gl hg) (C.mgo (B.at hb)) (by first | exact PyProof.Rows.Boot.«abs» | kernel_rfl) ha hs
theorem g_int (C : Cc c P w base N sc k X W) (B : NoG c L) (ha : PE X a (tV pu .C c W m)) (hb : L.contains ("int" : Str) = true := by rfl) (hg : sc.names.lookup ("int" : Str) = some .globalImplicit := by rfl) (hs : starEach [a] X.env = (false, eval a X.env) :: starEach [] X.env := by rfl) : PE X (.Call (.Name "int" p) [a] [] pos) (tV pu .E c W (mUn fInt m)) :=
  e_callTy1 call_int1 fInt_ok (C.gl hg) (C.mgo (B.at hb)) (by first | exact PyProof.Rows.Boot.«int» | kernel_rfl) ha hs
theorem g_sum (C : Cc c P w base N sc k X W) (B : NoG c L) (ha : PE X a (tV pu .C c W m)) (hb : L.contains ("sum" : Str) = true := by rfl) (hg : sc.names.lookup ("sum" : Str) = some .globalImplicit := by rfl) (hs : starEach [a] X.env = (false, eval a X.env) :: starEach [] X.env := by rfl) : PE X (.Call (.Name "sum" p) [a] [] pos) (tV pu .E c W (mUn fSum m)) :=
  e_call1 (by have := cr_sumM C.calm; rw [← C.eK] at this; exact this) fSum_ok (C.gl hg) (C.mgo (B.at hb)) (by first | exact PyProof.Rows.Boot.«sum» | kernel_rfl) ha hs
theorem g_max1 (C : Cc c P w base N sc k X W) (B : NoG c L) (ha : PE X a (tV pu .C c W m)) (hb : L.contains ("max" : Str) = true := by rfl) (hg : sc.names.lookup ("max" : Str) = some .globalImplicit := by rfl) (hs : starEach [a] X.env = (false, eval a X.env) :: starEach [] X.env := by rfl) : PE X (.Call (.Name "max" p) [a] [] pos) (tV pu .E c W (mUn fMax m)) :=
  e_call1 (by have := cr_max C.calm; rw [← C.eK] at this; exact this) fMax_ok (C.gl hg) (C.mgo (B.at hb)) (by first | exact PyProof.Rows.Boot.«max» | kernel_rfl) ha hs
theorem g_min1 (C : Cc c P w base N sc k X W) (B : NoG c L) (ha : PE X a (tV pu .C c W m)) (hb : L.contains ("min" : Str) = true := by rfl) (hg : sc.names.lookup ("min" : Str) = some .globalImplicit := by rfl) (hs : starEach [a] X.env = (false, eval a X.env) :: starEach [] X.env := by rfl) : PE X (.Call (.Name "min" p) [a] [] pos) (tV pu .E c W (mUn fMin m)) :=
  e_call1 (by have := cr_min C.calm; rw [← C.eK] at this; exact this) fMin_ok (C.gl hg) (C.mgo (B.at hb)) (by first | exact PyProof.Rows.Boot.«min» | kernel_rfl) ha hs
theorem g_max2 (C : Cc c P w base N sc k X W) (B : NoG c L) (ha : PE X a (tV pu .B c W ma)) (hb : PE X b (tV pu .C c W mb)) (hb1 : L.contains ("max" : Str) = true := by rfl) (hg : sc.names.lookup ("max" : Str) = some .globalImplicit := by rfl) (hs : starEach [a, b] X.env = (false, eval a X.env) :: starEach [b] X.env := by rfl) (hs2 : starEach [b] X.env = (false, eval b X.env) :: starEach [] X.env := by rfl) (hpl : (backTo pos (starEach [b] X.env)).any (·.1) = false := by rfl) : PE X (.Call (.Name "max" p) [a, b] [] pos) (tV pu .E c W (mBin fMax2 ma mb)) :=
  e_call2 (call_max2 C.calm) fMax2_ok (C.gl hg) (C.mgo (B.at hb1)) (by first | exact PyProof.Rows.Boot.«max» | kernel_rfl) ha hb hs hs2 (hpl := hpl)
theorem g_min2 (C : Cc c P w base N sc k X W) (B : NoG c L) (ha : PE X a (tV pu .B c W ma)) (hb : PE X b (tV pu .C c W mb)) (hb1 : L.contains ("min" : Str) = true := by rfl) (hg : sc.names.lookup ("min" : Str) = some .globalImplicit := by rfl) (hs : starEach [a, b] X.env = (false, eval a X.env) :: starEach [b] X.env := by rfl) (hs2 : starEach [b] X.env = (false, eval b X.env) :: starEach [] X.env := by rfl) (hpl : (backTo pos (starEach [b] X.env)).any (·.1) = false := by rfl) : PE X (.Call (.Name "min" p) [a, b] [] pos) (tV pu .E c W (mBin fMin2 ma mb)) :=
  e_call2 (call_min2 C.calm) fMin2_ok (C.gl hg) (C.mgo (B.at hb1)) (by first | exact PyProof.Rows.Boot.«min» | kernel_rfl) ha hb hs hs2 (hpl := hpl)
theorem g_list (C : Cc c P w base N sc k X W) (B : NoG c L) (ha : PE X a (tV pu .C c W m)) (hb : L.contains ("list" : Str) = true := by rfl) (hg : sc.names.lookup ("list" : Str) = some .globalImplicit := by rfl) (hs : starEach [a] X.env = (false, eval a X.env) :: starEach [] X.env := by rfl) : PE X (.Call (.Name "list" p) [a] [] pos) (tV pu .E c W (mUn fList m)) :=
  e_callTy1 (by have := @call_list_of X; rw [← C.eK] at this; exact this) fList_ok (C.gl hg) (C.mgo (B.at hb)) (by first | exact PyProof.Rows.Boot.«list» | kernel_rfl) ha hs
theorem g_tuple (C : Cc c P w base N sc k X W) (B : NoG c L) (ha : PE X a (tV pu .C c W m)) (hb : L.contains ("tuple" : Str) = true := by rfl) (hg : sc.names.lookup ("tuple" : Str) = some .globalImplicit := by rfl) (hs : starEach [a] X.env = (false, eval a X.env) :: starEach [] X.env := by rfl) : PE X (.Call (.Name "tuple" p) [a] [] pos) (tV pu .E c W (mUn fTuple m)) :=
  e_callTy1 (by have := @call_tuple_of X; rw [← C.eK] at this; exact this) fTuple_ok (C.gl hg) (C.mgo (B.at hb)) (by first | exact PyProof.Rows.Boot.«tuple» | kernel_rfl) ha hs
theorem g_isi (C : Cc c P w base N sc k X W) (B : NoG c L) {T : ExT} (hT : ExOk c.K c.mg T) (ha : PE X a (tV pu .B c W ma)) (hb : PE X b (tV pu .C c W mb)) (hb1 : L.contains ("isinstance" : Str) = true := by rfl) (hg : sc.names.lookup ("isinstance" : Str) = some .globalImplicit := by rfl) (hs : starEach [a, b] X.env = (false, eval a X.env) :: starEach [b] X.env := by rfl) (hs2 : starEach [b] X.env = (false, eval b X.env) :: starEach [] X.env := by rfl) (hpl : (backTo pos (starEach [b] X.env)).any (·.1) = false := by rfl) : PE X (.Call (.Name "isinstance" p) [a, b] [] pos) (tV pu .E c W (mBin (fIsX T) ma mb)) :=
  e_call2 (by have := (@call_isi X).or (@call_isX X); rw [← C.eK] at this; exact this) (fIsX_ok hT) (C.gl hg) (C.mgo (B.at hb1)) (by first | exact PyProof.Rows.Boot.«isinstance» | kernel_rfl) ha hb hs hs2 (hpl := hpl)
theorem g_ty (C : Cc c P w base N sc k X W) (B : NoG c L) {x : Str} {n : String} (hv : bootBuiltins x = some (.type n)) (hb : L.contains x = true := by rfl) (hg : sc.names.lookup x = some .globalImplicit := by rfl) (hn : x ≠ "__name__" := by decide) (hd : (x == ("__debug__" : Str)) = false := by decide) : PE X (.Name x p) (tV pu .E c W (mK (.ty n))) :=
  e_ty (C.gl hg) (C.mgo (B.at hb)) hv hn hd
theorem g_glo (C : Cc c P w base N sc k X W) {x : Str} {fa : Addr} (hm : c.mg x = some (.ref fa)) (hg : sc.names.lookup x = some .globalImplicit := by rfl) (hd : (x == ("__debug__" : Str)) = false := by decide) : PE X (.Name x p) (tV pu .E c W (mK (.glo x))) :=
  e_glo (C.gl hg) (C.mgo hm) C.emg hd
end
end MM

/-! MM23: statements and defs in the words of the printed derivations; while; recursion. -/
namespace MM
open PySem PySem.Spec PyProof.Rows L2

/-! ### while, with fuel -/
def whileF (t : MT) (b : MS) : Nat → MS
  | 0 => fun _ _ => .bad
  | n + 1 => fun σ h => bindT (t σ h) σ fun k h1 => if k then (match b σ h1 with
    | .nx σ' h' => whileF t b n σ' h'
    | .ct σ' h' => whileF t b n σ' h'
    | .bk σ' h' => .nx σ' h'
    | r => r) else .nx σ h1
def sWhile (fu : SL → HS → Nat) (t : MT) (b : MS) : MS := fun σ h => whileF t b (fu σ h) σ h
section
variable {c : Cg} {P : Program} {w : World} {base : Heap} {N : List Str} {sc : Scope} {k : Nat} {X : Cx} {W : WX} {pu : Bool} {m ma mb : ME} {mt : MT} {ms ns : MS} {a b e : Expr} {es : List Expr} {p p' pos : Pos} {x : Str}
theorem s_while {t : Expr} {body : List Stmt} {fu : SL → HS → Nat} (hp : PassesOwn (model X.prog X.w) X.A X.env X.xe) (ht : PT X t (tB2 pu c W mt)) (hb : PSs X body (tS c W ms)) : PS X (.While t body [] pos) (tS c W (sWhile fu mt ms)) :=
  PS.imp (ps_while hp ht hb) fun D σ H ⟨w, Fs, σd, hd, S, p⟩ => by
    refine ⟨fun n σ' H' => ∃ w' Fs' σd' hd', Sta c w' Fs' σd' hd' σ' H' ∧ SPo c W (full w' Fs') H' D (whileF mt ms n σd' hd'), ⟨_, w, Fs, σd, hd, S, p⟩, fun n σ' H' ⟨w', Fs', σd', hd', S', p'⟩ => ?_⟩
    cases n with
    | zero => exact p'.elim
    | succ n =>
      refine stepST S' p' fun u h1 w1 H1 S1 p1 => ?_
      cases u with
      | false =>
        rw [if_neg Bool.false_ne_true] at p1 ⊢
        exact SPo.next p1 S1
      | true =>
        rw [if_pos rfl] at p1 ⊢
        refine ⟨fun σ2 H2 => ∃ w2 Fs2 σd2 hd2, Sta c w2 Fs2 σd2 hd2 σ2 H2 ∧ SPo c W (full w2 Fs2) H2 D (whileF mt ms n σd2 hd2), fun σ2 H2 h => ⟨n, Nat.lt_succ_self n, h⟩, w1, Fs', σd', h1, S1, ?_⟩
        revert p1
        cases ms σd' h1 with
        | nx σ2 h2 => exact fun p1 w2 Fs2 σ2' H2 x2 S2 => ⟨w2, Fs2, σ2, h2, S2, SPo.shift x2 S2.ok p1⟩
        | ct σ2 h2 => exact fun p1 w2 Fs2 σ2' H2 x2 S2 => ⟨w2, Fs2, σ2, h2, S2, SPo.shift x2 S2.ok p1⟩
        | bk σ2 h2 => exact fun p1 => p1
        | rt u h2 => exact fun p1 => p1
        | ex e σ2 h2 => exact fun p1 => p1
        | bad => exact fun p1 => p1
/-! ### names as targets -/
theorem Cc.hfF (C : Cc c P w base N sc k X W) (Fn : ∀ y, X.fn y = true) : X.fn x = true ∨ X.env.scope.names.lookup x = some .local := .inl (Fn x)
theorem Cc.pgN (C : Cc c P w base N sc k X W) (Fn : ∀ y, X.fn y = true) (i : Nat) (hi : N[i]? = some x := by rfl) (hl : locB sc x = true := by rfl) : PG X (.Name x pos) (gName i) := pg_name C.nd (C.ni hi) (C.lc (locB_ok hl)) (.inl (Fn x))
theorem Cc.pgL (C : Cc c P w base N sc k X W) (i : Nat) (hi : N[i]? = some x := by rfl) (hl : sc.names.lookup x = some .local := by rfl) : PG X (.Name x pos) (gName i) := pg_name C.nd (C.ni hi) (C.lc (.inl hl)) (.inr (by rw [C.esc]; exact hl))
theorem Cc.pgT (C : Cc c P w base N sc k X W) {n j : Nat} {t : TGs} (h : PGs X es t) (hn : (assignEach es X.env).length = n := by rfl) (hst : (assignEach es X.env).findIdx? (·.1) = none := by rfl) : PG X (.Tuple es j pos) (gTup c.K n t) := by
  rw [C.eK]; exact pg_tup C.calm h hn hst
/-! ### small statements -/
theorem g_set (C : Cc c P w base N sc k X W) (Fn : ∀ y, X.fn y = true) (i : Nat) (he : PE X e (tV pu .E c W m)) (hi : N[i]? = some x := by rfl) (hl : locB sc x = true := by rfl) (hsw : swapsWith e (some (.Name x p')) pos.line X.env = pure false := by rfl) : PS X (.Assign [.Name x p'] e pos) (tS c W (sSet i m)) :=
  s_set (fun h => ps_set C.nd (C.ni hi) (C.lc (locB_ok hl)) h hsw (.inl (Fn x))) he
theorem g_mv (C : Cc c P w base N sc k X W) (Fn : ∀ y, X.fn y = true) (i j : Nat) {y : Str} (hi : N[i]? = some x := by rfl) (hl : locB sc x = true := by rfl) (hj : N[j]? = some y := by rfl) (hv : visB sc y = true := by rfl) (hsw : swapsWith (.Name y p) (some (.Name x p')) pos.line X.env = pure false := by rfl)
    (hd : (y == ("__debug__" : Str)) = false := by decide) (hcd : (y == ("__classdict__" : Str)) = false := by decide) : PS X (.Assign [.Name x p'] (.Name y p) pos) (tS c W (sMv i j)) :=
  s_mv i j (fun h => ps_set C.nd (C.ni hi) (C.lc (locB_ok hl)) h hsw (.inl (Fn x))) (C.var j hj hv hd hcd)
theorem g_aug (C : Cc c P w base N sc k X W) (Fn : ∀ y, X.fn y = true) (i : Nat) {op : Operator} {g : Int → Int → Int} (hop : PIp X op (ipI g)) (he : PE X e (tV pu .C c W m)) (hi : N[i]? = some x := by rfl) (hl : locB sc x = true := by rfl) : PS X (.AugAssign (.Name x p') op e pos) (tS c W (sAug i g m)) :=
  s_aug rfl (fun h => ps_aug C.nd (C.ni hi) (C.lc (locB_ok hl)) h hop (.inl (Fn x))) he
theorem g_for (C : Cc c P w base N sc k X W) {tg iter : Expr} {body : List Stmt} {g : TG} {td : TD} (hi : PE X iter (tV pu .E c W m)) (hg : PG X tg g) (hgs : TgS c g td) (hb : PSs X body (tS c W ms)) (hs : ∀ y, foldedSetIterable iter X.env y = pure y := by intro _; rfl) : PS X (.For tg iter body [] pos) (tS c W (sFor m td ms)) :=
  s_for C.eK C.po C.calm hi hg hgs hb hs
variable {L : List Str}
theorem g_forR1 (C : Cc c P w base N sc k X W) (B : NoG c L) {tg : Expr} {body : List Stmt} {g : TG} {td : TD} (hb : PE X b (tV pu .C c W mb)) (hg : PG X tg g) (hgs : TgS c g td) (hbd : PSs X body (tS c W ms)) (hb1 : L.contains ("range" : Str) = true := by rfl) (hgl : sc.names.lookup ("range" : Str) = some .globalImplicit := by rfl) (hs2 : starEach [b] X.env = [(false, eval b X.env)] := by rfl) :
    PS X (.For tg (.Call (.Name "range" p) [b] [] p') body [] pos) (tS c W (sForR (mK (.int 0)) mb td ms)) := s_forR1 C.po C.calm (C.gl hgl) (C.mgo (B.at hb1)) hb hg hgs hbd hs2
theorem g_forR2 (C : Cc c P w base N sc k X W) (B : NoG c L) {tg : Expr} {body : List Stmt} {g : TG} {td : TD} (ha : PE X a (tV pu .C c W ma)) (hb : PE X b (tV pu .C c W mb)) (hg : PG X tg g) (hgs : TgS c g td) (hbd : PSs X body (tS c W ms)) (hb1 : L.contains ("range" : Str) = true := by rfl) (hgl : sc.names.lookup ("range" : Str) = some .globalImplicit := by rfl)
    (hs : starEach [a, b] X.env = [(false, eval a X.env), (false, eval b X.env)] := by rfl) (hs2 : starEach [b] X.env = [(false, eval b X.env)] := by rfl) :
    PS X (.For tg (.Call (.Name "range" p) [a, b] [] p') body [] pos) (tS c W (sForR ma mb td ms)) := s_forR2 C.po C.calm (C.gl hgl) (C.mgo (B.at hb1)) ha hb hg hgs hbd hs hs2
/-! ### comprehensions -/
variable {elt tg iter : Expr} {ifs : List Expr} {scope : Scope} {own : List (Str × Nat)} {g : TG} {td : TD} {me : ME}
theorem g_comp (C : Cc c P w base N sc k X W) (hi : PE X iter (tV pu .E c W m)) (ok : blkC N sc scope own = true) (hgs : TgS c g td) (hgw : TgW g (own.map (·.2))) (hg : Blk X scope fun Y => PG Y tg g) (ht : Blk X scope fun Y => PTs Y ifs (tB2 pu c W0 mt)) (he : Blk X scope fun Y => PE Y elt (tV pu .E c W0 me))
    (hs : ∀ y, foldedSetIterable iter X.env y = pure y := by intro _; rfl) : PE X (.ListComp elt [⟨tg, iter, ifs, 0⟩] scope pos) (tV pu .E c W (mComp m td (own.map (·.2)) mt me)) :=
  e_comp C.eK C.calm C.nd hi (by rw [C.eN, C.esc]; exact blkOk_by ok) hgs hgw hg ht he hs
theorem g_compR1 (C : Cc c P w base N sc k X W) (B : NoG c L) (hb : PE X b (tV pu .C c W mb)) (ok : blkC N sc scope own = true) (hgs : TgS c g td) (hgw : TgW g (own.map (·.2))) (hg : Blk X scope fun Y => PG Y tg g) (ht : Blk X scope fun Y => PTs Y ifs (tB2 pu c W0 mt)) (he : Blk X scope fun Y => PE Y elt (tV pu .E c W0 me))
    (hb1 : L.contains ("range" : Str) = true := by rfl) (hgl : sc.names.lookup ("range" : Str) = some .globalImplicit := by rfl) (hs2 : starEach [b] X.env = [(false, eval b X.env)] := by rfl) : PE X (.ListComp elt [⟨tg, .Call (.Name "range" p) [b] [] p', ifs, 0⟩] scope pos) (tV pu .E c W (mCompR (mK (.int 0)) mb td (own.map (·.2)) mt me)) :=
  e_compR1 C.calm C.nd (C.gl hgl) (C.mgo (B.at hb1)) hb (by rw [C.eN, C.esc]; exact blkOk_by ok) hgs hgw hg ht he hs2
theorem g_compR2 (C : Cc c P w base N sc k X W) (B : NoG c L) (ha : PE X a (tV pu .C c W ma)) (hb : PE X b (tV pu .C c W mb)) (ok : blkC N sc scope own = true) (hgs : TgS c g td) (hgw : TgW g (own.map (·.2))) (hg : Blk X scope fun Y => PG Y tg g) (ht : Blk X scope fun Y => PTs Y ifs (tB2 pu c W0 mt)) (he : Blk X scope fun Y => PE Y elt (tV pu .E c W0 me))
    (hb1 : L.contains ("range" : Str) = true := by rfl) (hgl : sc.names.lookup ("range" : Str) = some .globalImplicit := by rfl) (hs : starEach [a, b] X.env = [(false, eval a X.env), (false, eval b X.env)] := by rfl) (hs2 : starEach [b] X.env = [(false, eval b X.env)] := by rfl) : PE X (.ListComp elt [⟨tg, .Call (.Name "range" p) [a, b] [] p', ifs, 0⟩] scope pos) (tV pu .E c W (mCompR ma mb td (own.map (·.2)) mt me)) :=
  e_compR2 C.calm C.nd (C.gl hgl) (C.mgo (B.at hb1)) ha hb (by rw [C.eN, C.esc]; exact blkOk_by ok) hgs hgw hg ht he hs hs2
/-! ### a try's body, an except suite -/
theorem Cc.tr (C : Cc c P w base N sc k X W) {W' : WX} {pn : List (Addr × Obj)} {xe : Value → Shared → Prop} (tk : Takes (X.tr pn xe) W') (po : PassesOwn (model X.prog X.w) X.A X.env xe) : Cc c P w base N sc k (X.tr pn xe) W' :=
  ⟨C.eP, C.ew, C.eK, C.emg, C.ebase, C.eN, C.esc, C.calm, C.room, tk, po, C.fk, C.nd⟩
/-- the bare context: names are read, nothing is called -/
structure Cq (c : Cg) (N : List Str) (sc : Scope) (X : Cx) : Prop where
  eK : c.K = X.K
  emg : c.mg = X.mg
  eN : X.N = N
  esc : X.env.scope = sc
  hu : X.A.units + 64 < cLine
theorem Cc.su (C : Cc c P w base N sc k X W) (a : Addr) (pn : List (Addr × Obj)) : Cq c N sc (X.suite a pn) := ⟨C.eK, C.emg, C.eN, C.esc, C.hu⟩
theorem Cq.var (C : Cq c N sc X) (i : Nat) {x : Str} (hi : N[i]? = some x := by rfl) (hv : visB sc x = true := by rfl) (hd : (x == ("__debug__" : Str)) = false := by decide) (hcd : (x == ("__classdict__" : Str)) = false := by decide) : PE X (.Name x pos) (tVar i) := pe_var (by rw [C.eN]; exact hi) (by rw [C.esc]; exact visB_ok hv) hd hcd
theorem Cq.gl (C : Cq c N sc X) {x : Str} (h : sc.names.lookup x = some .globalImplicit) : Gl X x := by
  show X.env.scope.names.lookup x = _
  rw [C.esc]; exact h
theorem q_isi (C : Cq c N sc X) (B : NoG c L) {T : ExT} (hT : ExOk c.K c.mg T) (ha : PE X a (tV pu .B c W ma)) (hb : PE X b (tV pu .C c W mb)) (hb1 : L.contains ("isinstance" : Str) = true := by rfl) (hg : sc.names.lookup ("isinstance" : Str) = some .globalImplicit := by rfl) (hs : starEach [a, b] X.env = (false, eval a X.env) :: starEach [b] X.env := by rfl) (hs2 : starEach [b] X.env = (false, eval b X.env) :: starEach [] X.env := by rfl) (hpl : (backTo pos (starEach [b] X.env)).any (·.1) = false := by rfl) : PE X (.Call (.Name "isinstance" p) [a, b] [] pos) (tV pu .E c W (mBin (fIsX T) ma mb)) :=
  e_call2 (by have := (@call_isi X).or (@call_isX X); rw [← C.eK] at this; exact this) (fIsX_ok hT) (C.gl hg) (by rw [← C.emg]; exact B.at hb1) (by first | exact PyProof.Rows.Boot.«isinstance» | kernel_rfl) ha hb hs hs2 (hpl := hpl)
theorem q_ty (C : Cq c N sc X) (B : NoG c L) {x : Str} {n : String} (hv : bootBuiltins x = some (.type n)) (hb : L.contains x = true := by rfl) (hg : sc.names.lookup x = some .globalImplicit := by rfl) (hn : x ≠ "__name__" := by decide) (hd : (x == ("__debug__" : Str)) = false := by decide) : PE X (.Name x p) (tV pu .E c W (mK (.ty n))) :=
  e_ty (C.gl hg) (by rw [← C.emg]; exact B.at hb) hv hn hd
theorem q_glo (C : Cq c N sc X) {x : Str} {fa : Addr} (hm : c.mg x = some (.ref fa)) (hg : sc.names.lookup x = some .globalImplicit := by rfl) (hd : (x == ("__debug__" : Str)) = false := by decide) : PE X (.Name x p) (tV pu .E c W (mK (.glo x))) :=
  e_glo (C.gl hg) (by rw [← C.emg]; exact hm) C.emg hd
theorem q_xf (C : Cq c N sc X) {T : ExT} {f : Str} (hT : ExOk c.K c.mg T) (he : PE X e (tV pu .C c W m)) (hb : attributeBase e f X.env (eval e X.env) = eval e X.env := by rfl) : PE X (.Attribute e f pos) (tV pu .E c W (mXf T f m)) :=
  e_xf (by rw [← C.eK, ← C.emg]; exact hT) C.emg he hb
/-! ### defs -/
/-- what the head tells of a def -/
structure DefF (c : Cg) (x : Str) (st : Stmt) (fa : Addr) (fd : FuncData) (ps : List Str) : Prop where
  F : Fun c.K x x st fa fd
  m : c.mg x = some (.ref fa)
  b : Binds c.K fd ps []
theorem gd_of {x : Str} {st : Stmt} {fa : Addr} {fd : FuncData} {ps : List Str} {n nN : Nat} {b : MS} (D : DefF c x st fa fd ps) (S : FnScope N ps (defScope st)) (hn : ps.length = n) (hN : N.length = nN)
    (hb : ∀ (X : Cx) (W : WX), Cc c P w base N (defScope st) k X W → (∀ y, X.fn y = true) → X.stack = X.env :: X.outer → X.env.frame = some X.env.locals → PSs X (defBody st) (tS c W b)) : Gd c P w base (k + 1) x n (fnM nN b) := by
  refine ⟨fa, fd, ps, D.F.okX S (spM_len hn) fun cdv A outer s H vs Q E hr h => ⟨_, hb _ _ ⟨rfl, rfl, rfl, rfl, rfl, rfl, rfl, rfl, hr, takes_of rfl rfl rfl rfl, passes_of rfl, S.kind, S.nd⟩ (fun _ => rfl) rfl rfl, body_ok N hN h⟩, D.m, D.F.kp, D.b⟩
/-- a def that makes lambdas: its code object is known -/
theorem gd_ofL {x q : Str} {st : Stmt} {fa cP Pt : Addr} {fd : FuncData} {ps : List Str} {n nN : Nat} {b : MS} {oc kV doc pm ct : Value} {od an : Option Addr} {osl : Array (Option Value)} (D : DefF c x st fa fd ps)
    (lk : c.K.lookup fa = some ⟨oc, od, .func (PySem.W.fnOf x x (defArgs st) (defBody st) (defScope st) .none kV doc pm an (.ref cP) ct), osl⟩) (hcd : PySem.W.codeIn c.K (.ref cP) x = true) (TB : LamX.TabB base c.mg cP Pt) (hq : (x ++ ".<locals>." : Str) ++ "<lambda>" = q)
    (S : FnScope N ps (defScope st)) (hn : ps.length = n) (hN : N.length = nN)
    (hb : ∀ (X : Cx) (W : WX), Cc c P w base N (defScope st) k X W → (∀ y, X.fn y = true) → X.stack = X.env :: X.outer → X.env.frame = some X.env.locals → Lm X cP Pt q → PSs X (defBody st) (tS c W b)) (hbd : Binds c.K (PySem.W.fnOf x x (defArgs st) (defBody st) (defScope st) .none kV doc pm an (.ref cP) ct) ps []) : Gd c P w base (k + 1) x n (fnM nN b) := by
  refine ⟨fa, _, ps, fn_of lk hcd S (spM_len hn) fun A outer s H vs Q E hr h => ⟨_, hb _ _ ⟨rfl, rfl, rfl, rfl, rfl, rfl, rfl, rfl, hr, takes_of rfl rfl rfl rfl, passes_of rfl, S.kind, S.nd⟩ (fun _ => rfl) rfl rfl ⟨rfl, hq, TB, fun _ => rfl, rfl⟩, body_ok N hN h⟩, D.m, D.F.kp, hbd⟩
/-- with its new cells given up -/
theorem Gd.T {x : Str} {n nN : Nat} {b : MS} (G : Gd c P w base k x n (fnM nN b)) : Gd c P w base k x n (fnT nN b) := by
  obtain ⟨fa, fd, ps, F, m1, m2, m3⟩ := G
  exact ⟨fa, fd, ps, F.imp fun vs H Q E q => spM_T q, m1, m2, m3⟩
/-- recursion by fuel -/
theorem gd_rec {x : Str} {st : Stmt} {fa : Addr} {fd : FuncData} {ps : List Str} {n : Nat} {F : Nat → MF} (D : DefF c x st fa fd ps) (hn : ps.length = n) (h0 : ∀ us h, F 0 us h = .bad) (hs : ∀ j, Gd c P w base (k + j) x n (F j) → Gd c P w base (k + j + 1) x n (F (j + 1))) : ∀ j, Gd c P w base (k + j) x n (F j)
  | 0 => ⟨fa, fd, ps, ⟨spM_len hn, fun A outer s H args us vs Q E _ _ _ _ ⟨_, _, us', hd, _, _, _, p⟩ => by rw [h0] at p; exact p.elim⟩, D.m, D.F.kp, D.b⟩
  | j + 1 => hs j (gd_rec D hn h0 hs j)
end
end MM

/-! MM24: operators for the printed derivations. -/
namespace MM
open PySem PySem.Spec PyProof.Rows L2
section
variable {c : Cg} {P : Program} {w : World} {base : Heap} {N : List Str} {sc : Scope} {k : Nat} {X : Cx} {W : WX} {pu : Bool} {m ma mb : ME} {a b e : Expr} {p pos : Pos} {x : Str}
theorem blkI (C : Cc c P w base N sc k X W) {scope : Scope} (hk : scope.kind = .function) {R : Cx → Prop} (h : ∀ Y, Cc c P w base N (relS scope sc) k Y W0 → R Y) : Blk X scope R := fun s H Ca cl fp => h _ (C.blk hk s H Ca cl fp)
theorem Cc.addR (C : Cc c P w base N sc k X W) : OpR X (binaryOp .Add) (rAddM c.K) := by rw [C.eK]; exact op_addM
theorem Cc.mulR (C : Cc c P w base N sc k X W) : OpR X (binaryOp .Mult) rMulM := op_mulM
theorem Cc.eqR (C : Cc c P w base N sc k X W) : OpR X (compareOp .Eq) (rEqD c.K) := by rw [C.eK]; exact op_eqD C.hu
theorem Cc.neR (C : Cc c P w base N sc k X W) : OpR X (compareOp .NotEq) (rNeD c.K) := by rw [C.eK]; exact op_neD C.hu
theorem Cc.inR (C : Cc c P w base N sc k X W) : OpR X (compareOp .In) (rIn c.K false) := by rw [C.eK]; exact op_in_seq
theorem Cc.niR (C : Cc c P w base N sc k X W) : OpR X (compareOp .NotIn) (rIn c.K true) := by rw [C.eK]; exact op_notIn_seq
theorem Cq.eqR (C : Cq c N sc X) : OpR X (compareOp .Eq) (rEqD c.K) := by rw [C.eK]; exact op_eqD C.hu
theorem Cq.neR (C : Cq c N sc X) : OpR X (compareOp .NotEq) (rNeD c.K) := by rw [C.eK]; exact op_neD C.hu
theorem Cq.addR (C : Cq c N sc X) : OpR X (binaryOp .Add) (rAddM c.K) := by rw [C.eK]; exact op_addM
theorem Cq.inR (C : Cq c N sc X) : OpR X (compareOp .In) (rIn c.K false) := by rw [C.eK]; exact op_in_seq
/-- a dict of the module, by text keys -/
theorem g_tab (C : Cc c P w base N sc k X W) {q : Addr} {t : List (Str × DV)} {px : Pos} (hm : c.mg x = some (.ref q)) (ht : TabOk c w q t) (hb : PE X b (tV pu .C c W mb)) (hs : PlainIx b := by exact fun _ _ => rfl) (hg : sc.names.lookup x = some .globalImplicit := by rfl) (hd : (x == ("__debug__" : Str)) = false := by decide) : PE X (.Subscript (.Name x px) b pos) (tV pu .E c W (mUn (tabGet t) mb)) :=
  e_tab C.eK (C.gl hg) (C.mgo hm) (by rw [C.ew]; exact ht) hb hs hd
/-- a class of exceptions whose __init__ is known: its fields in the order of the parameters -/
def Ra (c : Cg) (P : Program) (w : World) (base : Heap) (k : Nat) (x : Str) (fs : List Str) : Prop :=
  ∃ C fI fd ps, OexC c.K C ∧ PySem.W.findIn c.K (.ref C) "__init__" = some (some (.ref fI)) ∧ PySem.W.typeIn c.K (.ref fI) = some (.type "function") ∧ FnOk P w c.K c.mg base (L2.CX P w) k fI fd ps (spIni C fs) ∧ Binds c.K fd ps [] ∧ c.mg x = some (.ref C)
theorem Ra.mono {j : Nat} {fs : List Str} (r : Ra c P w base j x fs) (h : j ≤ k) : Ra c P w base k x fs := let ⟨C, fI, fd, ps, a1, a2, a3, F, a4, a5⟩ := r; ⟨C, fI, fd, ps, a1, a2, a3, F.mono h, a4, a5⟩
theorem g_raise (C : Cc c P w base N sc (k + 1) X W) {fs : List Str} {es : List Expr} {ms : MAs} {pos2 : Pos} (R : Ra c P w base k x fs) (ha : PA X (e :: es) (tAs false c W ms)) (hn : ArgN ms fs.length) (hlen : fs.length ≤ 1000 := by decide) (hg : sc.names.lookup x = some .globalImplicit := by rfl) (hdb : (x == ("__debug__" : Str)) = false := by decide)
    (he : starEach (e :: es) X.env = (false, eval e X.env) :: starEach es X.env := by rfl) (hpl : (backTo pos (starEach es X.env)).any (·.1) = false := by rfl) : PS X (.Raise (some (.Call (.Name x p) (e :: es) [] pos)) none pos2) (tS c W (sRaise x fs ms)) := by
  obtain ⟨Ca, fI, fd, ps, a1, a2, a3, F, a4, a5⟩ := R
  exact s_raise C.calm C.tk C.emg (by rw [← C.eK]; exact a1) (by rw [← C.eK]; exact a2) (by rw [← C.eK]; exact a3) (C.fn F) C.room (by rw [← C.eK]; exact a4) (C.gl hg) (C.mgo a5) ha hn hlen hdb he hpl
/-- a written dict of ints, the keys that are asked -/
theorem tabOk_by {q : Addr} {t : List (Str × DV)} {es : Array DictEntry} {n : Nat} (l : c.K.lookup q = some ⟨.type "dict", none, .dict es n, #[]⟩) (kl : PySem.W.KeysLit w.params es.toList) (h : ∀ y ∈ t, ∃ i tok, y.2 = .int i ∧ PySem.W.nsIn c.K q y.1 = some (some (.int i tok))) : TabOk c w q t := fun x d e => by
  obtain ⟨i, tok, e1, e2⟩ := h (x, d) (PySem.mem_of_lookup e)
  have e1 : d = .int i := e1
  subst e1
  exact ⟨.int i, ⟨es, n, _, l, kl, e2, tok, rfl⟩, fun _ _ => rfl⟩
theorem hciOf {t : Nat → Option CloI} {i : Nat} {J : CloI} (h : c.ci = t) (e : t i = some J) : c.ci i = some J := by rw [h]; exact e
end
/-! ### ways into the text -/
def kidsE : Expr → List Expr
  | .Call (func := f) (args := a) .. => f :: a
  | .UnaryOp (operand := a) .. => [a]
  | .BinOp (left := a) (right := b) .. => [a, b]
  | .BoolOp (values := a) .. => a
  | .Compare (left := a) (comparators := b) .. => a :: b
  | .IfExp (test := t) (body := a) (orelse := b) .. => [t, a, b]
  | .Subscript (value := a) (slice := b) .. => [a, b]
  | .Attribute (value := a) .. => [a]
  | .Tuple (elts := a) .. => a
  | .List (elts := a) .. => a
  | _ => []
def kidsS : Stmt → List Expr × List Stmt
  | .Expr (value := e) .. => ([e], [])
  | .Assign (targets := t) (value := e) .. => (e :: t, [])
  | .AugAssign (target := t) (value := e) .. => ([e, t], [])
  | .Return (value := some e) .. => ([e], [])
  | .If (test := t) (body := b) (orelse := o) .. => ([t], b ++ o)
  | .For (iter := i) (body := b) (orelse := o) .. => ([i], b ++ o)
  | .While (test := t) (body := b) (orelse := o) .. => ([t], b ++ o)
  | .Try (body := b) .. => ([], b)
  | .FunctionDef (body := b) .. => ([], b)
  | _ => ([], [])
def atE : List Nat → Expr → Option Expr
  | [], e => some e
  | i :: r, e => match (kidsE e)[i]? with
    | some d => atE r d
    | none => none
def atS : List Nat → Stmt → Option Stmt
  | [], s => some s
  | i :: r, s => match (kidsS s).2[i]? with
    | some d => atS r d
    | none => none
/-- the expression e of the statement at p, the way q in it -/
def wayE (p : List Nat) (e : Nat) (q : List Nat) (s : Stmt) : Option Expr := (atS p s).bind fun d => ((kidsS d).1[e]?).bind (atE q)
/-- a lambda's parts -/
def lamOf (qual : Str) (caps : List Str) : Option Expr → CloI
  | some (.Lambda (args := a) (body := b) (scope := s) ..) => ⟨a, b, s, qual, caps⟩
  | _ => ⟨⟨[], [], none, [], [], none, []⟩, .Constant .none 0 ⟨0, 0, 0, 0⟩, ⟨.function, [], false, false, []⟩, qual, caps⟩
/-- the top's statements -/
def topOf (q : Program) (i : Nat) : Stmt := q.main.body.getD i (.Pass ⟨0, 0, 0, 0⟩)
/-- a class's statements -/
def clsBody : Stmt → List Stmt
  | .ClassDef (body := b) .. => b
  | _ => []
def inCls (s : Stmt) (i : Nat) : Stmt := (clsBody s).getD i (.Pass ⟨0, 0, 0, 0⟩)
end MM

/-! MM25: from what the head tells to what the derivations ask; the law's end. -/
namespace MM
open PySem PySem.Spec PyProof.Rows L2
abbrev Bnd1 (x : Str) (st : Stmt) (ps : List Str) : Prop := ∀ (kV doc pm : Value) (an : Option Addr) (cdv ct : Value) (us : List Value), us.length = ps.length → bindArgs (PySem.W.fnOf x x (defArgs st) (defBody st) (defScope st) .none kV doc pm an cdv ct) ⟨us, []⟩ = pure (ps.zip us)
section
variable {c : Cg} {P : Program} {w : World} {base h : Heap} {k : Nat}
theorem defF_mk {x : Str} {st : Stmt} {fa : Addr} {ps : List Str} {oc kV doc pm cdv ct : Value} {od an : Option Addr} {osl : Array (Option Value)} (X : c.K.In h) (G : h.Ns mainGlobals c.mg) (a : PySem.W.nsIn c.K mainGlobals x = some (some (.ref fa)))
    (l : c.K.lookup fa = some ⟨oc, od, .func (PySem.W.fnOf x x (defArgs st) (defBody st) (defScope st) .none kV doc pm an cdv ct), osl⟩) (cc : PySem.W.codeIn c.K cdv x = true) (kk : PySem.W.keepIn c.K (.ref fa) = true) (hb : Bnd1 x st ps) : DefF c x st fa (PySem.W.fnOf x x (defArgs st) (defBody st) (defScope st) .none kV doc pm an cdv ct) ps :=
  have F := fun_mk l cc kk
  ⟨F, PySem.W.mg_of X G a, F.binds hb⟩
/-- an own class of exceptions: what the head tells -/
structure ExcF (K : PySem.W.Frag) (C : Addr) : Prop where
  o : OexC K C
  x : ExcC K C
theorem excF_mk {K : PySem.W.Frag} {C : Addr} {nm q N bs bm sn sub ab col dd k0 k1 k2 k3 k5} (l : K.lookup C = some (excClassObj nm q C N bs bm true sn sub ab col dd k0 k1 k2 k3 k5 "ValueError.__new__")) (hb : PySem.HandSPX.refsVE bm = true) (sa : PySem.W.findIn K (.ref C) "__setattr__" = some (some (.builtin "object.__setattr__")))
    (ex : PySem.W.subIn K (.ref C) (.type "BaseException") = some true) (ty : PySem.W.typeIn K (.ref C) = some (.type "type")) (kc : PySem.W.keepIn K (.ref C) = true) (hg : PySem.W.findIn K (.ref C) "__getattribute__" = some (some (.builtin "BaseException.__getattribute__"))) (hk : PySem.W.findIn K (.ref C) "__getattr__" = some none)
    (hd : PySem.W.hasDictIn K C = true) (ha : PySem.W.findIn K (.ref C) "__class__" = some (some (.builtin "object.__class__"))) (hn : PySem.W.specialIn K (.builtin "object.__class__") "__get__" = some (some (.builtin "getset_descriptor.__get__"))) (ht : PySem.W.takesIn K (.builtin "object.__class__") = some true) (hm : PySem.W.mroIn K C (.type "object") = some true) : ExcF K C :=
  ⟨⟨⟨nm, q, N, bs, bm, sn, sub, ab, col, dd, k0, k1, k2, k3, k5, l, hb⟩, sa, ex, ty, kc⟩, ⟨hg, hk, ex, hd, ha, hn, ht, hm⟩⟩
theorem ExcF.xf {K : PySem.W.Frag} {C : Addr} (e : ExcF K C) : XfC K C := ⟨e.x.hg, e.x.hk, e.x.hs, e.x.hd⟩
/-- one class asked of another -/
theorem pair_g {K : PySem.W.Frag} {C D : Addr} {b : Bool} (c' : ExcF K C) (d : ExcF K D) (s : PySem.W.subIn K (.ref C) (.ref D) = some b) (e : C = D → b = true) : PySem.W.exmOne K (.ref C) (.ref D) = some b ∧ PySem.W.kitOne K (.ref C) (.ref D) = some b ∧ ExcC K C := by
  have h1 := PySem.W.exm_ref d.x.hs d.x.hd d.o.tyC s
  have h2 : PySem.W.kitCls K (.ref C) (.ref D) = some b := by
    unfold PySem.W.exmOne at h1
    rw [if_pos (by rw [d.x.hs]; rfl)] at h1
    exact h1
  refine ⟨h1, ?_, c'.x⟩
  unfold PySem.W.kitOne
  by_cases q : C = D
  · rw [if_pos (by rw [q]; exact beq_self_eq_true _), e q]
  · rw [if_neg (fun z => q (Value.ref.inj (eq_of_beq z)))]; exact h2
theorem pair_t {K : PySem.W.Frag} {C : Addr} {n : String} {b : Bool} (c' : ExcF K C) (ex : PySem.W.subIn K (.type n) (.type "BaseException") = some true) (mt : PySem.W.kitMeta n = true) (s : PySem.W.subIn K (.ref C) (.type n) = some b) : PySem.W.exmOne K (.ref C) (.type n) = some b ∧ PySem.W.kitOne K (.ref C) (.type n) = some b ∧ ExcC K C := by
  have h2 : PySem.W.kitCls K (.ref C) (.type n) = some b := by
    show (if PySem.W.kitMeta n = true then PySem.W.subIn K (.ref C) (.type n) else none) = some b
    rw [if_pos mt]; exact s
  refine ⟨?_, ?_, c'.x⟩
  · unfold PySem.W.exmOne
    rw [if_pos (by rw [ex]; rfl)]; exact h2
  · unfold PySem.W.kitOne
    rw [if_neg (show ¬ (Value.ref C == Value.type n) = true from fun z => by have := eq_of_beq z; cases this)]; exact h2
theorem lookup_mem {α β : Type} [BEq α] [LawfulBEq α] {a : α} {b : β} : ∀ {l : List (α × β)}, l.lookup a = some b → (a, b) ∈ l
  | [], h => by cases h
  | (x, y) :: r, h => by
    rw [List.lookup_cons] at h
    cases q : a == x with
    | true => rw [q] at h; cases h; rw [eq_of_beq q]; exact List.mem_cons_self
    | false => rw [q] at h; exact List.mem_cons_of_mem _ (lookup_mem h)
/-- the tables, entry by entry -/
theorem exOk_by {K : PySem.W.Frag} {mg : Str → Option Value} {sg : List ((Str × Str) × Bool)} {st : List ((Str × String) × Bool)} {fl : List (Str × Str)}
    (h1 : ∀ p ∈ sg, ∃ C D, mg p.1.1 = some (.ref C) ∧ mg p.1.2 = some (.ref D) ∧ PySem.W.exmOne K (.ref C) (.ref D) = some p.2 ∧ PySem.W.kitOne K (.ref C) (.ref D) = some p.2 ∧ ExcC K C)
    (h2 : ∀ p ∈ st, ∃ C, mg p.1.1 = some (.ref C) ∧ PySem.W.exmOne K (.ref C) (.type p.1.2) = some p.2 ∧ PySem.W.kitOne K (.ref C) (.type p.1.2) = some p.2 ∧ ExcC K C)
    (h3 : ∀ p ∈ fl, ∃ C, mg p.1 = some (.ref C) ∧ XfC K C ∧ PySem.W.findIn K (.ref C) p.2 = some none) : ExOk K mg ⟨fun a b => sg.lookup (a, b), fun a b => st.lookup (a, b), fun a b => fl.contains (a, b)⟩ := by
  refine ⟨fun C Ca x Da b m1 m2 e => ?_, fun C Ca n b m1 e => ?_, fun C Ca f m1 e => ?_⟩
  · obtain ⟨C2, D2, k1, k2, k3⟩ := h1 _ (lookup_mem e)
    rw [m1] at k1; rw [m2] at k2
    cases k1; cases k2
    exact k3
  · obtain ⟨C2, k1, k3⟩ := h2 _ (lookup_mem e)
    rw [m1] at k1
    cases k1
    exact k3
  · obtain ⟨C2, k1, k3⟩ := h3 (C, f) (by simpa using e)
    rw [m1] at k1
    cases k1
    exact k3
/-- a def of an __init__ -/
theorem inF_mk {K : PySem.W.Frag} {qual : Str} {st : Stmt} {fI : Addr} {oc kV doc pm cdv ct : Value} {od an : Option Addr} {osl : Array (Option Value)} (l : K.lookup fI = some ⟨oc, od, .func (PySem.W.fnOf "__init__" qual (defArgs st) (defBody st) (defScope st) .none kV doc pm an cdv ct), osl⟩) (cc : PySem.W.codeIn K cdv qual = true) (kk : PySem.W.keepIn K (.ref fI) = true) :
    Fun K "__init__" qual st fI (PySem.W.fnOf "__init__" qual (defArgs st) (defBody st) (defScope st) .none kV doc pm an cdv ct) := fun_mk l cc kk
theorem ra_mk {x : Str} {C fI : Addr} {fd : FuncData} {ps fs : List Str} (e : ExcF c.K C) (m : c.mg x = some (.ref C)) (i : PySem.W.findIn c.K (.ref C) "__init__" = some (some (.ref fI))) (t : PySem.W.typeIn c.K (.ref fI) = some (.type "function")) (F : FnOk P w c.K c.mg base (L2.CX P w) k fI fd ps (spIni C fs)) (b : Binds c.K fd ps []) : Ra c P w base k x fs :=
  ⟨C, fI, fd, ps, e.o, i, t, F, b, m⟩
/-! ### the end -/
/-- the law's promise from its function's answer -/
theorem law_sp {tabs : List (Addr × Str)} {f : MF} {H : Hp} {a : Addr} {ns : List Int} (hT : ∀ p ∈ tabs, H p.1 = some (.tbl #[])) (nd : (tabs.map (·.1)).Nodup) (hS : SqL c.K H a (ns.map V.int)) {h' : HS} (he : f [.d (.rol (ns.map .int))] (tabs.map fun p => .tab p.1 p.2) = .ok (.d (.bl true)) h') :
    spM c 1 f [.ref a] H (fun v _ => v = .bl true) fun _ _ _ => False := by
  have intR : ∀ (Z : Addr → Prop) (l : List Int), RDl c Z H (l.map .int) (l.map V.int) := fun Z l => by
    induction l with
    | nil => rfl
    | cons i l ih => exact ⟨.int i, l.map V.int, rfl, rfl, ih⟩
  have aT : a ∉ tabs.map (·.1) → True := fun _ => trivial
  let Z : Addr → Prop := fun b => b = a ∧ (∃ o, Rd H a (.lst o))
  let wd : Wd := ⟨tabs.map (·.1), Z, tabs.map (·.1)⟩
  have ok : WOk wd H := by
    refine ⟨nd, fun b hb z => ?_, fun b hb => ?_, fun b z => ?_⟩
    · obtain ⟨e, o, z⟩ := z
      obtain ⟨p, hp, e2⟩ := List.mem_map.mp hb
      have q := hT p hp
      rw [e2, e] at q
      rcases z with z | ⟨_, z⟩
      · rw [q] at z; cases z
      · rw [q] at z; cases z
    · obtain ⟨p, hp, e2⟩ := List.mem_map.mp hb
      rw [← e2, hT p hp]; exact fun q => nomatch q
    · obtain ⟨e, o, z⟩ := z
      rw [e]
      rcases z with z | ⟨_, z⟩
      · rw [z]; exact fun q => nomatch q
      · rw [z]; exact fun q => nomatch q
  have rh : ∀ (ρ : List Addr) (ts : List (Addr × Str)), (∀ p ∈ ts, p ∈ tabs) → RHl c Z H ρ (ts.map fun p => .tab p.1 p.2) (ts.map (·.1)) (ts.map (·.1)) := fun ρ ts => by
    induction ts with
    | nil => exact fun _ => ⟨rfl, rfl⟩
    | cons p ts ih =>
      intro hs
      refine ⟨p.1, ts.map (·.1), [p.1], ts.map (·.1), rfl, rfl, ⟨rfl, rfl, #[], hT p (hs p List.mem_cons_self), trivial, fun pos cv z => ?_⟩, ih fun q hq => hs q (List.mem_cons_of_mem _ hq)⟩
      have z : codeAmong pos [] = some cv := z
      simp [codeAmong] at z
  refine ⟨rfl, wd, [.d (.rol (ns.map .int))], _, ok, rh _ tabs fun _ h => h, ⟨.ref a, [], [], [], rfl, rfl, ⟨rfl, a, ns.map V.int, rfl, ?_, intR Z ns⟩, ⟨rfl, rfl⟩⟩, ?_⟩
  · rcases hS with hS | ⟨o, its, n, k1, k2, k3, k4, k5, k6⟩
    · exact .inl ⟨⟨rfl, _, hS⟩, hS⟩
    · exact .inr fun H' => .inr ⟨o, its, n, k1, k2, k3, k4, k5, k6⟩
  · rw [he]
    exact fun w' H' v Fv mo rh' ru => ru.2
theorem Cc.down {N : List Str} {sc : Scope} {j : Nat} {X : Cx} {W : WX} (C : Cc c P w base N sc k X W) (h : j ≤ k) : Cc c P w base N sc j X W := ⟨C.eP, C.ew, C.eK, C.emg, C.ebase, C.eN, C.esc, C.calm, C.room.mono h, C.tk, C.po, C.fk, C.nd⟩
theorem CloOk.mono {CB : Nat → ME} {j : Nat} (O : CloOk c P w base CB j) (h : j ≤ k) : CloOk c P w base CB k := ⟨fun i J e => ⟨(O.run i J e).1, fun X W C => (O.run i J e).2 X W (C.down h)⟩⟩
theorem fnD_of {N : List Str} {x : Str} {st : Stmt} {fa : Addr} {fd : FuncData} {ps : List Str} {n nN : Nat} {b : MS} (D : DefF c x st fa fd ps) (S : FnScope N ps (defScope st)) (hn : ps.length = n) (hN : N.length = nN)
    (hb : ∀ (X : Cx) (W : WX), Cc c P w base N (defScope st) k X W → (∀ y, X.fn y = true) → X.stack = X.env :: X.outer → X.env.frame = some X.env.locals → PSs X (defBody st) (tS c W b)) : FnOk P w c.K c.mg base (L2.CX P w) (k + 1) fa fd ps (spM c n (fnM nN b)) :=
  D.F.okX S (spM_len hn) fun cdv A outer s H vs Q E hr h => ⟨_, hb _ _ ⟨rfl, rfl, rfl, rfl, rfl, rfl, rfl, rfl, hr, takes_of rfl rfl rfl rfl, passes_of rfl, S.kind, S.nd⟩ (fun _ => rfl) rfl rfl, body_ok N hN h⟩
theorem gd_rec2 {x : Str} {st : Stmt} {fa : Addr} {fd : FuncData} {ps : List Str} {n : Nat} {F : Nat → MF} (D : DefF c x st fa fd ps) (hn : ps.length = n) (h0 : ∀ us h, F 0 us h = .bad) (hs : ∀ j, Gd c P w base (j + k + 1) x n (F j) → Gd c P w base (j + k + 2) x n (F (j + 1))) : ∀ j, Gd c P w base (j + k + 1) x n (F j)
  | 0 => ⟨fa, fd, ps, ⟨spM_len hn, fun A outer s H args us vs Q E _ _ _ _ ⟨_, _, us', hd, _, _, _, p⟩ => by rw [h0] at p; exact p.elim⟩, D.m, D.F.kp, D.b⟩
  | j + 1 => (hs j (gd_rec2 D hn h0 hs j)).mono (by omega)
end
end MM

/-! MM26: the functions' own laws, for simp. -/
namespace MM
open PySem PySem.Spec PyProof.Rows L2
section
variable (a b ms ns : MS) (m n me : ME) (t : MT) (ma mas : MAs) (σ : SL) (h : HS) (f : MF)
@[simp] theorem sSeq_at : sSeq a b σ h = thenS (a σ h) b := rfl
@[simp] theorem sIf_at : sIf t a b σ h = bindT (t σ h) σ fun k h1 => if k then a σ h1 else b σ h1 := rfl
@[simp] theorem sSet_at (i : Nat) : sSet i m σ h = bindS (m σ h) σ fun u h1 => .nx (σ.set i (some u)) h1 := rfl
@[simp] theorem sDrop_at : sDrop m σ h = bindS (m σ h) σ fun _ h1 => .nx σ h1 := rfl
@[simp] theorem sRet_at : sRet m σ h = bindS (m σ h) σ fun u h1 => .rt u h1 := rfl
@[simp] theorem sRetN_at : sRetN σ h = .rt (.d .non) h := rfl
@[simp] theorem sPass_at : sPass σ h = .nx σ h := rfl
@[simp] theorem sBrk_at : sBrk σ h = .bk σ h := rfl
@[simp] theorem sCnt_at : sCnt σ h = .ct σ h := rfl
@[simp] theorem sMove_at (i : Nat) : sMove i σ h = match σ[i]? with
  | some (some u) => .rt u h
  | _ => .bad := rfl
@[simp] theorem mK_at (x : DV) : mK x σ h = .ok (.d x) h := rfl
@[simp] theorem mVar_at (i : Nat) : mVar i σ h = match σ[i]? with
  | some (some u) => .ok u h
  | _ => .bad := rfl
@[simp] theorem mVarE_at (i : Nat) : mVarE i σ h = match σ[i]? with
  | some (some u) => if noOwn u = true then .ok u h else .bad
  | _ => .bad := rfl
@[simp] theorem mUn_at (g : HS → UV → Option UV) : mUn g m σ h = bindM (m σ h) fun u h1 => ofO (g h1 u) h1 := rfl
@[simp] theorem mBin_at (g : HS → UV → UV → Option UV) : mBin g m n σ h = bindM (m σ h) fun u h1 => bindM (n σ h1) fun v h2 => ofO (g h2 u v) h2 := rfl
@[simp] theorem mTst_at : mTst m σ h = bindM (m σ h) fun u h1 => ofO (uBl u) h1 := rfl
@[simp] theorem mTru_at : mTru m σ h = bindM (m σ h) fun u h1 => ofO (truU h1 u) h1 := rfl
@[simp] theorem mNot_at (t : MT) : mNot t σ h = bindM (t σ h) fun b h1 => .ok (!b) h1 := rfl
@[simp] theorem mAnd_at (t u : MT) : mAnd t u σ h = bindM (t σ h) fun b h1 => if b then u σ h1 else .ok false h1 := rfl
@[simp] theorem mOr_at (t u : MT) : mOr t u σ h = bindM (t σ h) fun b h1 => if b then .ok true h1 else u σ h1 := rfl
@[simp] theorem mNotV_at : mNotV m σ h = bindM (m σ h) fun u h1 => ofO ((truU h1 u).map fun k => .d (.bl (!k))) h1 := rfl
@[simp] theorem mAndV_at : mAndV m n σ h = bindM (m σ h) fun u h1 => bindM (ofO (truU h1 u) h1) fun k h2 => if k then n σ h2 else .ok u h2 := rfl
@[simp] theorem mOrV_at : mOrV m n σ h = bindM (m σ h) fun u h1 => bindM (ofO (truU h1 u) h1) fun k h2 => if k then .ok u h2 else n σ h2 := rfl
@[simp] theorem mIf_at : mIf t m n σ h = bindM (t σ h) fun k h1 => if k then m σ h1 else n σ h1 := rfl
@[simp] theorem mFz_at : mFz m σ h = bindM (m σ h) fun u h1 => ofO (fz u) h1 := rfl
@[simp] theorem aNil_at : aNil σ h = .ok [] h := rfl
@[simp] theorem aCons_at : aCons m mas σ h = bindM (m σ h) fun u h1 => bindM (mas σ h1) fun us h2 => .ok (u :: us) h2 := rfl
@[simp] theorem mLst_at : mLst mas σ h = bindM (mas σ h) fun us h1 => if us.length ≤ sizeLine then .ok (.own us) h1 else .bad := rfl
@[simp] theorem mTup_at : mTup mas σ h = bindM (mas σ h) fun us h1 => if us.length ≤ sizeLine then ofO ((toDl us).map fun xs => .d (.tup xs)) h1 else .bad := rfl
@[simp] theorem mCall_at : mCall f mas σ h = bindM (mas σ h) fun us h1 => if us.all noOwn then f us h1 else .bad := rfl
@[simp] theorem oNo_at : oNo σ h = .ok none h := rfl
@[simp] theorem oYes_at : oYes m σ h = bindM (m σ h) fun u h1 => ofO ((uInt u).map some) h1 := rfl
@[simp] theorem mSlice_at (lo hi : MO) : mSlice m lo hi σ h = bindM (m σ h) fun u h1 => bindM (lo σ h1) fun l h2 => bindM (hi σ h2) fun r h3 => ofO (sliceU h3 u l r) h3 := rfl
@[simp] theorem noOwn_d (x : DV) : noOwn (.d x) = true := rfl
@[simp] theorem noOwn_ref (i : Nat) : noOwn (.ref i) = true := rfl
@[simp] theorem noOwn_own (xs : List UV) : noOwn (.own xs) = false := rfl
@[simp] theorem noOwn_clo (i : Nat) (cs : List UV) : noOwn (.clo i cs) = true := rfl
@[simp] theorem uInt_int (i : Int) : uInt (.d (.int i)) = some i := rfl
@[simp] theorem uBl_bl (k : Bool) : uBl (.d (.bl k)) = some k := rfl
@[simp] theorem truU_bl (k : Bool) : truU h (.d (.bl k)) = some k := rfl
@[simp] theorem toDl_nil : toDl [] = some [] := rfl
@[simp] theorem toDl_d (x : DV) (us : List UV) : toDl (.d x :: us) = (toDl us).map (x :: ·) := by
  show (match toD (.d x), toDl us with
    | some y, some ys => some (y :: ys)
    | _, _ => none) = _
  cases toDl us <;> rfl
@[simp] theorem fz_d (x : DV) : fz (.d x) = some (.d x) := rfl
theorem toDl_map (xs : List DV) : toDl (xs.map .d) = some xs := by
  induction xs with
  | nil => rfl
  | cons x xs ih => rw [List.map_cons, toDl_d, ih]; rfl
@[simp] theorem fz_own (xs : List DV) : fz (.own (xs.map .d)) = some (.d (.lst xs)) := by
  unfold fz
  show (match (toDl (xs.map .d)).map DV.lst with
    | some x => some (UV.d x)
    | none => _) = _
  rw [toDl_map]; rfl
@[simp] theorem uDs_nil : uDs [] = some [] := rfl
@[simp] theorem uDs_d (x : DV) (us : List UV) : uDs (.d x :: us) = (uDs us).map (x :: ·) := by
  unfold uDs
  rw [mapO]
  cases mapO uD us <;> rfl
@[simp] theorem sizeLine_ge (n : Nat) (hn : n ≤ 1000) : (n ≤ sizeLine) = True := by
  have : 1000 ≤ sizeLine := by decide
  simp; omega
@[simp] theorem cLt_int (i j : Int) : cLt h (.d (.int i)) (.d (.int j)) = some (.d (.bl (decide (i < j)))) := rfl
@[simp] theorem cLe_int (i j : Int) : cLe h (.d (.int i)) (.d (.int j)) = some (.d (.bl (decide (i ≤ j)))) := rfl
@[simp] theorem cGt_int (i j : Int) : cGt h (.d (.int i)) (.d (.int j)) = some (.d (.bl (decide (j < i)))) := rfl
@[simp] theorem cGe_int (i j : Int) : cGe h (.d (.int i)) (.d (.int j)) = some (.d (.bl (decide (j ≤ i)))) := rfl
@[simp] theorem oAdd_int (i j : Int) : oAdd h (.d (.int i)) (.d (.int j)) = some (.d (.int (i + j))) := rfl
@[simp] theorem oSub_int (i j : Int) : oSub h (.d (.int i)) (.d (.int j)) = some (.d (.int (i - j))) := rfl
@[simp] theorem oNeg_int (i : Int) : oNeg h (.d (.int i)) = some (.d (.int (-i))) := rfl
theorem oMul_int (i j : Int) (hc : CMul i j) : oMul h (.d (.int i)) (.d (.int j)) = some (.d (.int (i * j))) := by
  unfold oMul; simp [hc]
theorem oFdiv_int (i j : Int) (h1 : 0 < j) (h2 : j < 1073741824) : oFdiv h (.d (.int i)) (.d (.int j)) = some (.d (.int (i / j))) := by
  unfold oFdiv iOp CDiv; simp [h1, h2]
theorem oMod_int (i j : Int) (h1 : 0 < j) : oMod h (.d (.int i)) (.d (.int j)) = some (.d (.int (i % j))) := by
  unfold oMod iOp; simp [h1]
@[simp] theorem fInt_int (i : Int) : fInt h (.d (.int i)) = some (.d (.int i)) := rfl
@[simp] theorem fAbs_int (i : Int) : fAbs h (.d (.int i)) = some (.d (.int (if i < 0 then -i else i))) := rfl
end
theorem fnM_at (N : Nat) (b : MS) (us : List UV) (h : HS) : fnM N b us h = match b (us.map some ++ List.replicate (N - us.length) none) h with
  | .nx _ h' => .ok (.d .non) h'
  | .rt u h' => .ok u h'
  | .ex e _ h' => .err e h'
  | _ => .bad := rfl
/-- a comprehension whose turns give values -/
theorem compL_map {f : UV → HS → MR (Option UV)} {h : HS} (g : UV → UV) : ∀ {xs : List UV}, (∀ x ∈ xs, f x h = .ok (some (g x)) h) → compL f xs h = .ok (xs.map g) h
  | [], _ => rfl
  | x :: xs, hx => by
    unfold compL
    rw [hx x List.mem_cons_self]
    simp only
    rw [compL_map g fun y hy => hx y (List.mem_cons_of_mem _ hy)]
    rfl
/-- a loop whose turns go on, an invariant of the slots kept -/
theorem loopL_inv {f : UV → SL → HS → RS'} {h : HS} {Pv : SL → Prop} : ∀ {xs : List UV} {σ : SL}, Pv σ → (∀ x ∈ xs, ∀ σ, Pv σ → ∃ σ', (f x σ h = .nx σ' h ∨ f x σ h = .ct σ' h) ∧ Pv σ') → ∃ σ', loopL f xs σ h = .nx σ' h ∧ Pv σ'
  | [], σ, h0, _ => ⟨σ, rfl, h0⟩
  | x :: xs, σ, h0, hx => by
    obtain ⟨σ1, e1, h1⟩ := hx x List.mem_cons_self σ h0
    obtain ⟨σ2, e2, h2⟩ := loopL_inv (xs := xs) h1 fun y hy => hx y (List.mem_cons_of_mem _ hy)
    refine ⟨σ2, ?_, h2⟩
    unfold loopL
    rcases e1 with e1 | e1 <;> · rw [e1]; exact e2
theorem mem_rangeU {lo : Int} {n : Nat} {x : UV} (hx : x ∈ rangeU lo n) : ∃ i : Nat, i < n ∧ x = .d (.int (lo + (i : Int))) := by
  obtain ⟨i, hi, e⟩ := List.mem_map.mp hx
  exact ⟨i, List.mem_range.mp hi, e.symm⟩

/-! ### the laws' own comparison -/
def matB (T : ExT) (F : MF) : MS := (sSeq (sIf (mOr (mTst (mBin oIs (mVar 1) (mK .non))) (mTst (mBin oIs (mVar 0) (mK .non)))) (sRet (mAndV (mBin oIs (mVar 1) (mK .non)) (mBin oIs (mVar 0) (mK .non)))) sPass) (sSeq (sIf (mOr (mTru (mBin (fIsX T) (mVar 1) (mK (.ty "bool")))) (mTru (mBin (fIsX T) (mVar 0) (mK (.ty "bool"))))) (sRet (mAndV (mBin (fIsX T) (mVar 1) (mK (.ty "bool"))) (mAndV (mBin (fIsX T) (mVar 0) (mK (.ty "bool"))) (mBin (oEq false) (mVar 0) (mVar 1))))) sPass) (sSeq (sIf (mTru (mBin (fIsX T) (mVar 1) (mK (.ty "int")))) (sRet (mAndV (mBin (fIsX T) (mVar 0) (mK (.ty "int"))) (mBin (oEq false) (mVar 0) (mVar 1)))) sPass) (sSeq (sIf (mTru (mBin (fIsX T) (mVar 1) (mK (.ty "str")))) (sRet (mAndV (mBin (fIsX T) (mVar 0) (mK (.ty "str"))) (mBin (oEq false) (mVar 0) (mVar 1)))) sPass) (sSeq (sIf (mTru (mBin (fIsX T) (mVar 1) (mK (.ty "dict")))) (sSeq (sIf (mOr (mNot (mTru (mBin (fIsX T) (mVar 0) (mK (.ty "dict"))))) (mTst (mBin (oEq true) (mUn fLen (mVar 0)) (mUn fLen (mVar 1))))) (sRet (mK (.bl false))) sPass) (sSeq (sFor (mFz (mUn fList (mVar 1))) (tdN 2) (sIf (mOr (mTst (mBin (oIn true) (mVar 2) (mVar 0))) (mNot (mTru (mCall F (aCons (mBin oItem (mVar 0) (mVar 2)) (aCons (mBin oItem (mVar 1) (mVar 2)) aNil)))))) (sRet (mK (.bl false))) sPass)) (sRet (mK (.bl true))))) sPass) (sSeq (sIf (mAnd (mTru (mBin (fIsX T) (mVar 1) (mK (.ty "tuple")))) (mNot (mTru (mBin (fIsX T) (mVar 0) (mK (.ty "tuple")))))) (sRet (mK (.bl false))) sPass) (sSeq (sIf (mAnd (mTru (mBin (fIsX T) (mVar 1) (mK (.ty "list")))) (mNot (mTru (mBin (fIsX T) (mVar 0) (mK (.ty "list")))))) (sRet (mK (.bl false))) sPass) (sSeq (sIf (mTst (mBin (oEq true) (mUn fLen (mVar 0)) (mUn fLen (mVar 1)))) (sRet (mK (.bl false))) sPass) (sSeq (sForR (mK (.int 0)) (mUn fLen (mVar 1)) (tdN 3) (sIf (mNot (mTru (mCall F (aCons (mBin oItem (mVar 0) (mVar 3)) (aCons (mBin oItem (mVar 1) (mVar 3)) aNil))))) (sRet (mK (.bl false))) sPass)) (sRet (mK (.bl true))))))))))))
def matF (T : ExT) : Nat → MF
  | 0 => fun _ _ => .bad
  | j + 1 => fnM 4 (matB T (matF T j))
/-- what is compared, to a depth -/
def Mt : Nat → DV → Prop
  | 0, _ => False
  | n + 1, x => match x with
    | .non => True
    | .bl _ => True
    | .int _ => True
    | .str s => s.length ≤ 1000
    | .lst xs => xs.length ≤ 1000 ∧ ∀ y ∈ xs, Mt n y
    | .tup xs => xs.length ≤ 1000 ∧ ∀ y ∈ xs, Mt n y
    | _ => False
section
variable (T : ExT) (h : HS)
theorem isT_non (n : String) : fIsX T h (.d .non) (.d (.ty n)) = (isTy "NoneType" n).map fun b => .d (.bl b) := rfl
theorem isT_bl (k : Bool) (n : String) : fIsX T h (.d (.bl k)) (.d (.ty n)) = (isTy "bool" n).map fun b => .d (.bl b) := rfl
theorem isT_int (i : Int) (n : String) : fIsX T h (.d (.int i)) (.d (.ty n)) = (isTy "int" n).map fun b => .d (.bl b) := rfl
theorem isT_str (s : Str) (n : String) : fIsX T h (.d (.str s)) (.d (.ty n)) = (isTy "str" n).map fun b => .d (.bl b) := rfl
theorem isT_lst (s : List DV) (n : String) : fIsX T h (.d (.lst s)) (.d (.ty n)) = (isTy "list" n).map fun b => .d (.bl b) := rfl
theorem isT_tup (s : List DV) (n : String) : fIsX T h (.d (.tup s)) (.d (.ty n)) = (isTy "tuple" n).map fun b => .d (.bl b) := rfl
@[simp] theorem oIs_at (u : UV) : oIs h u (.d .non) = some (.d (.bl (isNon u))) := rfl
@[simp] theorem isNon_non : isNon (.d .non) = true := rfl
@[simp] theorem isNon_int (i : Int) : isNon (.d (.int i)) = false := rfl
@[simp] theorem isNon_str (i : Str) : isNon (.d (.str i)) = false := rfl
@[simp] theorem isNon_bl (i : Bool) : isNon (.d (.bl i)) = false := rfl
@[simp] theorem isNon_lst (i : List DV) : isNon (.d (.lst i)) = false := rfl
@[simp] theorem isNon_tup (i : List DV) : isNon (.d (.tup i)) = false := rfl
theorem oEq_int (ng : Bool) (i j : Int) : oEq ng h (.d (.int i)) (.d (.int j)) = some (.d (.bl (if ng then !(i == j) else (i == j)))) := rfl
theorem oEq_bl (ng : Bool) (i j : Bool) : oEq ng h (.d (.bl i)) (.d (.bl j)) = some (.d (.bl (if ng then !(i == j) else (i == j)))) := rfl
theorem mat_int (F : MF) (i j : Int) : fnM 4 (matB T F) [.d (.int i), .d (.int j)] h = .ok (.d (.bl (i == j))) h := by
  simp [fnM_at, matB, isT_int, isTy, oEq_int]
end
end MM

/-! MM27: a comprehension set to a plain local; a tuple's parts to names; arguments lent to a call; x.append(k) for each x of a list of own lists. -/
namespace MM
open PySem PySem.Spec PyProof.Rows L2
section
variable {c : Cg} {P : Program} {w : World} {base : Heap} {N : List Str} {sc : Scope} {k : Nat} {X : Cx} {W : WX} {pu : Bool} {L : List Str} {m mb me : ME} {mt : MT} {iter elt tg a b e : Expr} {g : TG} {td : TD} {ifs : List Expr} {scope : Scope} {own : List (Str × Nat)} {p p' pos py spos : Pos}
theorem Cc.sw (C : Cc c P w base N sc k X W) {gs : List Comprehension} {y : Str} (hy : sc.names.lookup y = some .local) (hl : (py.line == pos.line) = true) (ha : (scope.names.any fun (n, k) => n == y && (k == .local || k == .cell)) = false) :
    swapsWith (.ListComp elt gs scope pos) (some (.Name y py)) pos.line X.env = pure true :=
  sw_true (by rw [C.esc]; exact C.fk) (by rw [C.esc]; exact hy) hl ha
theorem g_setComp (C : Cc c P w base N sc k X W) (i : Nat) {y : Str} (hi : PE X iter (tV pu .E c W m)) (ok : blkC N sc scope own = true) (hgs : TgS c g td) (hgw : TgW g (own.map (·.2))) (hg : Blk X scope fun Y => PG Y tg g) (ht : Blk X scope fun Y => PTs Y ifs (tB2 pu c W0 mt)) (he : Blk X scope fun Y => PE Y elt (tV pu .E c W0 me))
    (hj : N[i]? = some y := by rfl) (hy : sc.names.lookup y = some .local := by rfl) (hsw : swapsWith (.ListComp elt [⟨tg, iter, ifs, 0⟩] scope pos) (some (.Name y py)) spos.line X.env = pure true := by first | exact Cc.sw (by assumption) rfl rfl rfl | exact Cc.sw (by assumption) rfl rfl (by decide +kernel))
    (hs : ∀ y, foldedSetIterable iter X.env y = pure y := by intro _; rfl) : PS X (.Assign [.Name y py] (.ListComp elt [⟨tg, iter, ifs, 0⟩] scope pos) spos) (tS c W (sSet i (mComp m td (own.map (·.2)) mt me))) :=
  s_setComp C.eK C.calm C.nd (C.ni hj) (by rw [C.esc]; exact hy) hsw hi (by rw [C.eN, C.esc]; exact blkOk_by ok) hgs hgw hg ht he hs
theorem g_setCompR1 (C : Cc c P w base N sc k X W) (B : NoG c L) (i : Nat) {y : Str} (hb : PE X b (tV pu .C c W mb)) (ok : blkC N sc scope own = true) (hgs : TgS c g td) (hgw : TgW g (own.map (·.2))) (hg : Blk X scope fun Y => PG Y tg g) (ht : Blk X scope fun Y => PTs Y ifs (tB2 pu c W0 mt)) (he : Blk X scope fun Y => PE Y elt (tV pu .E c W0 me))
    (hj : N[i]? = some y := by rfl) (hy : sc.names.lookup y = some .local := by rfl) (hsw : swapsWith (.ListComp elt [⟨tg, .Call (.Name "range" p) [b] [] p', ifs, 0⟩] scope pos) (some (.Name y py)) spos.line X.env = pure true := by first | exact Cc.sw (by assumption) rfl rfl rfl | exact Cc.sw (by assumption) rfl rfl (by decide +kernel))
    (hb1 : L.contains ("range" : Str) = true := by rfl) (hgl : sc.names.lookup ("range" : Str) = some .globalImplicit := by rfl) (hs2 : starEach [b] X.env = [(false, eval b X.env)] := by rfl) :
    PS X (.Assign [.Name y py] (.ListComp elt [⟨tg, .Call (.Name "range" p) [b] [] p', ifs, 0⟩] scope pos) spos) (tS c W (sSet i (mCompR (mK (.int 0)) mb td (own.map (·.2)) mt me))) :=
  s_setCompR1 C.calm C.nd (C.ni hj) (by rw [C.esc]; exact hy) hsw (C.gl hgl) (C.mgo (B.at hb1)) hb (by rw [C.eN, C.esc]; exact blkOk_by ok) hgs hgw hg ht he hs2

/-! ### a tuple's parts -/
def sAsg (td : TD) (m : ME) : MS := fun σ h => bindS (m σ h) σ fun u h1 => if noOwn u = true then match td u σ with
  | some σ' => .nx σ' h1
  | none => .bad else .bad
theorem s_asg (hgs : TgS c g td) (he : PE X e (tV pu .E c W m)) (hs : PE X e (tV pu .E c W m) → PS X (.Assign [tg] e pos) (tAsg (tV pu .E c W m) g)) : PS X (.Assign [tg] e pos) (tS c W (sAsg td m)) :=
  PS.imp (hs he) fun D σ H ⟨w, Fs, σd, hd, S, p⟩ => stepE S p fun u h1 w1 H1 x Fx S1 ok pp ru p1 => by
    split at p1
    · rename_i hno
      have eF := noOwn_F hno ru
      subst eF
      rw [fullv_nil] at p1
      cases q : td u σd with
      | none => rw [q] at p1; exact p1.elim
      | some σ2 =>
        rw [q] at p1
        exact hgs w1 Fs σd h1 σ H1 u x σ2 _ S1 ru q fun Fs' σ' ex S' => p1 w1 Fs' σ' H1 ex S'
    · exact p1.elim
theorem sw_cell {x y : Str} {px py pt pt2 : Pos} {kt k2} {a b : Expr} {env : Env} (h : ((env.scope.names.lookup x == some .local) && (env.scope.names.lookup y == some .local)) = false) : swappedStores [.Tuple [.Name x px, .Name y py] kt pt] (.Tuple [a, b] k2 pt2) env = pure none := by
  have hx : env.kindOf x = env.scope.names.lookup x := rfl
  have hy : env.kindOf y = env.scope.names.lookup y := rfl
  unfold swappedStores
  split
  · rename_i ts vs q
    cases q
    split
    · rfl
    · split
      · rfl
      · show (if _ then _ else _) = _
        refine if_pos ?_
        rw [← hx, ← hy] at h
        simp only [List.filterMap_cons, List.filterMap_nil]
        cases q1 : (env.kindOf x == some NameKind.local) <;> cases q2 : (env.kindOf y == some NameKind.local)
        · simp
        · simp only [Bool.false_and, Bool.true_and]
          by_cases r : (py.line == (Option.map (fun x => x.pos.line) [Expr.Name x px, Expr.Name y py].head?).getD 0) = true
          · simp only [r, if_true]; simp
          · simp only [Bool.not_eq_true] at r; simp only [r]; simp
        · simp only [Bool.false_and, Bool.true_and]
          by_cases r : (px.line == (Option.map (fun x => x.pos.line) [Expr.Name x px, Expr.Name y py].head?).getD 0) = true
          · simp only [r, if_true]; simp
          · simp only [Bool.not_eq_true] at r; simp only [r]; simp
        · rw [q1, q2] at h; simp at h
  · rename_i q; exact absurd rfl (q _ _)
theorem g_asgT2 (C : Cc c P w base N sc k X W) {x y : Str} {px py pt pt2 : Pos} {kt k2} (hg : PG X (.Tuple [.Name x px, .Name y py] kt pt) g) (hgs : TgS c g td) (he : PE X (.Tuple [a, b] k2 pt2) (tV pu .E c W m)) (h : ((sc.names.lookup x == some .local) && (sc.names.lookup y == some .local)) = false := by rfl)
    (hs : swapsWithSole [.Tuple [.Name x px, .Name y py] kt pt] (.Tuple [a, b] k2 pt2) pos.line X.env = pure false := by rfl) : PS X (.Assign [.Tuple [.Name x px, .Name y py] kt pt] (.Tuple [a, b] k2 pt2) pos) (tS c W (sAsg td m)) :=
  s_asg hgs he fun q => ps_asg q hg hs (sw_cell (by rw [C.esc]; exact h))
/-! ### arguments lent to a call -/
def dvOf (σ : SL) (j : Nat) : Option DV := match σ[j]? with
  | some (some u) => toD u
  | _ => none
def scalD : DV → Bool
  | .non => true
  | .bl _ => true
  | .int _ => true
  | .str _ => true
  | _ => false
/-- the slots' things are lent as frozen, with no store at all; the answer is a scalar -/
def mLend (f : MF) (js : List Nat) : ME := fun σ h => match mapO (dvOf σ) js with
  | some xs => match f (xs.map .d) [] with
    | .ok (.d x) _ => if scalD x = true then .ok (.d x) h else .bad
    | _ => .bad
  | none => .bad
def tVars : List Nat → TA
  | [] => tNil
  | j :: js => tCons (tVar j) (tVars js)
theorem tVars_at {w : Wd} {H : Hp} {Fs : List Addr} {σd : SL} {σ : L2.St} (S : RS c w.Z H w.ρ σd σ Fs) : ∀ (js : List Nat) (xs : List DV), mapO (dvOf σd) js = some xs → ∀ R : List V → Hp → Prop, (∀ vs, RDl c (fun a => w.Z a ∨ a ∈ Fs) H xs vs → vs.length = js.length → R vs H) → tVars js σ H R
  | [], xs, e, R, k => by
    cases e
    exact k [] rfl rfl
  | j :: js, xs, e, R, k => by
    unfold mapO at e
    split at e
    · rename_i x xs' e1 e2
      cases e
      unfold dvOf at e1
      split at e1
      · rename_i u q
        obtain ⟨v, G, q2, r, sub⟩ := RS.split S q
        refine ⟨v, q2, tVars_at S js xs' e2 _ fun vs r2 hl => k (v :: vs) ⟨v, vs, rfl, ?_, r2⟩ (by rw [List.length_cons, List.length_cons, hl])⟩
        exact toD_ok (fun _ z => .inl z) (fun a ha => .inr (sub.subset ha)) r e1
      · cases e1
    · cases e
theorem RDl.toRU {Z : Addr → Prop} {H : Hp} {ρ : List Addr} : ∀ {xs : List DV} {vs : List V}, RDl c Z H xs vs → RUl c Z H ρ (xs.map .d) vs []
  | [], _, h => ⟨h, rfl⟩
  | x :: xs, _, ⟨v, r, e, h, t⟩ => ⟨v, r, [], [], e, rfl, ⟨rfl, h⟩, RDl.toRU t⟩
theorem scal_any {Z Z' : Addr → Prop} {H H' : Hp} {x : DV} {v : V} (hs : scalD x = true) (h : RD c Z H x v) : RD c Z' H' x v := by
  cases x <;> first | exact h | cases hs
theorem lend_args {σ : L2.St} {H : Hp} {Q : VK} {n : Nat} {f : MF} {js : List Nat} (hn : js.length = n) (h : tV false .E c W (mLend f js) σ H Q) : tVars js σ H fun vs H1 => spM c n f (vs ++ []) H1 Q (WE W σ) := by
  obtain ⟨w, Fs, σd, hd, S, p⟩ := h
  unfold mLend at p
  split at p
  · rename_i xs e
    refine tVars_at S.s js xs e _ fun vs r hl => ?_
    rw [List.append_nil]
    have okZ : ∀ a, (w.Z a ∨ a ∈ Fs) → H a ≠ none := fun a z => z.elim (S.ok.trZ a) fun z => S.ok.trF a (List.mem_append_left _ z)
    refine ⟨by rw [hl, hn], ⟨[], fun a => w.Z a ∨ a ∈ Fs, []⟩, xs.map .d, [], ⟨List.nodup_nil, fun a z => (nomatch z), fun a z => (nomatch z), okZ⟩, ⟨rfl, rfl⟩, RDl.toRU r, ?_⟩
    split at p
    · rename_i x h' ef
      rw [ef]
      split at p
      · rename_i hsc
        intro w' H' v Fv mo rh ru
        have kp : ∀ a o, H a = some o → H' a = some o := fun a o q => mo.1.keep a o q (fun z => nomatch z)
        have th : ∀ a, H a ≠ none → H' a ≠ none := mo.1.there
        refine p w H' v [] ⟨⟨fun _ _ q => q, fun _ z => z, fun a o q _ => kp a o q, fun a z => z.elim .inl fun z => .inr (.inl (by simpa using z)), th⟩, ?_⟩ .no (RHl.mono (fun _ _ e => e) (fun _ z => z) (fun a o _ q => kp a o q) (fun a _ o q => kp a o q) S.h) ⟨rfl, scal_any hsc ru.2⟩
        rw [List.append_nil]
        exact ⟨S.wok.nd, S.wok.sep, fun a ha => th a (S.wok.trF a ha), fun a z => th a (S.wok.trZ a z)⟩
      · exact p.elim
    · exact p.elim
  · exact p.elim
theorem g_lend (C : Cc c P w base N sc k X W) {x : Str} {n : Nat} {f : MF} {es : List Expr} (G : Gd c P w base k x n f) (js : List Nat) (ha : PA X (e :: es) (tVars js)) (hn : js.length = n := by rfl) (hg : sc.names.lookup x = some .globalImplicit := by rfl) (hdb : (x == ("__debug__" : Str)) = false := by decide)
    (he : starEach (e :: es) X.env = (false, eval e X.env) :: starEach es X.env := by rfl) (hpl : (backTo pos (starEach es X.env)).any (·.1) = false := by rfl) : PE X (.Call (.Name x p) (e :: es) [] pos) (tV false .E c W (mLend f js)) := by
  obtain ⟨fa, fd, ps, F, m1, m2, m3⟩ := G
  exact PE.imp (pe_callSD (E := WE W) (C.fn F) C.room (C.gl hg) (C.mgo m1) (by rw [← C.eK]; exact m2) (by rw [← C.eK]; exact m3) .nil (fun σ => passAt C.tk σ) ha hdb he hpl) fun σ H Q h => lend_args hn h

/-! ### for x in xs: x.append(k) -/
def apE (x : DV) : UV → Option UV
  | .own ys => if ys.length < sizeLine then some (.own (ys ++ [.d x])) else none
  | _ => none
def sAppEach (i j : Nat) (x : DV) : MS := fun σ h => match σ[i]?, σ[j]? with
  | some (some (.own xs)), some none => match mapO (apE x) xs with
    | some ys => .nx (σ.set i (some (.own ys))) h
    | none => .bad
  | _, _ => .bad
def tApC (j : Nat) (y : V) : TS := fun D σ H => ∃ b ws, σ[j]? = some (some (.ref b)) ∧ H b = some (.lst ws) ∧ ws.length < sizeLine ∧ D.nx σ (upd H b (.lst (ws ++ [y])))
theorem s_apC {j : Nat} {o : Expr} {apos cpos : Pos} {y : V} (ho : PE X o (tVar j)) (he : PE X e (tC y))
    (hbase : attributeBase o "append" X.env (eval o X.env) = eval o X.env := by rfl) (hline : (apos.endLine == cpos.line) = true := by rfl) (hs1 : starEach [e] X.env = (false, eval e X.env) :: starEach [] X.env := by rfl)
    (hs : swapsWith (.Call (.Attribute o "append" apos) [e] [] cpos) none pos.line X.env = pure false := by rfl)
    (hfew : ((backTo cpos (starEach [e] X.env)).all (fun x => !x.1) && (backToKw cpos (keywordEach [] X.env)).all (fun x => x.1.isSome)
      && decide ([e].length + ([] : List Keyword).length + (if ([] : List Keyword).isEmpty then 0 else 1) < 30)) = true := by rfl) :
    PS X (.Expr (.Call (.Attribute o "append" apos) [e] [] cpos) pos) (tApC j y) :=
  PS.imp (ps_expr (pe_bm PySem.F.plainAttrs_list PySem.F.slot_list_append PySem.F.type_list_append mt_append ho (pa_cons he pa_nil hs1) hbase hfew hline hs1) hs) fun D σ H ⟨b, ws, e1, e2, e3, q⟩ =>
    ⟨.ref b, e1, .inl ⟨rfl, ws, .of e2⟩, b, ws, y, rfl, rfl, e2, e3, q⟩
theorem RS.free {Z : Addr → Prop} {H : Hp} {ρ : List Addr} {o : Option V} : ∀ {s : SL} {l : L2.St} {F : List Addr} {j : Nat}, RS c Z H ρ s l F → s[j]? = some none → RS c Z H ρ s (l.set j o) F
  | [], _, _, _, h, q => by simp at q
  | none :: s, _, F, 0, ⟨o', r, e, t⟩, q => by subst e; exact ⟨o, r, rfl, t⟩
  | some x :: s, _, F, 0, h, q => by simp at q
  | none :: s, _, F, j + 1, ⟨o', r, e, t⟩, q => by subst e; exact ⟨o', _, rfl, RS.free (j := j) t (by simpa using q)⟩
  | some x :: s, _, F, j + 1, ⟨v, r, F1, F2, e, eF, h, t⟩, q => by subst e; exact ⟨v, _, F1, F2, rfl, eF, h, RS.free (j := j) t (by simpa using q)⟩
theorem mapO_lenE {α β : Type} {f : α → Option β} : ∀ {xs : List α} {ys : List β}, mapO f xs = some ys → ys.length = xs.length
  | [], _, e => by cases e; rfl
  | x :: xs, ys, e => by
    unfold mapO at e
    split at e
    · rename_i y ys' e1 e2
      cases e
      rw [List.length_cons, List.length_cons, mapO_lenE e2]
    · cases e
theorem mapO_getE {α β : Type} {f : α → Option β} : ∀ {xs : List α} {ys : List β} {n : Nat} {x : α} {y : β}, mapO f xs = some ys → xs[n]? = some x → ys[n]? = some y → f x = some y
  | [], _, _, _, _, e, h, _ => by simp at h
  | x :: xs, ys, n, x', y', e, h1, h2 => by
    unfold mapO at e
    split at e
    · rename_i y ys' e1 e2
      cases e
      cases n with
      | zero =>
        simp at h1 h2
        subst h1 h2
        exact e1
      | succ n => exact mapO_getE e2 (by simpa using h1) (by simpa using h2)
    · cases e
theorem RS.len {Z : Addr → Prop} {H : Hp} {ρ : List Addr} : ∀ {s : SL} {l : L2.St} {F : List Addr}, RS c Z H ρ s l F → l.length = s.length
  | [], _, _, h => by rw [h.1]; rfl
  | none :: s, _, F, ⟨o', r, e, t⟩ => by subst e; rw [List.length_cons, List.length_cons, RS.len t]
  | some x :: s, _, F, ⟨v, r, F1, F2, e, eF, h, t⟩ => by subst e; rw [List.length_cons, List.length_cons, RS.len t]
theorem own_ne {w : Wd} {H : Hp} {Fs : List Addr} {σd : SL} {hd : HS} {σ : L2.St} (S : Sta c w Fs σd hd σ H) {i n : Nat} {xs zs : List UV} {a b : Addr} {vs : List V} (e1 : σd[i]? = some (some (.own xs))) (e2 : σ[i]? = some (some (.ref a))) (e3 : H a = some (.lst vs)) (e4 : xs[n]? = some (.own zs)) (e5 : vs[n]? = some (.ref b)) : a ≠ b := by
  obtain ⟨v, G, q3, r, sub⟩ := RS.split S.s e1
  rw [e2] at q3
  cases q3
  obtain ⟨a', vs', G0, ea, hH, eF, t⟩ := r
  cases ea
  rw [e3] at hH
  cases hH
  obtain ⟨v', F', q5, r', s'⟩ := t.get e4
  rw [e5] at q5
  cases q5
  obtain ⟨b', ws, G1, eb, _, eF1, _⟩ := r'
  cases eb
  rintro rfl
  have nd : (a :: G0).Nodup := by
    rw [← eF]
    exact (List.nodup_append.mp S.ok.nd).1.sublist sub
  exact (List.nodup_cons.mp nd).1 (s' _ (by rw [eF1]; exact List.mem_cons_self))
theorem appEach_ok {i j : Nat} {n : Int} {D : Ends} {w : Wd} {H : Hp} {Fs : List Addr} {σd : SL} {hd : HS} {σ : L2.St} (S : Sta c w Fs σd hd σ H) (p : SPo c W (full w Fs) H D (sAppEach i j (.int n) σd hd)) :
    ∃ a vs, σ[i]? = some (some (.ref a)) ∧ H a = some (.lst vs) ∧ ∃ Pv : Nat → L2.St → Hp → Prop, Pv 0 σ H ∧ (∀ m σ' H', Pv m σ' H' → H' a = some (.lst vs)) ∧ (∀ m v σ' H', vs[m]? = some v → Pv m σ' H' → tApC j (.int n) { D with nx := Pv (m + 1), ct := Pv (m + 1), bk := D.nx } (σ'.set j (some v)) H') ∧ ∀ σ' H', Pv vs.length σ' H' → D.nx σ' H' := by
  unfold sAppEach at p
  split at p
  · rename_i xs q1 q2
    split at p
    · rename_i ys q
      obtain ⟨v, G, q3, r, sub⟩ := RS.split S.s q1
      obtain ⟨a, vs, G0, rfl, hH, eF, t⟩ := r
      have hl := mapO_lenE q
      have hij : i ≠ j := by rintro rfl; rw [q1] at q2; cases q2
      have hi : i < σd.length := (List.getElem?_eq_some_iff.mp q1).1
      refine ⟨a, vs, q3, hH, fun m σ' H' => ∃ w' Fs', Ext (full w Fs) H (full w' Fs') H' ∧ Sta c w' Fs' (σd.set i (some (.own (ys.take m ++ xs.drop m)))) hd σ' H' ∧ σ'[i]? = some (some (.ref a)) ∧ H' a = some (.lst vs), ⟨w, Fs, Ext.refl, ?_, q3, hH⟩, fun m σ' H' ⟨_, _, _, _, _, h⟩ => h, fun m v σ' H' hv ⟨w', Fs', ex, S', e2, e3⟩ => ?_, fun σ' H' ⟨w', Fs', ex, S', e2, e3⟩ => ?_⟩
      · rw [List.take_zero, List.drop_zero, List.nil_append]
        have : σd.set i (some (.own xs)) = σd := by
          refine List.ext_getElem? fun k => ?_
          by_cases e : i = k
          · subst e; rw [List.getElem?_set_self hi, q1]
          · rw [List.getElem?_set_ne e]
        rw [this]
        exact S
      · have hm : m < xs.length := by rw [← t.length]; exact (List.getElem?_eq_some_iff.mp hv).1
        have hmy : m < ys.length := by omega
        have hx : (ys.take m ++ xs.drop m)[m]? = some xs[m] := by
          rw [List.getElem?_append_right (by rw [List.length_take]; omega), List.length_take, Nat.min_eq_left (Nat.le_of_lt hmy), Nat.sub_self, List.getElem?_drop, Nat.add_zero, List.getElem?_eq_getElem hm]
        have ap := mapO_getE q (List.getElem?_eq_getElem hm) (List.getElem?_eq_getElem hmy)
        unfold apE at ap
        split at ap
        · rename_i zs ez
          split at ap
          · rename_i hz
            rw [ez] at hx
            have s1 : (σd.set i (some (UV.own (ys.take m ++ xs.drop m))))[i]? = some (some (.own (ys.take m ++ xs.drop m))) := List.getElem?_set_self hi
            have s2 : (σd.set i (some (UV.own (ys.take m ++ xs.drop m))))[j]? = some none := by rw [List.getElem?_set_ne hij]; exact q2
            have S2 : Sta c w' Fs' (σd.set i (some (.own (ys.take m ++ xs.drop m)))) hd (σ'.set j (some v)) H' := ⟨RS.free S'.s s2, S'.h, S'.ok⟩
            have e4 : (σ'.set j (some v))[i]? = some (some (.ref a)) := by rw [List.getElem?_set_ne (Ne.symm hij)]; exact e2
            have hA : At w'.ρ H' (σd.set i (some (.own (ys.take m ++ xs.drop m)))) hd (σ'.set j (some v)) (.item (.slot i) m) (.own zs) v := ⟨_, vs, a, ⟨s1, e4⟩, e3, hx, hv⟩
            obtain ⟨Fu, ⟨b, ws, Gx, rfl, hb, eFu, tz⟩, _⟩ := At.RU S2 hA
            have ne : a ≠ b := own_ne S2 s1 e4 e3 hx hv
            have okF : WOk (fullv w' Fs' []) H' := by rw [fullv_nil]; exact S2.ok
            obtain ⟨Fs2, F2, G2, x2, ok2, S3⟩ := put_lst (xs' := zs ++ [.d (.int n)]) (vs' := ws ++ [.int n]) S2 okF hA hb fun G tG => ⟨G ++ [], [], by rw [List.append_nil], (show RUl c w'.Z H' w'.ρ (zs ++ [UV.d (.int n)]) (ws ++ [V.int n]) (G ++ []) from RUl.app tG ⟨V.int n, [], [], [], rfl, by rw [List.append_nil], (show RU c w'.Z H' w'.ρ (.d (.int n)) (.int n) [] from ⟨rfl, rfl⟩), ⟨rfl, rfl⟩⟩)⟩
            have sp : setP (.item (.slot i) m) (.own (zs ++ [.d (.int n)])) (σd.set i (some (.own (ys.take m ++ xs.drop m)))) hd = (σd.set i (some (.own (ys.take (m + 1) ++ xs.drop (m + 1)))), hd) := by
              have gp : getP (.slot i) (σd.set i (some (.own (ys.take m ++ xs.drop m)))) hd = some (.own (ys.take m ++ xs.drop m)) := by simp only [getP, s1]
              have el : (ys.take m ++ xs.drop m).set m (.own (zs ++ [.d (.int n)])) = ys.take (m + 1) ++ xs.drop (m + 1) := by
                rw [List.set_append_right _ _ (by rw [List.length_take]; omega), List.length_take, Nat.min_eq_left (Nat.le_of_lt hmy), Nat.sub_self, List.drop_eq_getElem_cons hm, List.set_cons_zero, List.take_succ, List.getElem?_eq_getElem hmy]
                rw [← Option.some.inj ap]
                simp
              simp only [setP, gp, el, List.set_set]
            rw [sp] at S3
            rw [fullv_nil] at x2
            refine ⟨b, ws, ?_, hb, by rw [tz.length]; exact hz, ⟨w'.ρ, w'.Z, F2⟩, Fs2, ex.trans S2.ok (x2.less fun b hb => ?_), S3, e4, by rw [upd_ne ne]; exact e3⟩
            · have : j < σ'.length := by
                rw [RS.len S'.s]
                exact (List.getElem?_eq_some_iff.mp s2).1
              exact List.getElem?_set_self this
            · rcases List.mem_append.mp hb with z | z
              · exact List.mem_append_left _ z
              · exact List.mem_append_right _ (List.mem_append_left _ z)
          · cases ap
        · cases ap
      · rw [t.length, List.drop_length, List.append_nil, ← hl, List.take_length] at S'
        exact p w' Fs' σ' H' ex S'
    · exact p.elim
  · exact p.elim
end
section
variable {c : Cg} {P : Program} {w : World} {base : Heap} {N : List Str} {sc : Scope} {k : Nat} {X : Cx} {W : WX}
theorem g_appEach (C : Cc c P w base N sc k X W) (i j : Nat) {x y : Str} {n : Int} {e : Expr} {px py pa apos cpos epos pos : Pos} (he : PE X e (tC (.int n))) (hx : PE X (.Name x px) (tVar i)) (hy : PE X (.Name y pa) (tVar j)) (hg : PG X (.Name y py) (gName j))
    (hbase : attributeBase (.Name y pa) "append" X.env (eval (.Name y pa) X.env) = eval (.Name y pa) X.env := by rfl) (hline : (apos.endLine == cpos.line) = true := by rfl) (hs1 : starEach [e] X.env = (false, eval e X.env) :: starEach [] X.env := by rfl)
    (hs : swapsWith (.Call (.Attribute (.Name y pa) "append" apos) [e] [] cpos) none epos.line X.env = pure false := by rfl)
    (hfew : ((backTo cpos (starEach [e] X.env)).all (fun x => !x.1) && (backToKw cpos (keywordEach [] X.env)).all (fun x => x.1.isSome)
      && decide ([e].length + ([] : List Keyword).length + (if ([] : List Keyword).isEmpty then 0 else 1) < 30)) = true := by rfl)
    (hf : ∀ y, foldedSetIterable (.Name x px) X.env y = pure y := by intro _; rfl) :
    PS X (.For (.Name y py) (.Name x px) [.Expr (.Call (.Attribute (.Name y pa) "append" apos) [e] [] cpos) epos] [] pos) (tS c W (sAppEach i j (.int n))) :=
  PS.imp (ps_for C.po C.calm (pi_seq hx) hg (pss_one (s_apC hy he hbase hline hs1 hs hfew)) hf) fun D σ H ⟨wd, Fs, σd, hd, S, p⟩ => by
    obtain ⟨a, vs, e1, e2, Pv, p0, pl, ps, pe⟩ := appEach_ok S p
    refine ⟨.ref a, e1, a, rfl, .inl ⟨⟨vs, .of e2⟩, ?_⟩⟩
    exact for_list Pv p0 (fun m σ' H' _ z => .of (pl m σ' H' z)) (fun m v σ' H' hv z => ps m v σ' H' hv z) pe
end
end MM

/-! MM28: blocks whose variable another block reads; a name set in an except suite. -/
namespace MM
open PySem PySem.Spec PyProof.Rows L2
section
variable {c : Cg} {P : Program} {w : World} {base : Heap} {N : List Str} {sc : Scope} {k : Nat} {X : Cx} {W : WX} {pu : Bool} {m : ME} {e : Expr} {p p' pos : Pos} {x : Str}
theorem blkF (C : Cc c P w base N sc k X W) {scope : Scope} (hk : scope.kind = .function) {R : Cx → Prop} (h : ∀ Y, (∀ x, scope.names.lookup x = some .cell → Y.fn x = true) → Cc c P w base N (relS scope sc) k Y W0 → R Y) : Blk X scope R := fun s H Ca cl fp => h _ (fun x e => by
  show (scope.names.lookup x == some .cell) = true
  rw [e]; rfl) (C.blk hk s H Ca cl fp)
theorem Cc.pgK (C : Cc c P w base N sc k X W) {scope : Scope} (hf : ∀ x, scope.names.lookup x = some .cell → X.fn x = true) (i : Nat) (hi : N[i]? = some x := by rfl) (hl : locB sc x = true := by rfl) (hc : scope.names.lookup x = some .cell := by rfl) : PG X (.Name x pos) (gName i) :=
  pg_name C.nd (C.ni hi) (C.lc (locB_ok hl)) (.inl (hf x hc))
theorem q_set (C : Cq c N sc X) (nd : X.N.Nodup) (Fn : ∀ y, X.fn y = true) (i : Nat) (he : PE X e (tV pu .E c W m)) (hi : N[i]? = some x := by rfl) (hl : locB sc x = true := by rfl) (hsw : swapsWith e (some (.Name x p')) pos.line X.env = pure false := by rfl) : PS X (.Assign [.Name x p'] e pos) (tS c W (sSet i m)) :=
  s_set (fun h => ps_set nd (by rw [C.eN]; exact hi) (by rw [C.esc]; exact locB_ok hl) h hsw (.inl (Fn x))) he
end
end MM

/-! MM29: plain laws for Level B: loops, comprehensions, the laws' comparison, draws and stock. -/
namespace MM
open PySem PySem.Spec PyProof.Rows L2
theorem b62 {i j : Int} (h : -1000000 ≤ i ∧ i < 1000000 ∧ -1000000 ≤ j ∧ j < 1000000) : -(2 ^ 62 : Int) ≤ i ∧ i < 2 ^ 62 ∧ -(2 ^ 62 : Int) ≤ j ∧ j < 2 ^ 62 := by
  have e : (2 : Int) ^ 62 = 4611686018427387904 := by simp
  rw [e]; omega
abbrev oI (xs : List Int) : UV := .own (xs.map fun i => .d (.int i))
abbrev dI (xs : List Int) : UV := .d (.lst (xs.map .int))
theorem mapO_ints (xs : List Int) : mapO uInt (xs.map fun i => UV.d (.int i)) = some xs := by
  induction xs with
  | nil => rfl
  | cons x xs ih => rw [List.map_cons, mapO, ih]; rfl
@[simp] theorem fSum_own (h : HS) (xs : List Int) : fSum h (oI xs) = some (.d (.int xs.sum)) := by
  unfold fSum
  show (mapO uInt (xs.map fun i => UV.d (.int i))).map _ = _
  rw [mapO_ints]; rfl
@[simp] theorem fz_oI (xs : List Int) : fz (oI xs) = some (dI xs) := by
  have := fz_own (xs.map DV.int)
  rw [List.map_map] at this
  exact this
@[simp] theorem fLen_lst (h : HS) (xs : List DV) : fLen h (.d (.lst xs)) = some (.d (.int xs.length)) := by
  simp [fLen, lenU, asQ, asT, asL]
theorem atI_get {α} (xs : List α) (i : Nat) (hi : i < xs.length) : atI xs (i : Int) = some xs[i] := by
  have e : ixN xs.length (i : Int) = some i := by
    unfold ixN
    rw [if_pos (by omega), if_pos (by omega)]; simp
  unfold atI
  rw [e]
  simp [hi]
@[simp] theorem all_ints (xs : List Int) : (xs.map fun i => UV.d (.int i)).all noOwn = true := by
  simp
theorem item_lst (h : HS) (xs : List Int) (i : Nat) (hi : i < xs.length) : oItem h (dI xs) (.d (.int (i : Int))) = some (.d (.int xs[i])) := by
  unfold oItem itemU
  simp only [uInt_int, asQ, asT, asL]
  rw [atI_get _ i (by simpa using hi)]
  simp
theorem sForR_at {lo hi : ME} {td : TD} {b : MS} {σ : SL} {h h1 h2 : HS} {i j : Int} (e1 : lo σ h = .ok (.d (.int i)) h1) (e2 : hi σ h1 = .ok (.d (.int j)) h2) (hb : -1000000 ≤ i ∧ i < 1000000 ∧ -1000000 ≤ j ∧ j < 1000000) : sForR lo hi td b σ h = loopL (turnF td b) (rangeU i (j - i).toNat) σ h2 := by
  unfold sForR
  rw [e1]
  show bindS (hi σ h1) σ _ = _
  rw [e2]
  exact if_pos (b62 hb)
theorem sSeq_nx {a b : MS} {σ σ1 : SL} {h h1 : HS} (e : a σ h = .nx σ1 h1) : sSeq a b σ h = b σ1 h1 := by
  rw [sSeq_at, e]; rfl
theorem fnM_rt {N : Nat} {b : MS} {us : List UV} {h h' : HS} {u : UV} (e : b (us.map some ++ List.replicate (N - us.length) none) h = .rt u h') : fnM N b us h = .ok u h' := by
  rw [fnM_at, e]
theorem mCompR_at {lo hi : ME} {td : TD} {vs : List Nat} {mt : MT} {me : ME} {σ : SL} {h h1 h2 : HS} {i j : Int} (e1 : lo σ h = .ok (.d (.int i)) h1) (e2 : hi σ h1 = .ok (.d (.int j)) h2) (hb : -1000000 ≤ i ∧ i < 1000000 ∧ -1000000 ≤ j ∧ j < 1000000) : mCompR lo hi td vs mt me σ h = compE (turnC td vs mt me σ) (rangeU i (j - i).toNat) h2 := by
  unfold mCompR
  rw [e1]
  show bindM (hi σ h1) _ = _
  rw [e2]
  exact if_pos (b62 hb)
theorem mComp_at {mi : ME} {td : TD} {ss : List Nat} {cond : MT} {me : ME} {σ : SL} {h h1 : HS} {x : UV} {us : List UV} (e1 : mi σ h = .ok x h1) (e2 : frzQ x = some us) : mComp mi td ss cond me σ h = compE (turnC td ss cond me σ) us h1 := by
  unfold mComp
  rw [e1]
  show (match frzQ x with
    | some xs => compE (turnC td ss cond me σ) xs h1
    | none => .bad) = _
  rw [e2]
theorem loopL_nx {f : UV → SL → HS → RS'} {x : UV} {xs : List UV} {σ σ1 : SL} {h h1 : HS} (e : f x σ h = .nx σ1 h1) : loopL f (x :: xs) σ h = loopL f xs σ1 h1 := by
  rw [loopL, e]
theorem sFor_at {m : ME} {td : TD} {b : MS} {σ : SL} {h h1 : HS} {u : UV} {xs : List UV} (e1 : m σ h = .ok u h1) (e2 : frzQ u = some xs) : sFor m td b σ h = loopL (turnF td b) xs σ h1 := by
  unfold sFor
  rw [e1]
  show (match frzQ u with
    | some xs => loopL (turnF td b) xs σ h1
    | none => .bad) = _
  rw [e2]
/-- a loop turn by turn, slots and store -/
theorem loop_steps {f : UV → SL → HS → RS'} : ∀ (xs : List UV) (Pv : Nat → SL → HS → Prop) (σ : SL) (h : HS), Pv 0 σ h → (∀ i (hi : i < xs.length) σ h, Pv i σ h → ∃ σ' h', f xs[i] σ h = .nx σ' h' ∧ Pv (i + 1) σ' h') → ∃ σ' h', loopL f xs σ h = .nx σ' h' ∧ Pv xs.length σ' h'
  | [], Pv, σ, h, h0, _ => ⟨σ, h, rfl, h0⟩
  | x :: xs, Pv, σ, h, h0, hs => by
    obtain ⟨σ1, h1, e1, p1⟩ := hs 0 (by simp) σ h h0
    obtain ⟨σ2, h2, e2, p2⟩ := loop_steps xs (fun i => Pv (i + 1)) σ1 h1 p1 fun i hi σ h p => by
      have := hs (i + 1) (by simpa using hi) σ h p
      simpa using this
    exact ⟨σ2, h2, (loopL_nx e1).trans e2, p2⟩
theorem range_steps {f : UV → SL → HS → RS'} (n : Nat) (Pv : Nat → SL → HS → Prop) (σ : SL) (h : HS) (h0 : Pv 0 σ h) (hs : ∀ i, i < n → ∀ σ h, Pv i σ h → ∃ σ' h', f (.d (.int (i : Int))) σ h = .nx σ' h' ∧ Pv (i + 1) σ' h') : ∃ σ' h', loopL f (rangeU 0 n) σ h = .nx σ' h' ∧ Pv n σ' h' := by
  have := loop_steps (f := f) (rangeU 0 n) Pv σ h h0 fun i hi σ h p => by
    rw [rangeU_len] at hi
    have e : (rangeU 0 n)[i]'(by rw [rangeU_len]; exact hi) = .d (.int (i : Int)) := by simp [rangeU]
    rw [e]
    exact hs i hi σ h p
  rw [rangeU_len] at this
  exact this
/-- a comprehension's turns, some left out -/
theorem compL_fm {α : Type} {f : UV → HS → MR (Option UV)} {h : HS} (e : α → UV) (g : α → Option UV) : ∀ {xs : List α}, (∀ x ∈ xs, f (e x) h = .ok (g x) h) → compL f (xs.map e) h = .ok (xs.filterMap g) h
  | [], _ => rfl
  | x :: xs, hx => by
    rw [List.map_cons, compL, hx x List.mem_cons_self, List.filterMap_cons]
    cases q : g x with
    | none =>
      simp only
      exact compL_fm e g fun y hy => hx y (List.mem_cons_of_mem _ hy)
    | some y =>
      simp only
      rw [compL_fm e g fun y hy => hx y (List.mem_cons_of_mem _ hy)]
theorem compE_fm {α : Type} {f : UV → HS → MR (Option UV)} {h : HS} (e : α → UV) (g : α → Option UV) {xs : List α} (hl : xs.length ≤ sizeLine) (hx : ∀ x ∈ xs, f (e x) h = .ok (g x) h) : compE f (xs.map e) h = .ok (.own (xs.filterMap g)) h := by
  unfold compE
  rw [if_pos (by rw [List.length_map]; exact hl), compL_fm e g hx]
  rfl
/-- a comprehension whose turns change the store -/
theorem compL_ex {f : UV → HS → MR (Option UV)} {Pv : HS → Prop} {R : UV → Prop} : ∀ (xs : List UV) (h : HS), Pv h → (∀ x ∈ xs, ∀ h, Pv h → ∃ y h', f x h = .ok (some y) h' ∧ Pv h' ∧ R y) → ∃ ys h', compL f xs h = .ok ys h' ∧ Pv h' ∧ ys.length = xs.length ∧ ∀ y ∈ ys, R y
  | [], h, h0, _ => ⟨[], h, rfl, h0, rfl, fun _ z => nomatch z⟩
  | x :: xs, h, h0, hx => by
    obtain ⟨y, h1, e1, p1, r1⟩ := hx x List.mem_cons_self h h0
    obtain ⟨ys, h2, e2, p2, l2, r2⟩ := compL_ex xs h1 p1 fun z hz => hx z (List.mem_cons_of_mem _ hz)
    refine ⟨y :: ys, h2, ?_, p2, by simp [l2], fun z hz => (List.mem_cons.mp hz).elim (fun e => e ▸ r1) (r2 z)⟩
    rw [compL, e1]
    simp only
    rw [e2]
theorem size1000 : 1000 ≤ sizeLine := by decide
theorem compE_ex {f : UV → HS → MR (Option UV)} {Pv : HS → Prop} {R : UV → Prop} (xs : List UV) (h : HS) (hl : xs.length ≤ sizeLine) (h0 : Pv h) (hx : ∀ x ∈ xs, ∀ h, Pv h → ∃ y h', f x h = .ok (some y) h' ∧ Pv h' ∧ R y) : ∃ ys h', compE f xs h = .ok (.own ys) h' ∧ Pv h' ∧ ys.length = xs.length ∧ ∀ y ∈ ys, R y := by
  obtain ⟨ys, h', e, r⟩ := compL_ex xs h h0 hx
  refine ⟨ys, h', ?_, r⟩
  unfold compE
  rw [if_pos hl, e]
  rfl
theorem ints_of {ys : List UV} {R : Int → Prop} (h : ∀ y ∈ ys, ∃ i : Int, y = .d (.int i) ∧ R i) : ∃ xs : List Int, ys = xs.map (fun i => .d (.int i)) ∧ ∀ i ∈ xs, R i := by
  induction ys with
  | nil => exact ⟨[], rfl, fun _ z => nomatch z⟩
  | cons y ys ih =>
    obtain ⟨i, rfl, r⟩ := h y List.mem_cons_self
    obtain ⟨xs, rfl, r2⟩ := ih fun z hz => h z (List.mem_cons_of_mem _ hz)
    exact ⟨i :: xs, rfl, fun j hj => (List.mem_cons.mp hj).elim (fun e => e ▸ r) (r2 j)⟩
theorem while_end {t : MT} {b : MS} {n : Nat} {σ : SL} {h : HS} (e : t σ h = .ok false h) : whileF t b (n + 1) σ h = .nx σ h := by
  rw [whileF]; show bindT (t σ h) _ _ = _; rw [e]; rfl
theorem while_go {t : MT} {b : MS} {n : Nat} {σ σ1 : SL} {h h1 : HS} (e : t σ h = .ok true h) (e1 : b σ h = .nx σ1 h1) : whileF t b (n + 1) σ h = whileF t b n σ1 h1 := by
  rw [whileF]
  show bindT (t σ h) _ _ = _
  rw [e]
  show (match b σ h with
    | .nx σ' h' => whileF t b n σ' h'
    | .ct σ' h' => whileF t b n σ' h'
    | .bk σ' h' => .nx σ' h'
    | r => r) = _
  rw [e1]
/-! ### sequences -/
theorem item_seq {u : UV} {h : HS} {xs : List DV} (hq : asQ h u = some (xs.map .d)) (i : Nat) (hi : i < xs.length) : itemU h u (.d (.int (i : Int))) = some (.d xs[i]) := by
  unfold itemU
  simp only [uInt_int, hq]
  rw [atI_get _ i (by simpa using hi)]
  simp
theorem item_seqO {u : UV} {h : HS} {xs : List DV} (hq : asQ h u = some (xs.map .d)) (i : Nat) (hi : i < xs.length) : oItem h u (.d (.int (i : Int))) = some (.d xs[i]) := by
  unfold oItem
  rw [item_seq hq i hi]
  rfl
theorem mat_seq (T : ExT) (h : HS) (F : MF) {u : UV} {xs : List DV} {ty : String} (hty : ty = "list" ∨ ty = "tuple") (hn : isNon u = false) (ho : noOwn u = true) (hf : ∀ n, fIsX T h u (.d (.ty n)) = (isTy ty n).map fun b => .d (.bl b)) (fl : fLen h u = some (.d (.int xs.length)))
    (it : ∀ i (hi : i < xs.length), oItem h u (.d (.int (i : Int))) = some (.d xs[i])) (hl : xs.length ≤ 1000) (hF : ∀ x ∈ xs, F [.d x, .d x] h = .ok (.d (.bl true)) h) : fnM 4 (matB T F) [u, u] h = .ok (.d (.bl true)) h := by
  obtain ⟨σ', h', e, o3, rfl, rfl⟩ := range_steps (f := turnF (tdN 3) (sIf (mNot (mTru (mCall F (aCons (mBin oItem (mVar 0) (mVar 3)) (aCons (mBin oItem (mVar 1) (mVar 3)) aNil))))) (sRet (mK (.bl false))) sPass)) xs.length (fun i σ h' => ∃ o3, σ = [some u, some u, none, o3] ∧ h' = h) [some u, some u, none, none] h ⟨_, rfl, rfl⟩ fun i hi σ h' ⟨o3, e1, e2⟩ => by
    subst e1 e2
    refine ⟨[some u, some u, none, some (.d (.int i))], h', ?_, _, rfl, rfl⟩
    simp [turnF, tdN, it _ hi, hF _ (List.getElem_mem hi)]
  have es := sForR_at (lo := mK (.int 0)) (hi := mUn fLen (mVar 1)) (td := tdN 3) (b := sIf (mNot (mTru (mCall F (aCons (mBin oItem (mVar 0) (mVar 3)) (aCons (mBin oItem (mVar 1) (mVar 3)) aNil))))) (sRet (mK (.bl false))) sPass) (σ := [some u, some u, none, none]) (h := h') (h1 := h') (h2 := h') (i := 0) (j := (xs.length : Int)) rfl (by rw [mUn_at, mVar_at]; show bindM (.ok u h') _ = _; rw [bindM_ok, fl]; rfl) (by omega)
  rw [show ((xs.length : Int) - 0).toNat = xs.length from by omega, e] at es
  refine fnM_rt ?_
  unfold matB
  refine (sSeq_nx (σ1 := [some u, some u, none, none]) (h1 := h') (by simp [hn])).trans ?_
  refine (sSeq_nx (σ1 := [some u, some u, none, none]) (h1 := h') (by rcases hty with rfl | rfl <;> simp [hf, isTy])).trans ?_
  refine (sSeq_nx (σ1 := [some u, some u, none, none]) (h1 := h') (by rcases hty with rfl | rfl <;> simp [hf, isTy])).trans ?_
  refine (sSeq_nx (σ1 := [some u, some u, none, none]) (h1 := h') (by rcases hty with rfl | rfl <;> simp [hf, isTy])).trans ?_
  refine (sSeq_nx (σ1 := [some u, some u, none, none]) (h1 := h') (by rcases hty with rfl | rfl <;> simp [hf, isTy])).trans ?_
  refine (sSeq_nx (σ1 := [some u, some u, none, none]) (h1 := h') (by rcases hty with rfl | rfl <;> simp [hf, isTy])).trans ?_
  refine (sSeq_nx (σ1 := [some u, some u, none, none]) (h1 := h') (by rcases hty with rfl | rfl <;> simp [hf, isTy])).trans ?_
  refine (sSeq_nx (σ1 := [some u, some u, none, none]) (h1 := h') (by simp [oEq_int, fl])).trans ?_
  exact (sSeq_nx es).trans rfl
theorem mat_lst (T : ExT) (h : HS) (F : MF) (xs : List DV) (hl : xs.length ≤ 1000) (hF : ∀ x ∈ xs, F [.d x, .d x] h = .ok (.d (.bl true)) h) : fnM 4 (matB T F) [.d (.lst xs), .d (.lst xs)] h = .ok (.d (.bl true)) h :=
  mat_seq T h F (ty := "list") (.inl rfl) rfl rfl (fun n => rfl) (fLen_lst h xs) (fun i hi => item_seqO rfl i hi) hl hF
theorem mat_tup (T : ExT) (h : HS) (F : MF) (xs : List DV) (hl : xs.length ≤ 1000) (hF : ∀ x ∈ xs, F [.d x, .d x] h = .ok (.d (.bl true)) h) : fnM 4 (matB T F) [.d (.tup xs), .d (.tup xs)] h = .ok (.d (.bl true)) h :=
  mat_seq T h F (ty := "tuple") (.inr rfl) rfl rfl (fun n => rfl) (by simp [fLen, lenU, asQ, asT, asL]) (fun i hi => item_seqO rfl i hi) hl hF
/-! ### draws -/
def drawB : MS := (sSeq (sIf (mTst (mBin cGt (mBin oItem (mVar 0) (mK (.int 0))) (mK (.int 0)))) (sSeq (sSet 2 (mBin oMod (mUn fInt (mBin itemU (mVar 0) (mK (.int 0)))) (mVar 1))) (sSeq (sISet (pVar 0) (mK (.int 0)) (mBin oFdiv (mBin oItem (mVar 0) (mK (.int 0))) (mVar 1))) (sMove 2))) sPass) (sSeq (sIAug true (pVar 0) (mK (.int 2)) (fun i j => i + j) (mK (.int 1))) (sSeq (sISet (pVar 0) (mK (.int 1)) (mBin oMod (mUn fInt (mBin oAdd (mBin oMul (mBin oItem (mVar 0) (mK (.int 1))) (mK (.int 48271))) (mBin oMul (mBin oItem (mVar 0) (mK (.int 2))) (mK (.int 69621))))) (mK (.int 2147483647)))) (sRet (mBin oMod (mBin oFdiv (mBin oMod (mUn fInt (mBin oAdd (mBin oMul (mBin oItem (mVar 0) (mK (.int 1))) (mK (.int 16807))) (mBin oMul (mBin oItem (mVar 0) (mK (.int 2))) (mK (.int 7919))))) (mK (.int 2147483629))) (mK (.int 8))) (mVar 1))))))
def drawF : MF := fnM 3 drawB
abbrev c3 (a b c : Int) : Cel := .lst [.d (.int a), .d (.int b), .d (.int c)]
theorem draw1 (k : Nat) (a b c m : Int) (h : HS) (hk : h[k]? = some (c3 a b c)) (ha : 0 < a) (hm : 0 < m ∧ m < 1073741824) : drawF [.ref k, .d (.int m)] h = .ok (.d (.int (a % m))) (h.set k (c3 (a / m) b c)) := by
  have i0 : oItem h (.ref k) (.d (.int 0)) = some (.d (.int a)) := by
    unfold oItem itemU; simp [asQ, asT, asL, hk]; rfl
  have i1 : itemU h (.ref k) (.d (.int 0)) = some (.d (.int a)) := by
    unfold itemU; simp [asQ, asT, asL, hk]; rfl
  have l0 : lstAt (pVar 0) [some (.ref k), some (.d (.int m)), some (.d (.int (a % m)))] h = some (.cell k, [.d (.int a), .d (.int b), .d (.int c)]) := by
    simp [lstAt, pVar, plU, getP, hk, celU]
  have q1 := oMod_int h a m hm.1
  have q2 := oFdiv_int h a m hm.1 (by omega)
  simp [drawF, fnM_at, drawB, i0, i1, ha, q1, q2, sISet, l0]
  simp [ixN, nxP, setP, hk, uCel]
section
variable {k : Nat} {a b c : Int} {h : HS} (hk : h[k]? = some (c3 a b c))
include hk
theorem ci0 : oItem h (.ref k) (.d (.int 0)) = some (.d (.int a)) := by
  unfold oItem itemU; simp [asQ, asT, asL, hk]; rfl
theorem ci1 : oItem h (.ref k) (.d (.int 1)) = some (.d (.int b)) := by
  unfold oItem itemU; simp [asQ, asT, asL, hk]; rfl
theorem ci2 : oItem h (.ref k) (.d (.int 2)) = some (.d (.int c)) := by
  unfold oItem itemU; simp [asQ, asT, asL, hk]; rfl
theorem cset (x : Cel) : (h.set k x)[k]? = some x := by
  have : k < h.length := (List.getElem?_eq_some_iff.mp hk).1
  rw [List.getElem?_set_self this]
end
theorem draw2 (k : Nat) (a b c m : Int) (h : HS) (hk : h[k]? = some (c3 a b c)) (ha : ¬ 0 < a) (hm : 0 < m ∧ m < 1073741824) : ∃ b' r, drawF [.ref k, .d (.int m)] h = .ok (.d (.int (r % m))) (h.set k (c3 a b' (c + 1))) := by
  have cm : ∀ i j : Int, 0 ≤ j → j < 1000000 → CMul i j := fun i j h1 h2 => by
    right
    have e6 : (2 : Int) ^ 64 = 18446744073709551616 := by simp
    rw [e6]; omega
  let h1 := h.set k (c3 a b (c + 1))
  have k1 : h1[k]? = some (c3 a b (c + 1)) := cset hk _
  let b' := (b * 48271 + (c + 1) * 69621) % 2147483647
  let h2 := h1.set k (c3 a b' (c + 1))
  have k2 : h2[k]? = some (c3 a b' (c + 1)) := cset k1 _
  have s2 : h2 = h.set k (c3 a b' (c + 1)) := List.set_set ..
  refine ⟨b', (b' * 16807 + (c + 1) * 7919) % 2147483629 / 8, ?_⟩
  rw [← s2]
  refine fnM_rt ?_
  refine (sSeq_nx (σ1 := [some (.ref k), some (.d (.int m)), none]) (h1 := h) (by simp [ci0 hk, ha])).trans ?_
  refine (sSeq_nx (σ1 := [some (.ref k), some (.d (.int m)), none]) (h1 := h1) (by
    have l0 : lstAt (pVar 0) [some (.ref k), some (.d (.int m)), none] h = some (.cell k, [.d (.int a), .d (.int b), .d (.int c)]) := by
      simp [lstAt, pVar, plU, getP, hk, celU]
    have gp : getP (.cell k) [some (.ref k), some (.d (.int m)), none] h = some (.own [.d (.int a), .d (.int b), .d (.int c)]) := by simp [getP, hk, celU]
    have at2 : atI [UV.d (.int a), UV.d (.int b), UV.d (.int c)] 2 = some (UV.d (.int c)) := rfl
    have ix : ixN 3 2 = some 2 := rfl
    simp [sIAug, l0, at2, gp, ix, nxP, setP, hk, uCel, firm, h1])).trans ?_
  refine (sSeq_nx (σ1 := [some (.ref k), some (.d (.int m)), none]) (h1 := h2) (by
    have l0 : lstAt (pVar 0) [some (.ref k), some (.d (.int m)), none] h1 = some (.cell k, [.d (.int a), .d (.int b), .d (.int (c + 1))]) := by
      simp [lstAt, pVar, plU, getP, k1, celU]
    have ix : ixN 3 1 = some 1 := rfl
    simp [sISet, ci1 k1, ci2 k1, oMul_int _ _ _ (cm _ 48271 (by omega) (by omega)), oMul_int _ _ _ (cm _ 69621 (by omega) (by omega)), oMod_int]
    simp [l0, ix, nxP, setP, k1, uCel, h2, b'])).trans ?_
  simp [ci1 k2, ci2 k2, oMul_int _ _ _ (cm _ 16807 (by omega) (by omega)), oMul_int _ _ _ (cm _ 7919 (by omega) (by omega)), oMod_int, oFdiv_int, hm.1]
theorem draw (k : Nat) (a b c m : Int) (h : HS) (hk : h[k]? = some (c3 a b c)) (hm : 0 < m ∧ m < 1073741824) : ∃ r a' b' c', 0 ≤ r ∧ r < m ∧ drawF [.ref k, .d (.int m)] h = .ok (.d (.int r)) (h.set k (c3 a' b' c')) := by
  by_cases ha : 0 < a
  · exact ⟨a % m, a / m, b, c, Int.emod_nonneg _ (by omega), Int.emod_lt_of_pos _ hm.1, draw1 k a b c m h hk ha hm⟩
  · obtain ⟨b', r, e⟩ := draw2 k a b c m h hk ha hm
    exact ⟨r % m, a, b', c + 1, Int.emod_nonneg _ (by omega), Int.emod_lt_of_pos _ hm.1, e⟩
/-- the store with the cell k in it, the rest fixed -/
def CellIn (h0 : HS) (k : Nat) (h : HS) : Prop := ∃ a b c, h = h0 ++ [c3 a b c] ∧ k = h0.length
theorem drawC {h0 : HS} {k : Nat} {h : HS} (m : Int) (hc : CellIn h0 k h) (hm : 0 < m ∧ m < 1073741824) : ∃ r h', 0 ≤ r ∧ r < m ∧ drawF [.ref k, .d (.int m)] h = .ok (.d (.int r)) h' ∧ CellIn h0 k h' := by
  obtain ⟨a, b, c, rfl, rfl⟩ := hc
  obtain ⟨r, a', b', c', h1, h2, e⟩ := draw h0.length a b c m (h0 ++ [c3 a b c]) (by simp) hm
  refine ⟨r, _, h1, h2, e, a', b', c', ?_, rfl⟩
  rw [List.set_append_right _ _ (Nat.le_refl _)]
  simp
/-! ### stock -/
def stockB : MS := (sSeq (sSet 2 (mIf (mTst (mBin cLt (mVar 1) (mUn fLen (mVar 0)))) (mUn fInt (mBin itemU (mVar 0) (mVar 1))) (mBin oMul (mK (.int 31)) (mUn fSum (mComp (mFz (mSlice (mVar 0) oNo (oYes (mK (.int 4))))) (tdN 3) [3] mYes (mBin oMod (mUn fInt (mVar 3)) (mK (.int 1000003)))))))) (sSeq (sSet 4 (mBin oAdd (mBin oMul (mK (.int 2)) (mUn fAbs (mVar 2))) (mIf (mTst (mBin cLt (mVar 2) (mK (.int 0)))) (mK (.int 1)) (mK (.int 0))))) (sRet (mLst (aCons (mIf (mTst (mBin cGe (mVar 4) (mBin oPow (mK (.int 10)) (mK (.int 18))))) (mVarE 4) (mK (.int 0))) (aCons (mBin oMod (mUn fInt (mBin oAdd (mBin oAdd (mVar 4) (mBin oMul (mVar 1) (mK (.int 104729)))) (mK (.int 12345)))) (mK (.int 2147483629))) (aCons (mVarE 1) aNil)))))))
def stockF : MF := fnM 5 stockB
theorem rol_get (h : HS) (ns : List Int) (i : Nat) (hi : i < ns.length) : itemU h (.d (.rol (ns.map .int))) (.d (.int (i : Int))) = some (.d (.int ns[i])) := by
  unfold itemU
  simp only [uInt_int, asQ, asT, asL]
  rw [atI_get _ i (by simpa using hi)]
  simp
theorem rol_len (h : HS) (ns : List Int) : fLen h (.d (.rol (ns.map .int))) = some (.d (.int ns.length)) := by
  simp [fLen, lenU, asQ, asT, asL]
theorem rol_cut (h : HS) (ns : List Int) : sliceU h (.d (.rol (ns.map .int))) none (some 4) = some (oI (ns.take 4)) := by
  unfold sliceU
  simp only [asL]
  have e : cutL ((ns.map DV.int).map UV.d) none (some 4) = (ns.take 4).map fun i => UV.d (.int i) := by
    unfold cutL
    rw [show (some (4 : Int)) = some ((4 : Nat) : Int) from rfl, HT.sIx_nat, HT.sIx_none, List.drop_zero, Nat.sub_zero, List.map_map, List.map_take, ← List.take_eq_take_min]
    rfl
  rw [e]
  simp
/-- a comprehension of ints out of ints -/
theorem comp_ints {σ : SL} {s : Nat} {me : ME} {h : HS} (g : Int → Int) (xs : List Int) (hl : xs.length ≤ 1000) (hme : ∀ x : Int, me ((wipeU σ [s]).set s (some (.d (.int x)))) h = .ok (.d (.int (g x))) h) : compE (turnC (tdN s) [s] mYes me σ) (xs.map fun i => .d (.int i)) h = .ok (oI (xs.map g)) h := by
  have h1 : 1000 ≤ sizeLine := by decide
  have key : ∀ ys : List Int, compL (turnC (tdN s) [s] mYes me σ) (ys.map fun i => .d (.int i)) h = .ok ((ys.map g).map fun i => .d (.int i)) h := fun ys => by
    induction ys with
    | nil => rfl
    | cons y ys ih =>
      rw [List.map_cons, compL]
      have e : turnC (tdN s) [s] mYes me σ (UV.d (.int y)) h = .ok (some (.d (.int (g y)))) h := by
        simp only [turnC, tdN, mYes]
        rw [hme y]
      rw [e]
      simp only
      rw [ih]
      rfl
  unfold compE
  rw [if_pos (by rw [List.length_map]; omega), key]
  rfl
theorem powN (h : HS) : ∃ N : Int, oPow h (.d (.int 10)) (.d (.int 18)) = some (.d (.int N)) := ⟨10 ^ 18, by kernel_rfl⟩
theorem cmR (i j : Int) (h1 : 0 ≤ i) (h2 : i < 1000000) : CMul i j := by
  left
  have e6 : (2 : Int) ^ 64 = 18446744073709551616 := by simp
  rw [e6]; omega
theorem stock_sum (ns : List Int) (i : Int) (h : HS) : ∃ z : Int, mUn fSum (mComp (mFz (mSlice (mVar 0) oNo (oYes (mK (.int 4))))) (tdN 3) [3] mYes (mBin oMod (mUn fInt (mVar 3)) (mK (.int 1000003)))) [some (.d (.rol (ns.map .int))), some (.d (.int i)), none, none, none] h = .ok (.d (.int z)) h := by
  have ec := comp_ints (σ := [some (.d (.rol (ns.map .int))), some (.d (.int i)), none, none, none]) (s := 3) (me := mBin oMod (mUn fInt (mVar 3)) (mK (.int 1000003))) (h := h) (fun x => x % 1000003) (ns.take 4) (by rw [List.length_take]; omega) fun x => by
    simp [wipeU, oMod_int]
  have fq : frzQ (dI (ns.take 4)) = some ((ns.take 4).map fun i => .d (.int i)) := by
    simp only [frzQ, List.map_map]; rfl
  have e0 : mFz (mSlice (mVar 0) oNo (oYes (mK (.int 4)))) [some (.d (.rol (ns.map .int))), some (.d (.int i)), none, none, none] h = .ok (dI (ns.take 4)) h := by
    simp [rol_cut]
  refine ⟨((ns.take 4).map fun x => x % 1000003).sum, ?_⟩
  rw [mUn_at, mComp_at e0 fq, ec]
  simp
theorem stock_one (ns : List Int) (i : Nat) (h : HS) : ∃ x : Int, sSet 2 (mIf (mTst (mBin cLt (mVar 1) (mUn fLen (mVar 0)))) (mUn fInt (mBin itemU (mVar 0) (mVar 1))) (mBin oMul (mK (.int 31)) (mUn fSum (mComp (mFz (mSlice (mVar 0) oNo (oYes (mK (.int 4))))) (tdN 3) [3] mYes (mBin oMod (mUn fInt (mVar 3)) (mK (.int 1000003))))))) [some (.d (.rol (ns.map .int))), some (.d (.int (i : Int))), none, none, none] h = .nx [some (.d (.rol (ns.map .int))), some (.d (.int (i : Int))), some (.d (.int x)), none, none] h := by
  by_cases q : i < ns.length
  · refine ⟨ns[i], ?_⟩
    have q' : (i : Int) < (ns.length : Int) := by omega
    simp [rol_len, rol_get _ _ _ q, q']
  · have q' : ¬ (i : Int) < (ns.length : Int) := by omega
    obtain ⟨z, ez⟩ := stock_sum ns i h
    refine ⟨31 * z, ?_⟩
    rw [sSet_at, mIf_at]
    have et : mTst (mBin cLt (mVar 1) (mUn fLen (mVar 0))) [some (.d (.rol (ns.map .int))), some (.d (.int (i : Int))), none, none, none] h = .ok false h := by
      simp [rol_len, q']
    rw [et]
    have e2 : mBin oMul (mK (.int 31)) (mUn fSum (mComp (mFz (mSlice (mVar 0) oNo (oYes (mK (.int 4))))) (tdN 3) [3] mYes (mBin oMod (mUn fInt (mVar 3)) (mK (.int 1000003))))) [some (.d (.rol (ns.map .int))), some (.d (.int (i : Int))), none, none, none] h = ofO (oMul h (.d (.int 31)) (.d (.int z))) h := by
      rw [mBin_at, mK_at]; show bindM (mUn fSum _ _ h) _ = _; rw [ez]; rfl
    show bindS (mBin oMul (mK (.int 31)) (mUn fSum (mComp (mFz (mSlice (mVar 0) oNo (oYes (mK (.int 4))))) (tdN 3) [3] mYes (mBin oMod (mUn fInt (mVar 3)) (mK (.int 1000003))))) [some (.d (.rol (ns.map .int))), some (.d (.int (i : Int))), none, none, none] h) _ _ = _
    rw [e2, oMul_int _ _ _ (cmR 31 z (by omega) (by omega))]
    rfl
theorem stock_sz (ns : List Int) (i : Nat) (x : Int) (h : HS) : ∃ sz : Int, sSet 4 (mBin oAdd (mBin oMul (mK (.int 2)) (mUn fAbs (mVar 2))) (mIf (mTst (mBin cLt (mVar 2) (mK (.int 0)))) (mK (.int 1)) (mK (.int 0)))) [some (.d (.rol (ns.map .int))), some (.d (.int (i : Int))), some (.d (.int x)), none, none] h = .nx [some (.d (.rol (ns.map .int))), some (.d (.int (i : Int))), some (.d (.int x)), none, some (.d (.int sz))] h := by
  by_cases q : x < 0
  · exact ⟨2 * (-x) + 1, by simp [oMul_int _ _ _ (cmR 2 _ (by omega) (by omega)), q]⟩
  · exact ⟨2 * x + 0, by simp [oMul_int _ _ _ (cmR 2 _ (by omega) (by omega)), q]⟩
theorem stock_ret' (σ0 : Option UV) (i x sz N P Q R A B : Int) (hR : 0 < R) (hP : CMul i P) (h : HS) (hN : oPow h (.d (.int A)) (.d (.int B)) = some (.d (.int N))) : ∃ a b : Int, sRet (mLst (aCons (mIf (mTst (mBin cGe (mVar 4) (mBin oPow (mK (.int A)) (mK (.int B))))) (mVarE 4) (mK (.int 0))) (aCons (mBin oMod (mUn fInt (mBin oAdd (mBin oAdd (mVar 4) (mBin oMul (mVar 1) (mK (.int P)))) (mK (.int Q)))) (mK (.int R))) (aCons (mVarE 1) aNil)))) [σ0, some (.d (.int i)), some (.d (.int x)), none, some (.d (.int sz))] h = .rt (.own [.d (.int a), .d (.int b), .d (.int i)]) h := by
  refine ⟨if N ≤ sz then sz else 0, (sz + i * P + Q) % R, ?_⟩
  by_cases q : N ≤ sz <;> simp [hN, q, oMul_int _ _ _ hP, oMod_int _ _ _ hR]
theorem stock_ret (σ0 : Option UV) (i : Nat) (hi : i < 1000) (x sz N : Int) (h : HS) (hN : oPow h (.d (.int 10)) (.d (.int 18)) = some (.d (.int N))) : ∃ a b : Int, sRet (mLst (aCons (mIf (mTst (mBin cGe (mVar 4) (mBin oPow (mK (.int 10)) (mK (.int 18))))) (mVarE 4) (mK (.int 0))) (aCons (mBin oMod (mUn fInt (mBin oAdd (mBin oAdd (mVar 4) (mBin oMul (mVar 1) (mK (.int 104729)))) (mK (.int 12345)))) (mK (.int 2147483629))) (aCons (mVarE 1) aNil)))) [σ0, some (.d (.int (i : Int))), some (.d (.int x)), none, some (.d (.int sz))] h = .rt (.own [.d (.int a), .d (.int b), .d (.int i)]) h :=
  stock_ret' σ0 i x sz N 104729 12345 2147483629 10 18 (by omega) (cmR _ _ (by omega) (by omega)) h hN
theorem stock (ns : List Int) (i : Nat) (hi : i < 1000) (h : HS) : ∃ a b : Int, stockF [.d (.rol (ns.map .int)), .d (.int (i : Int))] h = .ok (.own [.d (.int a), .d (.int b), .d (.int i)]) h := by
  obtain ⟨x, ex⟩ := stock_one ns i h
  obtain ⟨sz, hsz⟩ := stock_sz ns i x h
  obtain ⟨N, hN⟩ := powN h
  obtain ⟨a, b, er⟩ := stock_ret (some (.d (.rol (ns.map .int)))) i hi x sz N h hN
  exact ⟨a, b, fnM_rt ((sSeq_nx ex).trans ((sSeq_nx hsz).trans er))⟩
end MM

namespace MM.K14
open PySem PySem.Spec PyProof.Rows L2
abbrev pw : Program := PySem.Challenge.pw_neverlifted_k14_late_guests_come_in_orde
abbrev BL : List Str := ["ValueError", "abs", "bool", "dict", "int", "isinstance", "len", "list", "max", "range", "str", "sum", "tuple"]
def tab_LIMITS : List (Str × DV) := [("beats", .int 400), ("guests", .int 600), ("late", .int 12)]
def sgT : List ((Str × Str) × Bool) := [(("BadCourse", "BadCourse"), true), (("BadCourse", "BadKitchen"), false), (("BadCourse", "LiftedError"), true), (("BadCourse", "TooMany"), false), (("TooMany", "BadCourse"), false), (("TooMany", "BadKitchen"), false), (("TooMany", "LiftedError"), true), (("TooMany", "TooMany"), true)]
def stT : List ((Str × String) × Bool) := [(("BadCourse", "ValueError"), true), (("TooMany", "ValueError"), true)]
def flT : List (Str × Str) := [("BadCourse", "what"), ("TooMany", "what")]
def exT : ExT := ⟨fun a b => sgT.lookup (a, b), fun a b => stT.lookup (a, b), fun a b => flT.contains (a, b)⟩
def q__law_case : Str := "_law_case.<locals>.<lambda>"
def q__law_bounds : Str := "_law_bounds.<locals>.<lambda>"
abbrev J_0 : CloI := lamOf "_law_case.<locals>.<lambda>" ["rows", "spoilt", "late"] (wayE [15, 0] 0 [0, 1, 1] (topOf pw 16))
abbrev J_1 : CloI := lamOf "_law_bounds.<locals>.<lambda>" ["row"] (wayE [7, 0] 0 [0, 1, 1] (topOf pw 17))
def ciT : Nat → Option CloI
  | 0 => some J_0
  | 1 => some J_1
  | _ => none
abbrev P__law_case : Addr := 131
abbrev P__law_bounds : Addr := 136
abbrev st__law_draw : Stmt := topOf pw 13
abbrev N__law_draw : List Str := ["stock", "many", "found"]
abbrev p__law_draw : List Str := ["stock", "many"]
theorem S__law_draw : FnScope N__law_draw p__law_draw (defScope st__law_draw) := ⟨rfl, rfl, rfl, by decide +kernel, rfl, by decide +kernel, by decide +kernel⟩
abbrev st__law_matches : Stmt := topOf pw 14
abbrev N__law_matches : List Str := ["answer", "due", "key", "at"]
abbrev p__law_matches : List Str := ["answer", "due"]
theorem S__law_matches : FnScope N__law_matches p__law_matches (defScope st__law_matches) := ⟨rfl, rfl, rfl, by decide +kernel, rfl, by decide +kernel, by decide +kernel⟩
abbrev st_check : Stmt := topOf pw 7
abbrev N_check : List Str := ["what", "number"]
abbrev p_check : List Str := ["what", "number"]
theorem S_check : FnScope N_check p_check (defScope st_check) := ⟨rfl, rfl, rfl, by decide +kernel, rfl, by decide +kernel, by decide +kernel⟩
abbrev st_late_course : Stmt := topOf pw 9
abbrev N_late_course : List Str := ["bookings", "delays", "late", "row", "delay", "comings", "at", "wish", "many", "coming"]
abbrev p_late_course : List Str := ["bookings", "delays", "late"]
theorem S_late_course : FnScope N_late_course p_late_course (defScope st_late_course) := ⟨rfl, rfl, rfl, by decide +kernel, rfl, by decide +kernel, by decide +kernel⟩
abbrev st__law_asked : Stmt := topOf pw 11
abbrev N__law_asked : List Str := ["call", "found", "e", "kinds"]
abbrev p__law_asked : List Str := ["call"]
theorem S__law_asked : FnScope N__law_asked p__law_asked (defScope st__law_asked) := ⟨rfl, rfl, rfl, by decide +kernel, rfl, by decide +kernel, by decide +kernel⟩
abbrev st__law_bounds : Stmt := topOf pw 17
abbrev N__law_bounds : List Str := ["stock", "beats", "quiet", "late", "due", "asked", "row"]
abbrev p__law_bounds : List Str := ["stock"]
theorem S__law_bounds : FnScope N__law_bounds p__law_bounds (defScope st__law_bounds) := ⟨rfl, rfl, rfl, by decide +kernel, rfl, by decide +kernel, by decide +kernel⟩
abbrev st__law_stock : Stmt := topOf pw 12
abbrev N__law_stock : List Str := ["script", "at", "cell", "one", "size"]
abbrev p__law_stock : List Str := ["script", "at"]
theorem S__law_stock : FnScope N__law_stock p__law_stock (defScope st__law_stock) := ⟨rfl, rfl, rfl, by decide +kernel, rfl, by decide +kernel, by decide +kernel⟩
abbrev st__law_late_due : Stmt := topOf pw 15
abbrev N__law_late_due : List Str := ["bookings", "delays", "found", "row", "number", "at", "wish"]
abbrev p__law_late_due : List Str := ["bookings", "delays"]
theorem S__law_late_due : FnScope N__law_late_due p__law_late_due (defScope st__law_late_due) := ⟨rfl, rfl, rfl, by decide +kernel, rfl, by decide +kernel, by decide +kernel⟩
abbrev st__law_case : Stmt := topOf pw 16
abbrev N__law_case : List Str := ["stock", "late", "bookings", "beat", "guest", "guests", "row", "full", "delays", "due", "rows", "numbers", "answer", "wrong", "at", "spoilt"]
abbrev p__law_case : List Str := ["stock"]
theorem S__law_case : FnScope N__law_case p__law_case (defScope st__law_case) := ⟨rfl, rfl, rfl, by decide +kernel, rfl, by decide +kernel, by decide +kernel⟩
abbrev st_law : Stmt := topOf pw 18
abbrev N_law : List Str := ["script", "at"]
abbrev p_law : List Str := ["script"]
theorem S_law : FnScope N_law p_law (defScope st_law) := ⟨rfl, rfl, rfl, by decide +kernel, rfl, by decide +kernel, by decide +kernel⟩
theorem LA_0 : LamAt (defScope st__law_case) N__law_case J_0 [10, 15, 1] := lamAtB_ok (by decide +kernel)
theorem LA_1 : LamAt (defScope st__law_bounds) N__law_bounds J_1 [6] := lamAtB_ok (by decide +kernel)
def B_check : MS := (sIf (mTst (mBin cGt (mVar 1) (mUn (tabGet tab_LIMITS) (mVar 0)))) (sRaise "TooMany" ["what"] (aCons (mVarE 0) aNil)) sPass)
def F_check : MF := fnM 2 B_check
theorem d_check {c : Cg} {P : Program} {w : World} {base : Heap} {k : Nat} {X : Cx} {W : WX} (C : Cc c P w base N_check (defScope st_check) (k + 1) X W) (Fn : ∀ y, X.fn y = true) (St : X.stack = X.env :: X.outer) (Fr : X.env.frame = some X.env.locals) (B : NoG c BL) (R_TooMany : Ra c P w base k "TooMany" ["what"]) {a_LIMITS : Addr} (m_LIMITS : c.mg "LIMITS" = some (.ref a_LIMITS)) (t_LIMITS : TabOk c w a_LIMITS tab_LIMITS) : PSs X (defBody st_check) (tS c W B_check) :=
  (ss_one (s_if (pu := false) (t_cmp op_gt oLt_ok (b_var 1 (C.var 1)) (bC (g_tab C m_LIMITS t_LIMITS (bC (b_var 0 (C.var 0))))) (nomark _)) (ss_one (g_raise C R_TooMany (as_cons (e_var 0 (C.var 0)) as_nil) (argN_cons argN_nil))) ss_nil))
def B_late_course : MS := (sSeq (sDrop (mCall F_check (aCons (mK (.str "beats")) (aCons (mUn fLen (mVar 0)) aNil)))) (sSeq (sDrop (mCall F_check (aCons (mK (.str "guests")) (aCons (mUn fSum (mComp (mVarE 0) (tdN 3) [3] mYes (mUn fLen (mVar 3)))) aNil)))) (sSeq (sDrop (mCall F_check (aCons (mK (.str "late")) (aCons (mVarE 2) aNil)))) (sSeq (sIf (mTst (mBin (oEq true) (mUn fLen (mVar 1)) (mUn fSum (mComp (mVarE 0) (tdN 3) [3] mYes (mUn fLen (mVar 3)))))) (sRaise "BadCourse" ["what"] (aCons (mK (.str "delay")) aNil)) sPass) (sSeq (sFor (mVarE 1) (tdN 4) (sIf (mOr (mTst (mBin cLt (mVar 4) (mK (.int 0)))) (mTst (mBin cGt (mVar 4) (mVar 2)))) (sRaise "BadCourse" ["what"] (aCons (mK (.str "delay")) aNil)) sPass)) (sSeq (sSet 5 (mLst aNil)) (sSeq (sForR (mK (.int 0)) (mUn fLen (mVar 0)) (tdN 6) (sFor (mBin oItem (mVar 0) (mVar 6)) (tdN 7) (sApp true (pVar 5) (mTup (aCons (mBin oAdd (mVar 6) (mBin itemU (mVar 1) (mUn fLen (mVar 5)))) (aCons (mVarE 7) aNil)))))) (sGh (gFz 5) (sSeq (sSet 8 (mUn fMax (mBin oAdd (mLst (aCons (mUn fLen (mVar 0)) aNil)) (mComp (mVarE 5) (tdN 9) [9] mYes (mBin oAdd (mBin oItem (mVar 9) (mK (.int 0))) (mK (.int 1))))))) (sRet (mCompR (mK (.int 0)) (mVar 8) (tdN 6) [6] mYes (mComp (mVarE 5) (tdN 9) [9] (mTst (mBin (oEq false) (mBin oItem (mVar 9) (mK (.int 0))) (mVar 6))) (mBin oItem (mVar 9) (mK (.int 1)))))))))))))))
def F_late_course : MF := fnM 10 B_late_course
theorem d_late_course {c : Cg} {P : Program} {w : World} {base : Heap} {k : Nat} {X : Cx} {W : WX} (C : Cc c P w base N_late_course (defScope st_late_course) (k + 1) X W) (Fn : ∀ y, X.fn y = true) (St : X.stack = X.env :: X.outer) (Fr : X.env.frame = some X.env.locals) (B : NoG c BL) (G_check : Gd c P w base (k + 1) "check" 2 F_check) (R_BadCourse : Ra c P w base k "BadCourse" ["what"]) : PSs X (defBody st_late_course) (tS c W B_late_course) :=
  (ss_cons (s_drop (pu := false) (bC (g_call C G_check (as_cons e_str (as_cons (g_len C B (bC (b_var 0 (C.var 0)))) as_nil)) (argN_cons (argN_cons argN_nil))))) (ss_cons (s_drop (pu := false) (bC (g_call C G_check (as_cons e_str (as_cons (g_sum C B (bC (g_comp C (own := [("row", 3)]) (e_var 0 (C.var 0)) (by decide +kernel) (tgN 3) (tgwN (by decide)) (blkI C rfl fun _ Y14 => (Y14.pgL 3)) (blkI C rfl fun _ Y14 => ts_nil) (blkI C rfl fun _ Y14 => (g_len Y14 B (bC (b_var 3 (Y14.var 3)))))))) as_nil)) (argN_cons (argN_cons argN_nil))))) (ss_cons (s_drop (pu := false) (bC (g_call C G_check (as_cons e_str (as_cons (e_var 2 (C.var 2)) as_nil)) (argN_cons (argN_cons argN_nil))))) (ss_cons (s_if (pu := false) (t_cmp C.neR oNe_ok (eB (g_len C B (bC (b_var 1 (C.var 1))))) (bC (g_sum C B (bC (g_comp C (own := [("row", 3)]) (e_var 0 (C.var 0)) (by decide +kernel) (tgN 3) (tgwN (by decide)) (blkI C rfl fun _ Y15 => (Y15.pgL 3)) (blkI C rfl fun _ Y15 => ts_nil) (blkI C rfl fun _ Y15 => (g_len Y15 B (bC (b_var 3 (Y15.var 3))))))))) (nomark _)) (ss_one (g_raise C R_BadCourse (as_cons e_str as_nil) (argN_cons argN_nil))) ss_nil) (ss_cons (g_for (pu := false) C (e_var 1 (C.var 1)) (C.pgN Fn 4) (tgN 4) (ss_one (s_if (pu := false) (PW.pt (w_or (t_cmp op_lt oLt_ok (b_var 4 (C.var 4)) (bC e_int) (nomark _)) (w_or1 (t_cmp op_gt oLt_ok (b_var 4 (C.var 4)) (bC (b_var 2 (C.var 2))) (nomark _))))) (ss_one (g_raise C R_BadCourse (as_cons e_str as_nil) (argN_cons argN_nil))) ss_nil))) (ss_cons (g_set (pu := false) C Fn 5 (e_lst as_nil)) (ss_cons (g_forR1 (pu := false) C B (bC (g_len C B (bC (b_var 0 (C.var 0))))) (C.pgN Fn 6) (tgN 6) (ss_one (g_for (pu := false) C (e_ix C.eK (b_var 0 (C.var 0)) (bC (b_var 6 (C.var 6))) (fun _ _ => rfl)) (C.pgN Fn 7) (tgN 7) (ss_one (s_app (pu := false) (f := true) (.inl rfl) (p_var 5 (C.var 5)) (e_tup (as_cons (e_op C.addR oAdd_ok (b_var 6 (C.var 6)) (c_ix C.eK (b_var 1 (C.var 1)) (bC (g_len C B (bC (b_var 5 (C.var 5))))) (fun _ _ => rfl))) (as_cons (e_var 7 (C.var 7)) as_nil)))))))) (ss_gh (gFz_ok 5) (ss_cons (g_set (pu := false) C Fn 8 (g_max1 C B (bC (e_op C.addR oAdd_ok (eB (e_lst (as_cons (g_len C B (bC (b_var 0 (C.var 0)))) as_nil))) (bC (g_comp C (own := [("coming", 9)]) (e_var 5 (C.var 5)) (by decide +kernel) (tgN 9) (tgwN (by decide)) (blkI C rfl fun _ Y16 => (Y16.pgL 9)) (blkI C rfl fun _ Y16 => ts_nil) (blkI C rfl fun _ Y16 => (e_op Y16.addR oAdd_ok (eB (e_ix Y16.eK (b_var 9 (Y16.var 9)) (bC e_int) (fun _ _ => rfl))) (bC e_int))))))))) (ss_one (s_ret (pu := false) (g_compR1 C B (own := [("at", 6)]) (bC (b_var 8 (C.var 8))) (by decide +kernel) (tgN 6) (tgwN (by decide)) (blkF C rfl fun _ hfY17 Y17 => (Y17.pgK hfY17 6)) (blkF C rfl fun _ hfY17 Y17 => ts_nil) (blkF C rfl fun _ hfY17 Y17 => (g_comp Y17 (own := [("coming", 9)]) (e_var 5 (Y17.var 5)) (by decide +kernel) (tgN 9) (tgwN (by decide)) (blkI Y17 rfl fun _ Y18 => (Y18.pgL 9)) (blkI Y17 rfl fun _ Y18 => (ts_one (t_cmp Y18.eqR oEq_ok (eB (e_ix Y18.eK (b_var 9 (Y18.var 9)) (bC e_int) (fun _ _ => rfl))) (bC (b_var 6 (Y18.var 6))) (nomark _)))) (blkI Y17 rfl fun _ Y18 => (e_ix Y18.eK (b_var 9 (Y18.var 9)) (bC e_int) (fun _ _ => rfl)))))))))))))))))
def CB : Nat → ME
  | 0 => (mCall F_late_course (aCons (mVarE 0) (aCons (mVarE 1) (aCons (mVarE 2) aNil))))
  | 1 => (mCall F_late_course (aCons (mBin oItem (mVar 0) (mK (.int 0))) (aCons (mBin oItem (mVar 0) (mK (.int 1))) (aCons (mBin oItem (mVar 0) (mK (.int 2))) aNil))))
  | _ => fun _ _ => .bad
theorem l_0 {c : Cg} {P : Program} {w : World} {base : Heap} {k : Nat} {X : Cx} {W : WX} (C : Cc c P w base J_0.caps J_0.scope k X W) (B : NoG c BL) (G_late_course : Gd c P w base k "late_course" 3 F_late_course) : PE X J_0.body (tV false .E c W (CB 0)) :=
  (g_call C G_late_course (as_cons (e_var 0 (C.var 0)) (as_cons (e_var 1 (C.var 1)) (as_cons (e_var 2 (C.var 2)) as_nil))) (argN_cons (argN_cons (argN_cons argN_nil))))
theorem l_1 {c : Cg} {P : Program} {w : World} {base : Heap} {k : Nat} {X : Cx} {W : WX} (C : Cc c P w base J_1.caps J_1.scope k X W) (B : NoG c BL) (G_late_course : Gd c P w base k "late_course" 3 F_late_course) : PE X J_1.body (tV false .E c W (CB 1)) :=
  (g_call C G_late_course (as_cons (e_ix C.eK (b_var 0 (C.var 0)) (bC e_int) (fun _ _ => rfl)) (as_cons (e_ix C.eK (b_var 0 (C.var 0)) (bC e_int) (fun _ _ => rfl)) (as_cons (e_ix C.eK (b_var 0 (C.var 0)) (bC e_int) (fun _ _ => rfl)) as_nil))) (argN_cons (argN_cons (argN_cons argN_nil))))
def B__law_draw : MS := (sSeq (sIf (mTst (mBin cGt (mBin oItem (mVar 0) (mK (.int 0))) (mK (.int 0)))) (sSeq (sSet 2 (mBin oMod (mUn fInt (mBin itemU (mVar 0) (mK (.int 0)))) (mVar 1))) (sSeq (sISet (pVar 0) (mK (.int 0)) (mBin oFdiv (mBin oItem (mVar 0) (mK (.int 0))) (mVar 1))) (sMove 2))) sPass) (sSeq (sIAug true (pVar 0) (mK (.int 2)) (fun i j => i + j) (mK (.int 1))) (sSeq (sISet (pVar 0) (mK (.int 1)) (mBin oMod (mUn fInt (mBin oAdd (mBin oMul (mBin oItem (mVar 0) (mK (.int 1))) (mK (.int 48271))) (mBin oMul (mBin oItem (mVar 0) (mK (.int 2))) (mK (.int 69621))))) (mK (.int 2147483647)))) (sRet (mBin oMod (mBin oFdiv (mBin oMod (mUn fInt (mBin oAdd (mBin oMul (mBin oItem (mVar 0) (mK (.int 1))) (mK (.int 16807))) (mBin oMul (mBin oItem (mVar 0) (mK (.int 2))) (mK (.int 7919))))) (mK (.int 2147483629))) (mK (.int 8))) (mVar 1))))))
def F__law_draw : MF := fnM 3 B__law_draw
theorem d__law_draw {c : Cg} {P : Program} {w : World} {base : Heap} {k : Nat} {X : Cx} {W : WX} (C : Cc c P w base N__law_draw (defScope st__law_draw) (k + 1) X W) (Fn : ∀ y, X.fn y = true) (St : X.stack = X.env :: X.outer) (Fr : X.env.frame = some X.env.locals) (B : NoG c BL) : PSs X (defBody st__law_draw) (tS c W B__law_draw) :=
  (ss_cons (s_if (pu := false) (t_cmp op_gt oLt_ok (eB (e_ix C.eK (b_var 0 (C.var 0)) (bC e_int) (fun _ _ => rfl))) (bC e_int) (nomark _)) (ss_cons (g_set (pu := false) C Fn 2 (e_op op_mod oMod_ok (eB (g_int C B (c_ix C.eK (b_var 0 (C.var 0)) (bC e_int) (fun _ _ => rfl)))) (bC (b_var 1 (C.var 1))))) (ss_cons (s_iset (pu := false) (p_var 0 (C.var 0)) (bC e_int) (stil_K _) (e_op op_fdiv oFdiv_ok (eB (e_ix C.eK (b_var 0 (C.var 0)) (bC e_int) (fun _ _ => rfl))) (bC (b_var 1 (C.var 1))))) (ss_one (s_move 2 (C.var 2))))) ss_nil) (ss_cons (s_iaug (pu := false) C.eK (f := true) (.inl rfl) ip_add (p_var 0 (C.var 0)) (bC e_int) (stil_K _) e_int) (ss_cons (s_iset (pu := false) (p_var 0 (C.var 0)) (bC e_int) (stil_K _) (e_op op_mod oMod_ok (eB (g_int C B (bC (e_op C.addR oAdd_ok (eB (e_op C.mulR oMul_ok (eB (e_ix C.eK (b_var 0 (C.var 0)) (bC e_int) (fun _ _ => rfl))) (bC e_int))) (bC (e_op C.mulR oMul_ok (eB (e_ix C.eK (b_var 0 (C.var 0)) (bC e_int) (fun _ _ => rfl))) (bC e_int))))))) (bC e_int))) (ss_one (s_ret (pu := false) (e_op op_mod oMod_ok (eB (e_op op_fdiv oFdiv_ok (eB (e_op op_mod oMod_ok (eB (g_int C B (bC (e_op C.addR oAdd_ok (eB (e_op C.mulR oMul_ok (eB (e_ix C.eK (b_var 0 (C.var 0)) (bC e_int) (fun _ _ => rfl))) (bC e_int))) (bC (e_op C.mulR oMul_ok (eB (e_ix C.eK (b_var 0 (C.var 0)) (bC e_int) (fun _ _ => rfl))) (bC e_int))))))) (bC e_int))) (bC e_int))) (bC (b_var 1 (C.var 1)))))))))
def B__law_matches (F : MF) : MS := (sSeq (sIf (mOr (mTst (mBin oIs (mVar 1) (mK .non))) (mTst (mBin oIs (mVar 0) (mK .non)))) (sRet (mAndV (mBin oIs (mVar 1) (mK .non)) (mBin oIs (mVar 0) (mK .non)))) sPass) (sSeq (sIf (mOr (mTru (mBin (fIsX exT) (mVar 1) (mK (.ty "bool")))) (mTru (mBin (fIsX exT) (mVar 0) (mK (.ty "bool"))))) (sRet (mAndV (mBin (fIsX exT) (mVar 1) (mK (.ty "bool"))) (mAndV (mBin (fIsX exT) (mVar 0) (mK (.ty "bool"))) (mBin (oEq false) (mVar 0) (mVar 1))))) sPass) (sSeq (sIf (mTru (mBin (fIsX exT) (mVar 1) (mK (.ty "int")))) (sRet (mAndV (mBin (fIsX exT) (mVar 0) (mK (.ty "int"))) (mBin (oEq false) (mVar 0) (mVar 1)))) sPass) (sSeq (sIf (mTru (mBin (fIsX exT) (mVar 1) (mK (.ty "str")))) (sRet (mAndV (mBin (fIsX exT) (mVar 0) (mK (.ty "str"))) (mBin (oEq false) (mVar 0) (mVar 1)))) sPass) (sSeq (sIf (mTru (mBin (fIsX exT) (mVar 1) (mK (.ty "dict")))) (sSeq (sIf (mOr (mNot (mTru (mBin (fIsX exT) (mVar 0) (mK (.ty "dict"))))) (mTst (mBin (oEq true) (mUn fLen (mVar 0)) (mUn fLen (mVar 1))))) (sRet (mK (.bl false))) sPass) (sSeq (sFor (mFz (mUn fList (mVar 1))) (tdN 2) (sIf (mOr (mTst (mBin (oIn true) (mVar 2) (mVar 0))) (mNot (mTru (mCall F (aCons (mBin oItem (mVar 0) (mVar 2)) (aCons (mBin oItem (mVar 1) (mVar 2)) aNil)))))) (sRet (mK (.bl false))) sPass)) (sRet (mK (.bl true))))) sPass) (sSeq (sIf (mAnd (mTru (mBin (fIsX exT) (mVar 1) (mK (.ty "tuple")))) (mNot (mTru (mBin (fIsX exT) (mVar 0) (mK (.ty "tuple")))))) (sRet (mK (.bl false))) sPass) (sSeq (sIf (mAnd (mTru (mBin (fIsX exT) (mVar 1) (mK (.ty "list")))) (mNot (mTru (mBin (fIsX exT) (mVar 0) (mK (.ty "list")))))) (sRet (mK (.bl false))) sPass) (sSeq (sIf (mTst (mBin (oEq true) (mUn fLen (mVar 0)) (mUn fLen (mVar 1)))) (sRet (mK (.bl false))) sPass) (sSeq (sForR (mK (.int 0)) (mUn fLen (mVar 1)) (tdN 3) (sIf (mNot (mTru (mCall F (aCons (mBin oItem (mVar 0) (mVar 3)) (aCons (mBin oItem (mVar 1) (mVar 3)) aNil))))) (sRet (mK (.bl false))) sPass)) (sRet (mK (.bl true))))))))))))
def F__law_matches_f : Nat → MF
  | 0 => fun _ _ => .bad
  | j + 1 => fnM 4 (B__law_matches (F__law_matches_f j))
def F__law_matches : MF := F__law_matches_f 6
theorem d__law_matches {c : Cg} {P : Program} {w : World} {base : Heap} {k : Nat} {X : Cx} {W : WX} (C : Cc c P w base N__law_matches (defScope st__law_matches) (k + 1) X W) (Fn : ∀ y, X.fn y = true) (St : X.stack = X.env :: X.outer) (Fr : X.env.frame = some X.env.locals) {F : MF} (B : NoG c BL) (hT : ExOk c.K c.mg exT) (G__law_matches : Gd c P w base (k + 1) "_law_matches" 2 F) : PSs X (defBody st__law_matches) (tS c W (B__law_matches F)) :=
  (ss_cons (s_if (pu := false) (PW.pt (w_or (t_cmp op_isN oIs_ok (b_var 1 (C.var 1)) (bC e_non) (nomark _)) (w_or1 (t_cmp op_isN oIs_ok (b_var 0 (C.var 0)) (bC e_non) (nomark _))))) (ss_one (s_ret (pu := false) (e_and C.eK (e_cmp op_isN oIs_ok (b_var 1 (C.var 1)) (bC e_non) (nomark _)) (e_one (e_cmp op_isN oIs_ok (b_var 0 (C.var 0)) (bC e_non) (nomark _)))))) ss_nil) (ss_cons (s_if (pu := false) (PW.pt (w_or (t_tru C.eK (bC (g_isi C B hT (b_var 1 (C.var 1)) (bC (g_ty C B (n := "bool") (by kernel_rfl))))) (by intro _; rfl)) (w_or1 (t_tru C.eK (bC (g_isi C B hT (b_var 0 (C.var 0)) (bC (g_ty C B (n := "bool") (by kernel_rfl))))) (by intro _; rfl))))) (ss_one (s_ret (pu := false) (e_and C.eK (g_isi C B hT (b_var 1 (C.var 1)) (bC (g_ty C B (n := "bool") (by kernel_rfl)))) (e_and C.eK (g_isi C B hT (b_var 0 (C.var 0)) (bC (g_ty C B (n := "bool") (by kernel_rfl)))) (e_one (e_cmp C.eqR oEq_ok (b_var 0 (C.var 0)) (bC (b_var 1 (C.var 1))) (nomark _))))))) ss_nil) (ss_cons (s_if (pu := false) (t_tru C.eK (bC (g_isi C B hT (b_var 1 (C.var 1)) (bC (g_ty C B (n := "int") (by kernel_rfl))))) (by intro _; rfl)) (ss_one (s_ret (pu := false) (e_and C.eK (g_isi C B hT (b_var 0 (C.var 0)) (bC (g_ty C B (n := "int") (by kernel_rfl)))) (e_one (e_cmp C.eqR oEq_ok (b_var 0 (C.var 0)) (bC (b_var 1 (C.var 1))) (nomark _)))))) ss_nil) (ss_cons (s_if (pu := false) (t_tru C.eK (bC (g_isi C B hT (b_var 1 (C.var 1)) (bC (g_ty C B (n := "str") (by kernel_rfl))))) (by intro _; rfl)) (ss_one (s_ret (pu := false) (e_and C.eK (g_isi C B hT (b_var 0 (C.var 0)) (bC (g_ty C B (n := "str") (by kernel_rfl)))) (e_one (e_cmp C.eqR oEq_ok (b_var 0 (C.var 0)) (bC (b_var 1 (C.var 1))) (nomark _)))))) ss_nil) (ss_cons (s_if (pu := false) (t_tru C.eK (bC (g_isi C B hT (b_var 1 (C.var 1)) (bC (g_ty C B (n := "dict") (by kernel_rfl))))) (by intro _; rfl)) (ss_cons (s_if (pu := false) (PW.pt (w_or (t_not (t_tru C.eK (bC (g_isi C B hT (b_var 0 (C.var 0)) (bC (g_ty C B (n := "dict") (by kernel_rfl))))) (by intro _; rfl))) (w_or1 (t_cmp C.neR oNe_ok (eB (g_len C B (bC (b_var 0 (C.var 0))))) (bC (g_len C B (bC (b_var 1 (C.var 1))))) (nomark _))))) (ss_one (s_ret (pu := false) e_bl)) ss_nil) (ss_cons (g_for (pu := false) C (eFz (g_list C B (bC (b_var 1 (C.var 1))))) (C.pgN Fn 2) (tgN 2) (ss_one (s_if (pu := false) (PW.pt (w_or (t_cmp C.niR oIn_ok (b_var 2 (C.var 2)) (bC (b_var 0 (C.var 0))) (by with_unfolding_all rfl)) (w_or1 (t_not (t_tru C.eK (bC (g_call C G__law_matches (as_cons (e_ix C.eK (b_var 0 (C.var 0)) (bC (b_var 2 (C.var 2))) (fun _ _ => rfl)) (as_cons (e_ix C.eK (b_var 1 (C.var 1)) (bC (b_var 2 (C.var 2))) (fun _ _ => rfl)) as_nil)) (argN_cons (argN_cons argN_nil)))) (by intro _; rfl)))))) (ss_one (s_ret (pu := false) e_bl)) ss_nil))) (ss_one (s_ret (pu := false) e_bl)))) ss_nil) (ss_cons (s_if (pu := false) (PW.pt (w_and (t_tru C.eK (bC (g_isi C B hT (b_var 1 (C.var 1)) (bC (g_ty C B (n := "tuple") (by kernel_rfl))))) (by intro _; rfl)) (w_and1 (t_not (t_tru C.eK (bC (g_isi C B hT (b_var 0 (C.var 0)) (bC (g_ty C B (n := "tuple") (by kernel_rfl))))) (by intro _; rfl)))))) (ss_one (s_ret (pu := false) e_bl)) ss_nil) (ss_cons (s_if (pu := false) (PW.pt (w_and (t_tru C.eK (bC (g_isi C B hT (b_var 1 (C.var 1)) (bC (g_ty C B (n := "list") (by kernel_rfl))))) (by intro _; rfl)) (w_and1 (t_not (t_tru C.eK (bC (g_isi C B hT (b_var 0 (C.var 0)) (bC (g_ty C B (n := "list") (by kernel_rfl))))) (by intro _; rfl)))))) (ss_one (s_ret (pu := false) e_bl)) ss_nil) (ss_cons (s_if (pu := false) (t_cmp C.neR oNe_ok (eB (g_len C B (bC (b_var 0 (C.var 0))))) (bC (g_len C B (bC (b_var 1 (C.var 1))))) (nomark _)) (ss_one (s_ret (pu := false) e_bl)) ss_nil) (ss_cons (g_forR1 (pu := false) C B (bC (g_len C B (bC (b_var 1 (C.var 1))))) (C.pgN Fn 3) (tgN 3) (ss_one (s_if (pu := false) (t_not (t_tru C.eK (bC (g_call C G__law_matches (as_cons (e_ix C.eK (b_var 0 (C.var 0)) (bC (b_var 3 (C.var 3))) (fun _ _ => rfl)) (as_cons (e_ix C.eK (b_var 1 (C.var 1)) (bC (b_var 3 (C.var 3))) (fun _ _ => rfl)) as_nil)) (argN_cons (argN_cons argN_nil)))) (by intro _; rfl))) (ss_one (s_ret (pu := false) e_bl)) ss_nil))) (ss_one (s_ret (pu := false) e_bl)))))))))))
def B__law_asked : MS := (sSeq (sTry (sSet 1 (mClo CB 0)) [(fun z => exT.sg z "LiftedError", some 2, (sSeq (sSet 3 (mFz (mLst (aCons (mBin (fIsX exT) (mVar 2) (mK (.glo "TooMany"))) (aCons (mBin (fIsX exT) (mVar 2) (mK (.glo "BadCourse"))) (aCons (mBin (fIsX exT) (mVar 2) (mK (.glo "BadKitchen"))) aNil)))))) (sSeq (sIf (mNot (mTru (mBin (fIsX exT) (mVar 2) (mK (.ty "ValueError"))))) (sRet (mTup (aCons (mK (.str "stray")) aNil))) sPass) (sSeq (sIf (mTst (mBin (oEq false) (mVar 3) (mLst (aCons (mK (.bl true)) (aCons (mK (.bl false)) (aCons (mK (.bl false)) aNil)))))) (sRet (mTup (aCons (mK (.str "TooMany")) (aCons (mXf exT "what" (mVar 2)) aNil)))) sPass) (sSeq (sIf (mTst (mBin (oEq false) (mVar 3) (mLst (aCons (mK (.bl false)) (aCons (mK (.bl true)) (aCons (mK (.bl false)) aNil)))))) (sRet (mTup (aCons (mK (.str "BadCourse")) (aCons (mXf exT "what" (mVar 2)) aNil)))) sPass) (sSeq (sIf (mTst (mBin (oEq false) (mVar 3) (mLst (aCons (mK (.bl false)) (aCons (mK (.bl false)) (aCons (mK (.bl true)) aNil)))))) (sRet (mTup (aCons (mK (.str "BadKitchen")) (aCons (mXf exT "what" (mVar 2)) (aCons (mXf exT "station" (mVar 2)) aNil))))) sPass) (sRet (mTup (aCons (mK (.str "stray")) aNil)))))))))]) (sRet (mTup (aCons (mK (.str "value")) (aCons (mVarE 1) aNil)))))
def F__law_asked : MF := fnM 4 B__law_asked
theorem d__law_asked {c : Cg} {P : Program} {w : World} {base : Heap} {k : Nat} {X : Cx} {W : WX} (C : Cc c P w base N__law_asked (defScope st__law_asked) (k + 1) X W) (Fn : ∀ y, X.fn y = true) (St : X.stack = X.env :: X.outer) (Fr : X.env.frame = some X.env.locals) (B : NoG c BL) (hT : ExOk c.K c.mg exT) {a_BadCourse : Addr} (m_BadCourse : c.mg "BadCourse" = some (.ref a_BadCourse)) {a_BadKitchen : Addr} (m_BadKitchen : c.mg "BadKitchen" = some (.ref a_BadKitchen)) {a_LiftedError : Addr} (m_LiftedError : c.mg "LiftedError" = some (.ref a_LiftedError)) {a_TooMany : Addr} (m_TooMany : c.mg "TooMany" = some (.ref a_TooMany)) (O : CloOk c P w base CB k) : PSs X (defBody st__law_asked) (tS c W B__law_asked) :=
  (ss_cons (s_try (cl := [(fun z => exT.sg z "LiftedError", some 2, (sSeq (sSet 3 (mFz (mLst (aCons (mBin (fIsX exT) (mVar 2) (mK (.glo "TooMany"))) (aCons (mBin (fIsX exT) (mVar 2) (mK (.glo "BadCourse"))) (aCons (mBin (fIsX exT) (mVar 2) (mK (.glo "BadKitchen"))) aNil)))))) (sSeq (sIf (mNot (mTru (mBin (fIsX exT) (mVar 2) (mK (.ty "ValueError"))))) (sRet (mTup (aCons (mK (.str "stray")) aNil))) sPass) (sSeq (sIf (mTst (mBin (oEq false) (mVar 3) (mLst (aCons (mK (.bl true)) (aCons (mK (.bl false)) (aCons (mK (.bl false)) aNil)))))) (sRet (mTup (aCons (mK (.str "TooMany")) (aCons (mXf exT "what" (mVar 2)) aNil)))) sPass) (sSeq (sIf (mTst (mBin (oEq false) (mVar 3) (mLst (aCons (mK (.bl false)) (aCons (mK (.bl true)) (aCons (mK (.bl false)) aNil)))))) (sRet (mTup (aCons (mK (.str "BadCourse")) (aCons (mXf exT "what" (mVar 2)) aNil)))) sPass) (sSeq (sIf (mTst (mBin (oEq false) (mVar 3) (mLst (aCons (mK (.bl false)) (aCons (mK (.bl false)) (aCons (mK (.bl true)) aNil)))))) (sRet (mTup (aCons (mK (.str "BadKitchen")) (aCons (mXf exT "what" (mVar 2)) (aCons (mXf exT "station" (mVar 2)) aNil))))) sPass) (sRet (mTup (aCons (mK (.str "stray")) aNil)))))))))]) St Fr C.tk (fun W2 pn xe tk po => by have C19 := C.tr tk po; exact (ss_one (g_set (pu := false) C19 Fn 1 (e_clo C19 O 0 (C19.var 0))))) (.named ⟨C.gl rfl, by decide, .inl (C.mgo m_LiftedError)⟩ C.nd (C.ni (i := 2) rfl) (by show X.env.scope.names.lookup _ = _; rw [C.esc]; rfl) (fun a pn => by have Q20 := C.su a pn; exact (ss_cons (q_set (pu := false) Q20 C.nd Fn 3 (eFz (e_lst (as_cons (q_isi Q20 B hT (b_var 2 (Q20.var 2)) (bC (q_glo Q20 m_TooMany))) (as_cons (q_isi Q20 B hT (b_var 2 (Q20.var 2)) (bC (q_glo Q20 m_BadCourse))) (as_cons (q_isi Q20 B hT (b_var 2 (Q20.var 2)) (bC (q_glo Q20 m_BadKitchen))) as_nil)))))) (ss_cons (s_if (pu := false) (t_not (t_tru Q20.eK (bC (q_isi Q20 B hT (b_var 2 (Q20.var 2)) (bC (q_ty Q20 B (n := "ValueError") (by kernel_rfl))))) (by intro _; rfl))) (ss_one (s_ret (pu := false) (e_tup (as_cons e_str as_nil)))) ss_nil) (ss_cons (s_if (pu := false) (t_cmp Q20.eqR oEq_ok (b_var 3 (Q20.var 3)) (bC (e_lst (as_cons e_bl (as_cons e_bl (as_cons e_bl as_nil))))) (nomark _)) (ss_one (s_ret (pu := false) (e_tup (as_cons e_str (as_cons (q_xf Q20 hT (bC (b_var 2 (Q20.var 2)))) as_nil))))) ss_nil) (ss_cons (s_if (pu := false) (t_cmp Q20.eqR oEq_ok (b_var 3 (Q20.var 3)) (bC (e_lst (as_cons e_bl (as_cons e_bl (as_cons e_bl as_nil))))) (nomark _)) (ss_one (s_ret (pu := false) (e_tup (as_cons e_str (as_cons (q_xf Q20 hT (bC (b_var 2 (Q20.var 2)))) as_nil))))) ss_nil) (ss_cons (s_if (pu := false) (t_cmp Q20.eqR oEq_ok (b_var 3 (Q20.var 3)) (bC (e_lst (as_cons e_bl (as_cons e_bl (as_cons e_bl as_nil))))) (nomark _)) (ss_one (s_ret (pu := false) (e_tup (as_cons e_str (as_cons (q_xf Q20 hT (bC (b_var 2 (Q20.var 2)))) (as_cons (q_xf Q20 hT (bC (b_var 2 (Q20.var 2)))) as_nil)))))) ss_nil) (ss_one (s_ret (pu := false) (e_tup (as_cons e_str as_nil)))))))))) Cls.nil) (.cons (W' := W0) (fun Ca A b h1 h2 => by have := (hT.g Ca A "LiftedError" _ b h1 m_LiftedError h2).1; rw [C.eK] at this; exact this) ClM.nil)) (ss_one (s_ret (pu := false) (e_tup (as_cons e_str (as_cons (e_var 1 (C.var 1)) as_nil))))))
def B__law_bounds : MS := (sSeq (sSet 1 (mBin oAdd (mK (.int 1)) (mCall F__law_draw (aCons (mVarE 0) (aCons (mK (.int 400)) aNil))))) (sSeq (sSet 2 (mFz (mBin oAdd (mBin oAdd (mBin oMul (mLst (aCons (mFz (mLst aNil)) aNil)) (mBin oSub (mVar 1) (mK (.int 1)))) (mLst (aCons (mFz (mBin oMul (mLst (aCons (mK (.int 0)) aNil)) (mK (.int 600)))) aNil))) (mBin oMul (mLst (aCons (mFz (mLst aNil)) aNil)) (mBin oSub (mK (.int 400)) (mVar 1)))))) (sSeq (sSet 3 (mCall F__law_draw (aCons (mVarE 0) (aCons (mK (.int 13)) aNil)))) (sSeq (sSet 4 (mFz (mBin oAdd (mBin oAdd (mBin oMul (mLst (aCons (mFz (mLst aNil)) aNil)) (mBin oSub (mBin oAdd (mVar 1) (mVar 3)) (mK (.int 1)))) (mLst (aCons (mFz (mBin oMul (mLst (aCons (mK (.int 0)) aNil)) (mK (.int 600)))) aNil))) (mBin oMul (mLst (aCons (mFz (mLst aNil)) aNil)) (mBin fMax2 (mK (.int 0)) (mBin oSub (mBin oSub (mK (.int 400)) (mVar 1)) (mVar 3))))))) (sSeq (sIf (mNot (mTru (mCall F__law_matches (aCons (mFz (mCall F_late_course (aCons (mVarE 2) (aCons (mFz (mBin oMul (mLst (aCons (mVarE 3) aNil)) (mK (.int 600)))) (aCons (mVarE 3) aNil))))) (aCons (mVarE 4) aNil))))) (sRet (mK (.bl false))) sPass) (sSeq (sSet 5 (mFz (mLst (aCons (mTup (aCons (mFz (mBin oAdd (mVar 2) (mLst (aCons (mFz (mLst aNil)) aNil)))) (aCons (mFz (mBin oMul (mLst (aCons (mVarE 3) aNil)) (mK (.int 600)))) (aCons (mK (.int 13)) (aCons (mK (.str "beats")) aNil))))) (aCons (mTup (aCons (mFz (mBin oAdd (mVar 2) (mLst (aCons (mFz (mLst (aCons (mK (.int 1)) aNil))) aNil)))) (aCons (mFz (mLst aNil)) (aCons (mVarE 3) (aCons (mK (.str "beats")) aNil))))) aNil))))) (sSeq (sSet 5 (mFz (mBin oAdd (mVar 5) (mLst (aCons (mTup (aCons (mFz (mBin oAdd (mSlice (mVar 2) oNo (oYes (mUn oNeg (mK (.int 1))))) (mLst (aCons (mFz (mBin oAdd (mBin oItem (mVar 2) (mUn oNeg (mK (.int 1)))) (mLst (aCons (mK (.int 0)) aNil)))) aNil)))) (aCons (mFz (mBin oMul (mLst (aCons (mVarE 3) aNil)) (mK (.int 601)))) (aCons (mK (.int 13)) (aCons (mK (.str "guests")) aNil))))) (aCons (mTup (aCons (mVarE 2) (aCons (mFz (mLst (aCons (mUn oNeg (mK (.int 1))) aNil))) (aCons (mK (.int 13)) (aCons (mK (.str "late")) aNil))))) aNil)))))) (sSeq (sFor (mVarE 5) (tdN 6) (sIf (mNot (mTru (mCall F__law_matches (aCons (mFz (mCallL F__law_asked (lLam 1 [6] 1 P__law_bounds q__law_bounds lNil))) (aCons (mTup (aCons (mK (.str "TooMany")) (aCons (mBin oItem (mVar 6) (mK (.int 3))) aNil))) aNil))))) (sRet (mK (.bl false))) sPass)) (sRet (mK (.bl true)))))))))))
def F__law_bounds : MF := fnM 7 B__law_bounds
theorem d__law_bounds {c : Cg} {P : Program} {w : World} {base : Heap} {k : Nat} {X : Cx} {W : WX} (C : Cc c P w base N__law_bounds (defScope st__law_bounds) (k + 1) X W) (Fn : ∀ y, X.fn y = true) (St : X.stack = X.env :: X.outer) (Fr : X.env.frame = some X.env.locals) (B : NoG c BL) (G__law_draw : Gd c P w base (k + 1) "_law_draw" 2 F__law_draw) (G__law_matches : Gd c P w base (k + 1) "_law_matches" 2 F__law_matches) (G_late_course : Gd c P w base (k + 1) "late_course" 3 F_late_course) (G__law_asked : Gd c P w base (k + 1) "_law_asked" 1 F__law_asked) (hci : c.ci = ciT) {cP : Addr} (M : Lm X cP P__law_bounds q__law_bounds) : PSs X (defBody st__law_bounds) (tS c W B__law_bounds) :=
  (ss_cons (g_set (pu := false) C Fn 1 (e_op C.addR oAdd_ok (eB e_int) (bC (g_call C G__law_draw (as_cons (e_var 0 (C.var 0)) (as_cons e_int as_nil)) (argN_cons (argN_cons argN_nil)))))) (ss_cons (g_set (pu := false) C Fn 2 (eFz (e_op C.addR oAdd_ok (eB (e_op C.addR oAdd_ok (eB (e_op C.mulR oMul_ok (eB (e_lst (as_cons (eFz (e_lst as_nil)) as_nil))) (bC (e_op op_sub oSub_ok (b_var 1 (C.var 1)) (bC e_int))))) (bC (e_lst (as_cons (eFz (e_op C.mulR oMul_ok (eB (e_lst (as_cons e_int as_nil))) (bC e_int))) as_nil))))) (bC (e_op C.mulR oMul_ok (eB (e_lst (as_cons (eFz (e_lst as_nil)) as_nil))) (bC (e_op op_sub oSub_ok (eB e_int) (bC (b_var 1 (C.var 1)))))))))) (ss_cons (g_set (pu := false) C Fn 3 (g_call C G__law_draw (as_cons (e_var 0 (C.var 0)) (as_cons e_int as_nil)) (argN_cons (argN_cons argN_nil)))) (ss_cons (g_set (pu := false) C Fn 4 (eFz (e_op C.addR oAdd_ok (eB (e_op C.addR oAdd_ok (eB (e_op C.mulR oMul_ok (eB (e_lst (as_cons (eFz (e_lst as_nil)) as_nil))) (bC (e_op op_sub oSub_ok (eB (e_op C.addR oAdd_ok (b_var 1 (C.var 1)) (bC (b_var 3 (C.var 3))))) (bC e_int))))) (bC (e_lst (as_cons (eFz (e_op C.mulR oMul_ok (eB (e_lst (as_cons e_int as_nil))) (bC e_int))) as_nil))))) (bC (e_op C.mulR oMul_ok (eB (e_lst (as_cons (eFz (e_lst as_nil)) as_nil))) (bC (g_max2 C B (eB e_int) (bC (e_op op_sub oSub_ok (eB (e_op op_sub oSub_ok (eB e_int) (bC (b_var 1 (C.var 1))))) (bC (b_var 3 (C.var 3)))))))))))) (ss_cons (s_if (pu := false) (t_not (t_tru C.eK (bC (g_call C G__law_matches (as_cons (eFz (g_call C G_late_course (as_cons (e_var 2 (C.var 2)) (as_cons (eFz (e_op C.mulR oMul_ok (eB (e_lst (as_cons (e_var 3 (C.var 3)) as_nil))) (bC e_int))) (as_cons (e_var 3 (C.var 3)) as_nil))) (argN_cons (argN_cons (argN_cons argN_nil))))) (as_cons (e_var 4 (C.var 4)) as_nil)) (argN_cons (argN_cons argN_nil)))) (by intro _; rfl))) (ss_one (s_ret (pu := false) e_bl)) ss_nil) (ss_cons (g_set (pu := false) C Fn 5 (eFz (e_lst (as_cons (e_tup (as_cons (eFz (e_op C.addR oAdd_ok (b_var 2 (C.var 2)) (bC (e_lst (as_cons (eFz (e_lst as_nil)) as_nil))))) (as_cons (eFz (e_op C.mulR oMul_ok (eB (e_lst (as_cons (e_var 3 (C.var 3)) as_nil))) (bC e_int))) (as_cons e_int (as_cons e_str as_nil))))) (as_cons (e_tup (as_cons (eFz (e_op C.addR oAdd_ok (b_var 2 (C.var 2)) (bC (e_lst (as_cons (eFz (e_lst (as_cons e_int as_nil))) as_nil))))) (as_cons (eFz (e_lst as_nil)) (as_cons (e_var 3 (C.var 3)) (as_cons e_str as_nil))))) as_nil))))) (ss_cons (g_set (pu := false) C Fn 5 (eFz (e_op C.addR oAdd_ok (b_var 5 (C.var 5)) (bC (e_lst (as_cons (e_tup (as_cons (eFz (e_op C.addR oAdd_ok (eB (e_slice C.eK (b_var 2 (C.var 2)) o_no (o_yes (bC (e_un un_neg oNeg_ok (bC e_int)))))) (bC (e_lst (as_cons (eFz (e_op C.addR oAdd_ok (eB (e_ix C.eK (b_var 2 (C.var 2)) (bC (e_un un_neg oNeg_ok (bC e_int))) (fun _ _ => rfl))) (bC (e_lst (as_cons e_int as_nil))))) as_nil))))) (as_cons (eFz (e_op C.mulR oMul_ok (eB (e_lst (as_cons (e_var 3 (C.var 3)) as_nil))) (bC e_int))) (as_cons e_int (as_cons e_str as_nil))))) (as_cons (e_tup (as_cons (e_var 2 (C.var 2)) (as_cons (eFz (e_lst (as_cons (e_un un_neg oNeg_ok (bC e_int)) as_nil))) (as_cons e_int (as_cons e_str as_nil))))) as_nil))))))) (ss_cons (g_for (pu := false) C (e_var 5 (C.var 5)) (C.pgN Fn 6) (tgN 6) (ss_one (s_if (pu := false) (t_not (t_tru C.eK (bC (g_call C G__law_matches (as_cons (eFz (g_callL C M G__law_asked (la_lam (i := 1) (k := 1) (js := [6]) (J := J_1) M (hciOf hci (i := 1) rfl) rfl C.esc LA_1 (by intro _; rfl) la_nil) (ln_lam (hciOf hci (i := 1) rfl) LA_1 ln_nil))) (as_cons (e_tup (as_cons e_str (as_cons (e_ix C.eK (b_var 6 (C.var 6)) (bC e_int) (fun _ _ => rfl)) as_nil))) as_nil)) (argN_cons (argN_cons argN_nil)))) (by intro _; rfl))) (ss_one (s_ret (pu := false) e_bl)) ss_nil))) (ss_one (s_ret (pu := false) e_bl))))))))))
def B__law_stock : MS := (sSeq (sSet 2 (mIf (mTst (mBin cLt (mVar 1) (mUn fLen (mVar 0)))) (mUn fInt (mBin itemU (mVar 0) (mVar 1))) (mBin oMul (mK (.int 31)) (mUn fSum (mComp (mFz (mSlice (mVar 0) oNo (oYes (mK (.int 4))))) (tdN 3) [3] mYes (mBin oMod (mUn fInt (mVar 3)) (mK (.int 1000003)))))))) (sSeq (sSet 4 (mBin oAdd (mBin oMul (mK (.int 2)) (mUn fAbs (mVar 2))) (mIf (mTst (mBin cLt (mVar 2) (mK (.int 0)))) (mK (.int 1)) (mK (.int 0))))) (sRet (mLst (aCons (mIf (mTst (mBin cGe (mVar 4) (mBin oPow (mK (.int 10)) (mK (.int 18))))) (mVarE 4) (mK (.int 0))) (aCons (mBin oMod (mUn fInt (mBin oAdd (mBin oAdd (mVar 4) (mBin oMul (mVar 1) (mK (.int 104729)))) (mK (.int 12345)))) (mK (.int 2147483629))) (aCons (mVarE 1) aNil)))))))
def F__law_stock : MF := fnM 5 B__law_stock
theorem d__law_stock {c : Cg} {P : Program} {w : World} {base : Heap} {k : Nat} {X : Cx} {W : WX} (C : Cc c P w base N__law_stock (defScope st__law_stock) (k + 1) X W) (Fn : ∀ y, X.fn y = true) (St : X.stack = X.env :: X.outer) (Fr : X.env.frame = some X.env.locals) (B : NoG c BL) : PSs X (defBody st__law_stock) (tS c W B__law_stock) :=
  (ss_cons (g_set (pu := false) C Fn 2 (e_if (t_cmp op_lt oLt_ok (b_var 1 (C.var 1)) (bC (g_len C B (bC (b_var 0 (C.var 0))))) (nomark _)) (g_int C B (c_ix C.eK (b_var 0 (C.var 0)) (bC (b_var 1 (C.var 1))) (fun _ _ => rfl))) (e_op C.mulR oMul_ok (eB e_int) (bC (g_sum C B (bC (g_comp C (own := [("one", 3)]) (eFz (e_slice C.eK (b_var 0 (C.var 0)) o_no (o_yes (bC e_int)))) (by decide +kernel) (tgN 3) (tgwN (by decide)) (blkI C rfl fun _ Y21 => (Y21.pgL 3)) (blkI C rfl fun _ Y21 => ts_nil) (blkI C rfl fun _ Y21 => (e_op op_mod oMod_ok (eB (g_int Y21 B (bC (b_var 3 (Y21.var 3))))) (bC e_int)))))))))) (ss_cons (g_set (pu := false) C Fn 4 (e_op C.addR oAdd_ok (eB (e_op C.mulR oMul_ok (eB e_int) (bC (g_abs C B (bC (b_var 2 (C.var 2))))))) (bC (e_if (t_cmp op_lt oLt_ok (b_var 2 (C.var 2)) (bC e_int) (nomark _)) e_int e_int)))) (ss_one (s_ret (pu := false) (e_lst (as_cons (e_if (t_cmp op_ge oLt_ok (b_var 4 (C.var 4)) (bC (e_op op_pow oPow_ok (eB e_int) (bC e_int))) (nomark _)) (e_var 4 (C.var 4)) e_int) (as_cons (e_op op_mod oMod_ok (eB (g_int C B (bC (e_op C.addR oAdd_ok (eB (e_op C.addR oAdd_ok (b_var 4 (C.var 4)) (bC (e_op C.mulR oMul_ok (b_var 1 (C.var 1)) (bC e_int))))) (bC e_int))))) (bC e_int)) (as_cons (e_var 1 (C.var 1)) as_nil))))))))
def B__law_late_due : MS := (sSeq (sSet 2 (mComp (mVarE 0) (tdN 3) [3] mYes (mLst aNil))) (sSeq (sSet 4 (mK (.int 0))) (sSeq (sForR (mK (.int 0)) (mUn fLen (mVar 0)) (tdN 5) (sFor (mBin oItem (mVar 0) (mVar 5)) (tdN 6) (sSeq (sWhile (fun _ _ => 1000000) (mTst (mBin cLt (mUn fLen (mVar 2)) (mBin oAdd (mBin oAdd (mVar 5) (mBin itemU (mVar 1) (mVar 4))) (mK (.int 1))))) (sApp true (pVar 2) (mLst aNil))) (sSeq (sApp true (pItem (pVar 2) (mBin oAdd (mVar 5) (mBin itemU (mVar 1) (mVar 4)))) (mVarE 6)) (sAug 4 (fun i j => i + j) (mK (.int 1))))))) (sMove 2))))
def F__law_late_due : MF := fnM 7 B__law_late_due
theorem d__law_late_due {c : Cg} {P : Program} {w : World} {base : Heap} {k : Nat} {X : Cx} {W : WX} (C : Cc c P w base N__law_late_due (defScope st__law_late_due) (k + 1) X W) (Fn : ∀ y, X.fn y = true) (St : X.stack = X.env :: X.outer) (Fr : X.env.frame = some X.env.locals) (B : NoG c BL) : PSs X (defBody st__law_late_due) (tS c W B__law_late_due) :=
  (ss_cons (g_setComp (pu := false) C 2 (own := [("row", 3)]) (e_var 0 (C.var 0)) (by decide +kernel) (tgN 3) (tgwN (by decide)) (blkI C rfl fun _ Y22 => (Y22.pgL 3)) (blkI C rfl fun _ Y22 => ts_nil) (blkI C rfl fun _ Y22 => (e_lst as_nil))) (ss_cons (g_set (pu := false) C Fn 4 e_int) (ss_cons (g_forR1 (pu := false) C B (bC (g_len C B (bC (b_var 0 (C.var 0))))) (C.pgN Fn 5) (tgN 5) (ss_one (g_for (pu := false) C (e_ix C.eK (b_var 0 (C.var 0)) (bC (b_var 5 (C.var 5))) (fun _ _ => rfl)) (C.pgN Fn 6) (tgN 6) (ss_cons (s_while (pu := false) (fu := fun _ _ => 1000000) C.po (t_cmp op_lt oLt_ok (eB (g_len C B (bC (b_var 2 (C.var 2))))) (bC (e_op C.addR oAdd_ok (eB (e_op C.addR oAdd_ok (b_var 5 (C.var 5)) (c_ix C.eK (b_var 1 (C.var 1)) (bC (b_var 4 (C.var 4))) (fun _ _ => rfl)))) (bC e_int))) (nomark _)) (ss_one (s_app (pu := false) (f := true) (.inl rfl) (p_var 2 (C.var 2)) (e_lst as_nil)))) (ss_cons (s_app (pu := false) (f := true) (.inl rfl) (p_item (W := W0) C.eK (p_var 2 (C.var 2)) (bC (e_op C.addR oAdd_ok (b_var 5 (C.var 5)) (c_ix C.eK (b_var 1 (C.var 1)) (bC (b_var 4 (C.var 4))) (fun _ _ => rfl)))) (stil_bin (stil_var _) (stil_bin (stil_var _) (stil_var _))) (fun _ _ => rfl)) (e_var 6 (C.var 6))) (ss_one (g_aug (pu := false) C Fn 4 ip_add (bC e_int)))))))) (ss_one (s_move 2 (C.var 2))))))
def B__law_case : MS := (sSeq (sSet 1 (mIf (mTst (mBin (oEq false) (mCall F__law_draw (aCons (mVarE 0) (aCons (mK (.int 6)) aNil))) (mK (.int 0)))) (mK (.int 12)) (mCall F__law_draw (aCons (mVarE 0) (aCons (mK (.int 6)) aNil))))) (sSeq (sSet 2 (mLst aNil)) (sSeq (sForR (mK (.int 0)) (mCall F__law_draw (aCons (mVarE 0) (aCons (mK (.int 11)) aNil))) (tdN 3) (sApp true (pVar 2) (mCompR (mK (.int 0)) (mCall F__law_draw (aCons (mVarE 0) (aCons (mK (.int 4)) aNil))) (tdN 4) [4] mYes (mIf (mTst (mBin cGt (mCall F__law_draw (aCons (mVarE 0) (aCons (mK (.int 4)) aNil))) (mK (.int 0)))) (mCall F__law_draw (aCons (mVarE 0) (aCons (mK (.int 5)) aNil))) (mCall F__law_draw (aCons (mVarE 0) (aCons (mBin oPow (mK (.int 10)) (mK (.int 9))) aNil))))))) (sGh (gFz 2) (sSeq (sSet 5 (mUn fSum (mComp (mVarE 2) (tdN 6) [6] mYes (mUn fLen (mVar 6))))) (sSeq (sSet 7 (mBin (oEq false) (mCall F__law_draw (aCons (mVarE 0) (aCons (mK (.int 3)) aNil))) (mK (.int 0)))) (sSeq (sSet 8 (mCompR (mK (.int 0)) (mVar 5) (tdN 4) [4] mYes (mIf (mTru (mVar 7)) (mVarE 1) (mCall F__law_draw (aCons (mVarE 0) (aCons (mBin oAdd (mVar 1) (mK (.int 1))) aNil)))))) (sGh (gFz 8) (sSeq (sSet 9 (mFz (mCall F__law_late_due (aCons (mVarE 2) (aCons (mVarE 8) aNil))))) (sSeq (sAsg (tdT 2 (tdCons (tdN 10) (tdCons (tdN 11) tdNil))) (mTup (aCons (mFz (mComp (mVarE 2) (tdN 6) [6] mYes (mUn fList (mVar 6)))) (aCons (mFz (mUn fList (mVar 8))) aNil)))) (sSeq (sSet 12 (mCall F_late_course (aCons (mVarE 10) (aCons (mVarE 11) (aCons (mVarE 1) aNil))))) (sSeq (sIf (mOr (mNot (mTru (mLend F__law_matches [12, 9]))) (mNot (mTru (mCall F__law_matches (aCons (mFz (mLst (aCons (mVarE 10) (aCons (mVarE 11) aNil)))) (aCons (mFz (mLst (aCons (mVarE 2) (aCons (mVarE 8) aNil)))) aNil)))))) (sRet (mK (.bl false))) sPass) (sSeq (sAppEach 12 6 (.int 5)) (sSeq (sApp true (pVar 12) (mLst (aCons (mK (.int 1)) aNil))) (sSeq (sIf (mNot (mTru (mCall F__law_matches (aCons (mFz (mCall F_late_course (aCons (mUn fTuple (mVar 10)) (aCons (mUn fTuple (mVar 11)) (aCons (mVarE 1) aNil))))) (aCons (mVarE 9) aNil))))) (sRet (mK (.bl false))) sPass) (sSeq (sSet 13 (mLst (aCons (mFz (mBin oAdd (mVar 8) (mLst (aCons (mK (.int 0)) aNil)))) aNil))) (sSeq (sIf (mTst (mBin cGt (mVar 5) (mK (.int 0)))) (sSeq (sSet 14 (mCall F__law_draw (aCons (mVarE 0) (aCons (mVarE 5) aNil)))) (sSeq (sSet 13 (mBin oAdd (mVar 13) (mLst (aCons (mFz (mBin oAdd (mSlice (mVar 8) oNo (oYes (mVar 14))) (mSlice (mVar 8) (oYes (mBin oAdd (mVar 14) (mK (.int 1)))) oNo))) (aCons (mFz (mBin oAdd (mBin oAdd (mSlice (mVar 8) oNo (oYes (mVar 14))) (mLst (aCons (mBin oAdd (mVar 1) (mK (.int 1))) aNil))) (mSlice (mVar 8) (oYes (mBin oAdd (mVar 14) (mK (.int 1)))) oNo))) aNil))))) (sApp true (pVar 13) (mFz (mBin oAdd (mBin oAdd (mSlice (mVar 8) oNo (oYes (mVar 14))) (mLst (aCons (mUn oNeg (mK (.int 1))) aNil))) (mSlice (mVar 8) (oYes (mBin oAdd (mVar 14) (mK (.int 1)))) oNo)))))) sPass) (sGh (gFz 13) (sSeq (sFor (mVarE 13) (tdN 15) (sIf (mNot (mTru (mCall F__law_matches (aCons (mFz (mCallL F__law_asked (lLam 0 [10, 15, 1] 0 P__law_case q__law_case lNil))) (aCons (mTup (aCons (mK (.str "BadCourse")) (aCons (mK (.str "delay")) aNil))) aNil))))) (sRet (mK (.bl false))) sPass)) (sRet (mCall F__law_matches (aCons (mFz (mCall F_late_course (aCons (mVarE 10) (aCons (mVarE 11) (aCons (mVarE 1) aNil))))) (aCons (mVarE 9) aNil)))))))))))))))))))))))
def F__law_case : MF := fnM 16 B__law_case
theorem d__law_case {c : Cg} {P : Program} {w : World} {base : Heap} {k : Nat} {X : Cx} {W : WX} (C : Cc c P w base N__law_case (defScope st__law_case) (k + 1) X W) (Fn : ∀ y, X.fn y = true) (St : X.stack = X.env :: X.outer) (Fr : X.env.frame = some X.env.locals) (B : NoG c BL) (G__law_draw : Gd c P w base (k + 1) "_law_draw" 2 F__law_draw) (G__law_late_due : Gd c P w base (k + 1) "_law_late_due" 2 F__law_late_due) (G_late_course : Gd c P w base (k + 1) "late_course" 3 F_late_course) (G__law_matches : Gd c P w base (k + 1) "_law_matches" 2 F__law_matches) (G__law_asked : Gd c P w base (k + 1) "_law_asked" 1 F__law_asked) (hci : c.ci = ciT) {cP : Addr} (M : Lm X cP P__law_case q__law_case) : PSs X (defBody st__law_case) (tS c W B__law_case) :=
  (ss_cons (g_set (pu := false) C Fn 1 (e_if (t_cmp C.eqR oEq_ok (eB (g_call C G__law_draw (as_cons (e_var 0 (C.var 0)) (as_cons e_int as_nil)) (argN_cons (argN_cons argN_nil)))) (bC e_int) (nomark _)) e_int (g_call C G__law_draw (as_cons (e_var 0 (C.var 0)) (as_cons e_int as_nil)) (argN_cons (argN_cons argN_nil))))) (ss_cons (g_set (pu := false) C Fn 2 (e_lst as_nil)) (ss_cons (g_forR1 (pu := false) C B (bC (g_call C G__law_draw (as_cons (e_var 0 (C.var 0)) (as_cons e_int as_nil)) (argN_cons (argN_cons argN_nil)))) (C.pgN Fn 3) (tgN 3) (ss_one (s_app (pu := false) (f := true) (.inl rfl) (p_var 2 (C.var 2)) (g_compR1 C B (own := [("guest", 4)]) (bC (g_call C G__law_draw (as_cons (e_var 0 (C.var 0)) (as_cons e_int as_nil)) (argN_cons (argN_cons argN_nil)))) (by decide +kernel) (tgN 4) (tgwN (by decide)) (blkI C rfl fun _ Y23 => (Y23.pgL 4)) (blkI C rfl fun _ Y23 => ts_nil) (blkI C rfl fun _ Y23 => (e_if (t_cmp op_gt oLt_ok (eB (g_call Y23 G__law_draw (as_cons (e_var 0 (Y23.var 0)) (as_cons e_int as_nil)) (argN_cons (argN_cons argN_nil)))) (bC e_int) (nomark _)) (g_call Y23 G__law_draw (as_cons (e_var 0 (Y23.var 0)) (as_cons e_int as_nil)) (argN_cons (argN_cons argN_nil))) (g_call Y23 G__law_draw (as_cons (e_var 0 (Y23.var 0)) (as_cons (e_op op_pow oPow_ok (eB e_int) (bC e_int)) as_nil)) (argN_cons (argN_cons argN_nil))))))))) (ss_gh (gFz_ok 2) (ss_cons (g_set (pu := false) C Fn 5 (g_sum C B (bC (g_comp C (own := [("row", 6)]) (e_var 2 (C.var 2)) (by decide +kernel) (tgN 6) (tgwN (by decide)) (blkI C rfl fun _ Y24 => (Y24.pgL 6)) (blkI C rfl fun _ Y24 => ts_nil) (blkI C rfl fun _ Y24 => (g_len Y24 B (bC (b_var 6 (Y24.var 6))))))))) (ss_cons (g_set (pu := false) C Fn 7 (e_cmp C.eqR oEq_ok (eB (g_call C G__law_draw (as_cons (e_var 0 (C.var 0)) (as_cons e_int as_nil)) (argN_cons (argN_cons argN_nil)))) (bC e_int) (nomark _))) (ss_cons (g_setCompR1 (pu := false) C B 8 (own := [("guest", 4)]) (bC (b_var 5 (C.var 5))) (by decide +kernel) (tgN 4) (tgwN (by decide)) (blkI C rfl fun _ Y25 => (Y25.pgL 4)) (blkI C rfl fun _ Y25 => ts_nil) (blkI C rfl fun _ Y25 => (e_if (t_tru Y25.eK (bC (b_var 7 (Y25.var 7))) (by intro _; rfl)) (e_var 1 (Y25.var 1)) (g_call Y25 G__law_draw (as_cons (e_var 0 (Y25.var 0)) (as_cons (e_op Y25.addR oAdd_ok (b_var 1 (Y25.var 1)) (bC e_int)) as_nil)) (argN_cons (argN_cons argN_nil)))))) (ss_gh (gFz_ok 8) (ss_cons (g_set (pu := false) C Fn 9 (eFz (g_call C G__law_late_due (as_cons (e_var 2 (C.var 2)) (as_cons (e_var 8 (C.var 8)) as_nil)) (argN_cons (argN_cons argN_nil))))) (ss_cons (g_asgT2 (pu := false) C (C.pgT (pgs_cons (C.pgN Fn 10) (pgs_cons (C.pgN Fn 11) pgs_nil))) (tgT (n := 2) (tgsCons (tgN 10) (tgsCons (tgN 11) tgsNil))) (e_tup (as_cons (eFz (g_comp C (own := [("row", 6)]) (e_var 2 (C.var 2)) (by decide +kernel) (tgN 6) (tgwN (by decide)) (blkI C rfl fun _ Y26 => (Y26.pgL 6)) (blkI C rfl fun _ Y26 => ts_nil) (blkI C rfl fun _ Y26 => (g_list Y26 B (bC (b_var 6 (Y26.var 6))))))) (as_cons (eFz (g_list C B (bC (b_var 8 (C.var 8))))) as_nil)))) (ss_cons (g_set (pu := false) C Fn 12 (g_call C G_late_course (as_cons (e_var 10 (C.var 10)) (as_cons (e_var 11 (C.var 11)) (as_cons (e_var 1 (C.var 1)) as_nil))) (argN_cons (argN_cons (argN_cons argN_nil))))) (ss_cons (s_if (pu := false) (PW.pt (w_or (t_not (t_tru C.eK (bC (g_lend C G__law_matches [12, 9] (pa_cons (C.var 12) (pa_cons (C.var 9) pa_nil)))) (by intro _; rfl))) (w_or1 (t_not (t_tru C.eK (bC (g_call C G__law_matches (as_cons (eFz (e_lst (as_cons (e_var 10 (C.var 10)) (as_cons (e_var 11 (C.var 11)) as_nil)))) (as_cons (eFz (e_lst (as_cons (e_var 2 (C.var 2)) (as_cons (e_var 8 (C.var 8)) as_nil)))) as_nil)) (argN_cons (argN_cons argN_nil)))) (by intro _; rfl)))))) (ss_one (s_ret (pu := false) e_bl)) ss_nil) (ss_cons (g_appEach C 12 6 pe_int (C.var 12) (C.var 6) (C.pgN Fn 6)) (ss_cons (s_app (pu := false) (f := true) (.inl rfl) (p_var 12 (C.var 12)) (e_lst (as_cons e_int as_nil))) (ss_cons (s_if (pu := false) (t_not (t_tru C.eK (bC (g_call C G__law_matches (as_cons (eFz (g_call C G_late_course (as_cons (g_tuple C B (bC (b_var 10 (C.var 10)))) (as_cons (g_tuple C B (bC (b_var 11 (C.var 11)))) (as_cons (e_var 1 (C.var 1)) as_nil))) (argN_cons (argN_cons (argN_cons argN_nil))))) (as_cons (e_var 9 (C.var 9)) as_nil)) (argN_cons (argN_cons argN_nil)))) (by intro _; rfl))) (ss_one (s_ret (pu := false) e_bl)) ss_nil) (ss_cons (g_set (pu := false) C Fn 13 (e_lst (as_cons (eFz (e_op C.addR oAdd_ok (b_var 8 (C.var 8)) (bC (e_lst (as_cons e_int as_nil))))) as_nil))) (ss_cons (s_if (pu := false) (t_cmp op_gt oLt_ok (b_var 5 (C.var 5)) (bC e_int) (nomark _)) (ss_cons (g_set (pu := false) C Fn 14 (g_call C G__law_draw (as_cons (e_var 0 (C.var 0)) (as_cons (e_var 5 (C.var 5)) as_nil)) (argN_cons (argN_cons argN_nil)))) (ss_cons (g_set (pu := false) C Fn 13 (e_op C.addR oAdd_ok (b_var 13 (C.var 13)) (bC (e_lst (as_cons (eFz (e_op C.addR oAdd_ok (eB (e_slice C.eK (b_var 8 (C.var 8)) o_no (o_yes (bC (b_var 14 (C.var 14)))))) (bC (e_slice C.eK (b_var 8 (C.var 8)) (o_yes (bC (e_op C.addR oAdd_ok (b_var 14 (C.var 14)) (bC e_int)))) o_no)))) (as_cons (eFz (e_op C.addR oAdd_ok (eB (e_op C.addR oAdd_ok (eB (e_slice C.eK (b_var 8 (C.var 8)) o_no (o_yes (bC (b_var 14 (C.var 14)))))) (bC (e_lst (as_cons (e_op C.addR oAdd_ok (b_var 1 (C.var 1)) (bC e_int)) as_nil))))) (bC (e_slice C.eK (b_var 8 (C.var 8)) (o_yes (bC (e_op C.addR oAdd_ok (b_var 14 (C.var 14)) (bC e_int)))) o_no)))) as_nil)))))) (ss_one (s_app (pu := false) (f := true) (.inl rfl) (p_var 13 (C.var 13)) (eFz (e_op C.addR oAdd_ok (eB (e_op C.addR oAdd_ok (eB (e_slice C.eK (b_var 8 (C.var 8)) o_no (o_yes (bC (b_var 14 (C.var 14)))))) (bC (e_lst (as_cons (e_un un_neg oNeg_ok (bC e_int)) as_nil))))) (bC (e_slice C.eK (b_var 8 (C.var 8)) (o_yes (bC (e_op C.addR oAdd_ok (b_var 14 (C.var 14)) (bC e_int)))) o_no)))))))) ss_nil) (ss_gh (gFz_ok 13) (ss_cons (g_for (pu := false) C (e_var 13 (C.var 13)) (C.pgN Fn 15) (tgN 15) (ss_one (s_if (pu := false) (t_not (t_tru C.eK (bC (g_call C G__law_matches (as_cons (eFz (g_callL C M G__law_asked (la_lam (i := 0) (k := 0) (js := [10, 15, 1]) (J := J_0) M (hciOf hci (i := 0) rfl) rfl C.esc LA_0 (by intro _; rfl) la_nil) (ln_lam (hciOf hci (i := 0) rfl) LA_0 ln_nil))) (as_cons (e_tup (as_cons e_str (as_cons e_str as_nil))) as_nil)) (argN_cons (argN_cons argN_nil)))) (by intro _; rfl))) (ss_one (s_ret (pu := false) e_bl)) ss_nil))) (ss_one (s_ret (pu := false) (g_call C G__law_matches (as_cons (eFz (g_call C G_late_course (as_cons (e_var 10 (C.var 10)) (as_cons (e_var 11 (C.var 11)) (as_cons (e_var 1 (C.var 1)) as_nil))) (argN_cons (argN_cons (argN_cons argN_nil))))) (as_cons (e_var 9 (C.var 9)) as_nil)) (argN_cons (argN_cons argN_nil))))))))))))))))))))))))
def B_law : MS := (sSeq (sForR (mK (.int 0)) (mK (.int 2)) (tdN 1) (sIf (mNot (mTru (mCall F__law_case (aCons (mCel (mCall F__law_stock (aCons (mVarE 0) (aCons (mVarE 1) aNil)))) aNil)))) (sRet (mK (.bl false))) sPass)) (sRet (mCall F__law_bounds (aCons (mCel (mCall F__law_stock (aCons (mVarE 0) (aCons (mK (.int 2)) aNil)))) aNil))))
def F_law : MF := fnM 2 B_law
theorem d_law {c : Cg} {P : Program} {w : World} {base : Heap} {k : Nat} {X : Cx} {W : WX} (C : Cc c P w base N_law (defScope st_law) (k + 1) X W) (Fn : ∀ y, X.fn y = true) (St : X.stack = X.env :: X.outer) (Fr : X.env.frame = some X.env.locals) (B : NoG c BL) (G__law_case : Gd c P w base (k + 1) "_law_case" 1 F__law_case) (G__law_stock : Gd c P w base (k + 1) "_law_stock" 2 F__law_stock) (G__law_bounds : Gd c P w base (k + 1) "_law_bounds" 1 F__law_bounds) : PSs X (defBody st_law) (tS c W B_law) :=
  (ss_cons (g_forR1 (pu := false) C B (bC e_int) (C.pgN Fn 1) (tgN 1) (ss_one (s_if (pu := false) (t_not (t_tru C.eK (bC (g_call C G__law_case (as_cons (eCel (g_call C G__law_stock (as_cons (e_var 0 (C.var 0)) (as_cons (e_var 1 (C.var 1)) as_nil)) (argN_cons (argN_cons argN_nil)))) as_nil) (argN_cons argN_nil))) (by intro _; rfl))) (ss_one (s_ret (pu := false) e_bl)) ss_nil))) (ss_one (s_ret (pu := false) (g_call C G__law_bounds (as_cons (eCel (g_call C G__law_stock (as_cons (e_var 0 (C.var 0)) (as_cons e_int as_nil)) (argN_cons (argN_cons argN_nil)))) as_nil) (argN_cons argN_nil)))))
abbrev in_BadCourse : Stmt := inCls (topOf pw 4) 0
theorem inS_BadCourse : FnScope ["self", "what"] ["self", "what"] (defScope in_BadCourse) := ⟨rfl, rfl, rfl, by decide +kernel, rfl, by decide +kernel, by decide +kernel⟩
abbrev in_TooMany : Stmt := inCls (topOf pw 2) 0
theorem inS_TooMany : FnScope ["self", "what"] ["self", "what"] (defScope in_TooMany) := ⟨rfl, rfl, rfl, by decide +kernel, rfl, by decide +kernel, by decide +kernel⟩
abbrev tabs0 : List (Addr × Str) := [(P__law_case, q__law_case), (P__law_bounds, q__law_bounds)]
theorem all_mk {l : PySem.W.OpenLaw} {w : World} {K : PySem.W.Frag} {h : Heap} {mg : Str → Option Value} {fa : Addr} (X : K.In h) (G : h.Ns mainGlobals mg) (hfa : mg "law" = some (.ref fa)) (TT : ∀ P ∈ ([P__law_case, P__law_bounds] : List Addr), h.get? P = some { cls := .none, data := .fields #[] })
    (law_true : ∀ ns : List Int, ns.length ≤ 63 → (∀ z ∈ ns, Builtin.Int.intBits z ≤ 1048576) → ∃ h2, F_law [.d (.rol (ns.map .int))] (tabs0.map fun p => .tab p.1 p.2) = .ok (.d (.bl true)) h2)
    {f__law_draw : Addr} {oc__law_draw kV__law_draw dc__law_draw pm__law_draw ct__law_draw : Value} {od__law_draw an__law_draw : Option Addr} {sl__law_draw : Array (Option Value)} {cd__law_draw : Value} (a__law_draw : PySem.W.nsIn K mainGlobals "_law_draw" = some (some (.ref f__law_draw)))
    (l__law_draw : K.lookup f__law_draw = some ⟨oc__law_draw, od__law_draw, .func (PySem.W.fnOf "_law_draw" "_law_draw" (defArgs st__law_draw) (defBody st__law_draw) (defScope st__law_draw) .none kV__law_draw dc__law_draw pm__law_draw an__law_draw cd__law_draw ct__law_draw), sl__law_draw⟩)
    (c__law_draw : PySem.W.codeIn K cd__law_draw "_law_draw" = true)
    (k__law_draw : PySem.W.keepIn K (.ref f__law_draw) = true)
    {f__law_matches : Addr} {oc__law_matches kV__law_matches dc__law_matches pm__law_matches ct__law_matches : Value} {od__law_matches an__law_matches : Option Addr} {sl__law_matches : Array (Option Value)} {cd__law_matches : Value} (a__law_matches : PySem.W.nsIn K mainGlobals "_law_matches" = some (some (.ref f__law_matches)))
    (l__law_matches : K.lookup f__law_matches = some ⟨oc__law_matches, od__law_matches, .func (PySem.W.fnOf "_law_matches" "_law_matches" (defArgs st__law_matches) (defBody st__law_matches) (defScope st__law_matches) .none kV__law_matches dc__law_matches pm__law_matches an__law_matches cd__law_matches ct__law_matches), sl__law_matches⟩)
    (c__law_matches : PySem.W.codeIn K cd__law_matches "_law_matches" = true)
    (k__law_matches : PySem.W.keepIn K (.ref f__law_matches) = true)
    {f_check : Addr} {oc_check kV_check dc_check pm_check ct_check : Value} {od_check an_check : Option Addr} {sl_check : Array (Option Value)} {cd_check : Value} (a_check : PySem.W.nsIn K mainGlobals "check" = some (some (.ref f_check)))
    (l_check : K.lookup f_check = some ⟨oc_check, od_check, .func (PySem.W.fnOf "check" "check" (defArgs st_check) (defBody st_check) (defScope st_check) .none kV_check dc_check pm_check an_check cd_check ct_check), sl_check⟩)
    (c_check : PySem.W.codeIn K cd_check "check" = true)
    (k_check : PySem.W.keepIn K (.ref f_check) = true)
    {f_late_course : Addr} {oc_late_course kV_late_course dc_late_course pm_late_course ct_late_course : Value} {od_late_course an_late_course : Option Addr} {sl_late_course : Array (Option Value)} {cd_late_course : Value} (a_late_course : PySem.W.nsIn K mainGlobals "late_course" = some (some (.ref f_late_course)))
    (l_late_course : K.lookup f_late_course = some ⟨oc_late_course, od_late_course, .func (PySem.W.fnOf "late_course" "late_course" (defArgs st_late_course) (defBody st_late_course) (defScope st_late_course) .none kV_late_course dc_late_course pm_late_course an_late_course cd_late_course ct_late_course), sl_late_course⟩)
    (c_late_course : PySem.W.codeIn K cd_late_course "late_course" = true)
    (k_late_course : PySem.W.keepIn K (.ref f_late_course) = true)
    {f__law_asked : Addr} {oc__law_asked kV__law_asked dc__law_asked pm__law_asked ct__law_asked : Value} {od__law_asked an__law_asked : Option Addr} {sl__law_asked : Array (Option Value)} {cd__law_asked : Value} (a__law_asked : PySem.W.nsIn K mainGlobals "_law_asked" = some (some (.ref f__law_asked)))
    (l__law_asked : K.lookup f__law_asked = some ⟨oc__law_asked, od__law_asked, .func (PySem.W.fnOf "_law_asked" "_law_asked" (defArgs st__law_asked) (defBody st__law_asked) (defScope st__law_asked) .none kV__law_asked dc__law_asked pm__law_asked an__law_asked cd__law_asked ct__law_asked), sl__law_asked⟩)
    (c__law_asked : PySem.W.codeIn K cd__law_asked "_law_asked" = true)
    (k__law_asked : PySem.W.keepIn K (.ref f__law_asked) = true)
    {f__law_bounds : Addr} {oc__law_bounds kV__law_bounds dc__law_bounds pm__law_bounds ct__law_bounds : Value} {od__law_bounds an__law_bounds : Option Addr} {sl__law_bounds : Array (Option Value)} {cP__law_bounds : Addr} (a__law_bounds : PySem.W.nsIn K mainGlobals "_law_bounds" = some (some (.ref f__law_bounds)))
    (l__law_bounds : K.lookup f__law_bounds = some ⟨oc__law_bounds, od__law_bounds, .func (PySem.W.fnOf "_law_bounds" "_law_bounds" (defArgs st__law_bounds) (defBody st__law_bounds) (defScope st__law_bounds) .none kV__law_bounds dc__law_bounds pm__law_bounds an__law_bounds (.ref cP__law_bounds) ct__law_bounds), sl__law_bounds⟩)
    (c__law_bounds : PySem.W.codeIn K (.ref cP__law_bounds) "_law_bounds" = true)
    (k__law_bounds : PySem.W.keepIn K (.ref f__law_bounds) = true)
    (h__law_bounds : PySem.W.codeHdIn K cP__law_bounds P__law_bounds = true)
    (n__law_bounds : K.lookup P__law_bounds = none)
    {f__law_stock : Addr} {oc__law_stock kV__law_stock dc__law_stock pm__law_stock ct__law_stock : Value} {od__law_stock an__law_stock : Option Addr} {sl__law_stock : Array (Option Value)} {cd__law_stock : Value} (a__law_stock : PySem.W.nsIn K mainGlobals "_law_stock" = some (some (.ref f__law_stock)))
    (l__law_stock : K.lookup f__law_stock = some ⟨oc__law_stock, od__law_stock, .func (PySem.W.fnOf "_law_stock" "_law_stock" (defArgs st__law_stock) (defBody st__law_stock) (defScope st__law_stock) .none kV__law_stock dc__law_stock pm__law_stock an__law_stock cd__law_stock ct__law_stock), sl__law_stock⟩)
    (c__law_stock : PySem.W.codeIn K cd__law_stock "_law_stock" = true)
    (k__law_stock : PySem.W.keepIn K (.ref f__law_stock) = true)
    {f__law_late_due : Addr} {oc__law_late_due kV__law_late_due dc__law_late_due pm__law_late_due ct__law_late_due : Value} {od__law_late_due an__law_late_due : Option Addr} {sl__law_late_due : Array (Option Value)} {cd__law_late_due : Value} (a__law_late_due : PySem.W.nsIn K mainGlobals "_law_late_due" = some (some (.ref f__law_late_due)))
    (l__law_late_due : K.lookup f__law_late_due = some ⟨oc__law_late_due, od__law_late_due, .func (PySem.W.fnOf "_law_late_due" "_law_late_due" (defArgs st__law_late_due) (defBody st__law_late_due) (defScope st__law_late_due) .none kV__law_late_due dc__law_late_due pm__law_late_due an__law_late_due cd__law_late_due ct__law_late_due), sl__law_late_due⟩)
    (c__law_late_due : PySem.W.codeIn K cd__law_late_due "_law_late_due" = true)
    (k__law_late_due : PySem.W.keepIn K (.ref f__law_late_due) = true)
    {f__law_case : Addr} {oc__law_case kV__law_case dc__law_case pm__law_case ct__law_case : Value} {od__law_case an__law_case : Option Addr} {sl__law_case : Array (Option Value)} {cP__law_case : Addr} (a__law_case : PySem.W.nsIn K mainGlobals "_law_case" = some (some (.ref f__law_case)))
    (l__law_case : K.lookup f__law_case = some ⟨oc__law_case, od__law_case, .func (PySem.W.fnOf "_law_case" "_law_case" (defArgs st__law_case) (defBody st__law_case) (defScope st__law_case) .none kV__law_case dc__law_case pm__law_case an__law_case (.ref cP__law_case) ct__law_case), sl__law_case⟩)
    (c__law_case : PySem.W.codeIn K (.ref cP__law_case) "_law_case" = true)
    (k__law_case : PySem.W.keepIn K (.ref f__law_case) = true)
    (h__law_case : PySem.W.codeHdIn K cP__law_case P__law_case = true)
    (n__law_case : K.lookup P__law_case = none)
    {f_law : Addr} {oc_law kV_law dc_law pm_law ct_law : Value} {od_law an_law : Option Addr} {sl_law : Array (Option Value)} {cd_law : Value} (a_law : PySem.W.nsIn K mainGlobals "law" = some (some (.ref f_law)))
    (l_law : K.lookup f_law = some ⟨oc_law, od_law, .func (PySem.W.fnOf "law" "law" (defArgs st_law) (defBody st_law) (defScope st_law) .none kV_law dc_law pm_law an_law cd_law ct_law), sl_law⟩)
    (c_law : PySem.W.codeIn K cd_law "law" = true)
    (k_law : PySem.W.keepIn K (.ref f_law) = true)
    {C_BadCourse : Addr} (a_BadCourse : PySem.W.nsIn K mainGlobals "BadCourse" = some (some (.ref C_BadCourse)))
    {nm_BadCourse q_BadCourse N_BadCourse bs_BadCourse bm_BadCourse sn_BadCourse sub_BadCourse ab_BadCourse col_BadCourse dd_BadCourse k0_BadCourse k1_BadCourse k2_BadCourse k3_BadCourse k5_BadCourse} (e_BadCourse : K.lookup C_BadCourse = some (excClassObj nm_BadCourse q_BadCourse C_BadCourse N_BadCourse bs_BadCourse bm_BadCourse true sn_BadCourse sub_BadCourse ab_BadCourse col_BadCourse dd_BadCourse k0_BadCourse k1_BadCourse k2_BadCourse k3_BadCourse k5_BadCourse "ValueError.__new__"))
    (eb_BadCourse : PySem.HandSPX.refsVE bm_BadCourse = true)
    (es_BadCourse : PySem.W.findIn K (.ref C_BadCourse) "__setattr__" = some (some (.builtin "object.__setattr__")))
    (ex_BadCourse : PySem.W.subIn K (.ref C_BadCourse) (.type "BaseException") = some true)
    (et_BadCourse : PySem.W.typeIn K (.ref C_BadCourse) = some (.type "type"))
    (ek_BadCourse : PySem.W.keepIn K (.ref C_BadCourse) = true)
    (eg_BadCourse : PySem.W.findIn K (.ref C_BadCourse) "__getattribute__" = some (some (.builtin "BaseException.__getattribute__")))
    (ea_BadCourse : PySem.W.findIn K (.ref C_BadCourse) "__getattr__" = some none)
    (ed_BadCourse : PySem.W.hasDictIn K C_BadCourse = true)
    (ec_BadCourse : PySem.W.findIn K (.ref C_BadCourse) "__class__" = some (some (.builtin "object.__class__")))
    (em_BadCourse : PySem.W.mroIn K C_BadCourse (.type "object") = some true)
    {C_BadKitchen : Addr} (a_BadKitchen : PySem.W.nsIn K mainGlobals "BadKitchen" = some (some (.ref C_BadKitchen)))
    {nm_BadKitchen q_BadKitchen N_BadKitchen bs_BadKitchen bm_BadKitchen sn_BadKitchen sub_BadKitchen ab_BadKitchen col_BadKitchen dd_BadKitchen k0_BadKitchen k1_BadKitchen k2_BadKitchen k3_BadKitchen k5_BadKitchen} (e_BadKitchen : K.lookup C_BadKitchen = some (excClassObj nm_BadKitchen q_BadKitchen C_BadKitchen N_BadKitchen bs_BadKitchen bm_BadKitchen true sn_BadKitchen sub_BadKitchen ab_BadKitchen col_BadKitchen dd_BadKitchen k0_BadKitchen k1_BadKitchen k2_BadKitchen k3_BadKitchen k5_BadKitchen "ValueError.__new__"))
    (eb_BadKitchen : PySem.HandSPX.refsVE bm_BadKitchen = true)
    (es_BadKitchen : PySem.W.findIn K (.ref C_BadKitchen) "__setattr__" = some (some (.builtin "object.__setattr__")))
    (ex_BadKitchen : PySem.W.subIn K (.ref C_BadKitchen) (.type "BaseException") = some true)
    (et_BadKitchen : PySem.W.typeIn K (.ref C_BadKitchen) = some (.type "type"))
    (ek_BadKitchen : PySem.W.keepIn K (.ref C_BadKitchen) = true)
    (eg_BadKitchen : PySem.W.findIn K (.ref C_BadKitchen) "__getattribute__" = some (some (.builtin "BaseException.__getattribute__")))
    (ea_BadKitchen : PySem.W.findIn K (.ref C_BadKitchen) "__getattr__" = some none)
    (ed_BadKitchen : PySem.W.hasDictIn K C_BadKitchen = true)
    (ec_BadKitchen : PySem.W.findIn K (.ref C_BadKitchen) "__class__" = some (some (.builtin "object.__class__")))
    (em_BadKitchen : PySem.W.mroIn K C_BadKitchen (.type "object") = some true)
    {C_LiftedError : Addr} (a_LiftedError : PySem.W.nsIn K mainGlobals "LiftedError" = some (some (.ref C_LiftedError)))
    {nm_LiftedError q_LiftedError N_LiftedError bs_LiftedError bm_LiftedError sn_LiftedError sub_LiftedError ab_LiftedError col_LiftedError dd_LiftedError k0_LiftedError k1_LiftedError k2_LiftedError k3_LiftedError k5_LiftedError} (e_LiftedError : K.lookup C_LiftedError = some (excClassObj nm_LiftedError q_LiftedError C_LiftedError N_LiftedError bs_LiftedError bm_LiftedError true sn_LiftedError sub_LiftedError ab_LiftedError col_LiftedError dd_LiftedError k0_LiftedError k1_LiftedError k2_LiftedError k3_LiftedError k5_LiftedError "ValueError.__new__"))
    (eb_LiftedError : PySem.HandSPX.refsVE bm_LiftedError = true)
    (es_LiftedError : PySem.W.findIn K (.ref C_LiftedError) "__setattr__" = some (some (.builtin "object.__setattr__")))
    (ex_LiftedError : PySem.W.subIn K (.ref C_LiftedError) (.type "BaseException") = some true)
    (et_LiftedError : PySem.W.typeIn K (.ref C_LiftedError) = some (.type "type"))
    (ek_LiftedError : PySem.W.keepIn K (.ref C_LiftedError) = true)
    (eg_LiftedError : PySem.W.findIn K (.ref C_LiftedError) "__getattribute__" = some (some (.builtin "BaseException.__getattribute__")))
    (ea_LiftedError : PySem.W.findIn K (.ref C_LiftedError) "__getattr__" = some none)
    (ed_LiftedError : PySem.W.hasDictIn K C_LiftedError = true)
    (ec_LiftedError : PySem.W.findIn K (.ref C_LiftedError) "__class__" = some (some (.builtin "object.__class__")))
    (em_LiftedError : PySem.W.mroIn K C_LiftedError (.type "object") = some true)
    {C_TooMany : Addr} (a_TooMany : PySem.W.nsIn K mainGlobals "TooMany" = some (some (.ref C_TooMany)))
    {nm_TooMany q_TooMany N_TooMany bs_TooMany bm_TooMany sn_TooMany sub_TooMany ab_TooMany col_TooMany dd_TooMany k0_TooMany k1_TooMany k2_TooMany k3_TooMany k5_TooMany} (e_TooMany : K.lookup C_TooMany = some (excClassObj nm_TooMany q_TooMany C_TooMany N_TooMany bs_TooMany bm_TooMany true sn_TooMany sub_TooMany ab_TooMany col_TooMany dd_TooMany k0_TooMany k1_TooMany k2_TooMany k3_TooMany k5_TooMany "ValueError.__new__"))
    (eb_TooMany : PySem.HandSPX.refsVE bm_TooMany = true)
    (es_TooMany : PySem.W.findIn K (.ref C_TooMany) "__setattr__" = some (some (.builtin "object.__setattr__")))
    (ex_TooMany : PySem.W.subIn K (.ref C_TooMany) (.type "BaseException") = some true)
    (et_TooMany : PySem.W.typeIn K (.ref C_TooMany) = some (.type "type"))
    (ek_TooMany : PySem.W.keepIn K (.ref C_TooMany) = true)
    (eg_TooMany : PySem.W.findIn K (.ref C_TooMany) "__getattribute__" = some (some (.builtin "BaseException.__getattribute__")))
    (ea_TooMany : PySem.W.findIn K (.ref C_TooMany) "__getattr__" = some none)
    (ed_TooMany : PySem.W.hasDictIn K C_TooMany = true)
    (ec_TooMany : PySem.W.findIn K (.ref C_TooMany) "__class__" = some (some (.builtin "object.__class__")))
    (em_TooMany : PySem.W.mroIn K C_TooMany (.type "object") = some true)
    (cn : PySem.W.specialIn K (.builtin "object.__class__") "__get__" = some (some (.builtin "getset_descriptor.__get__")))
    (ct : PySem.W.takesIn K (.builtin "object.__class__") = some true)
    (lg : PySem.W.specialIn K (.ref C_LiftedError) "__getattribute__" = some (some (.builtin "type.__getattribute__")))
    (lr : PySem.W.readsIn K C_LiftedError (.type "type") = true)
    (li : PySem.W.findCls K (.ref C_LiftedError) (.type "type") "__init__" = some (.val (.builtin "ValueError.__init__")))
    {i_BadCourse : Addr} {ioc_BadCourse ikV_BadCourse idc_BadCourse ipm_BadCourse ict_BadCourse icd_BadCourse : Value} {iod_BadCourse ian_BadCourse : Option Addr} {isl_BadCourse : Array (Option Value)} (ia_BadCourse : PySem.W.findIn K (.ref C_BadCourse) "__init__" = some (some (.ref i_BadCourse)))
    (it_BadCourse : PySem.W.typeIn K (.ref i_BadCourse) = some (.type "function"))
    (il_BadCourse : K.lookup i_BadCourse = some ⟨ioc_BadCourse, iod_BadCourse, .func (PySem.W.fnOf "__init__" "BadCourse.__init__" (defArgs in_BadCourse) (defBody in_BadCourse) (defScope in_BadCourse) .none ikV_BadCourse idc_BadCourse ipm_BadCourse ian_BadCourse icd_BadCourse ict_BadCourse), isl_BadCourse⟩)
    (ic_BadCourse : PySem.W.codeIn K icd_BadCourse "BadCourse.__init__" = true)
    (ik_BadCourse : PySem.W.keepIn K (.ref i_BadCourse) = true)
    (if_BadCourse_what : PySem.W.findIn K (.ref C_BadCourse) "what" = some none)
    (s_BadCourse_BadCourse : PySem.W.subIn K (.ref C_BadCourse) (.ref C_BadCourse) = some true)
    (s_BadCourse_BadKitchen : PySem.W.subIn K (.ref C_BadCourse) (.ref C_BadKitchen) = some false)
    (s_BadCourse_LiftedError : PySem.W.subIn K (.ref C_BadCourse) (.ref C_LiftedError) = some true)
    (s_BadCourse_TooMany : PySem.W.subIn K (.ref C_BadCourse) (.ref C_TooMany) = some false)
    (z_BadCourse_BadCourse : C_BadCourse = C_BadCourse → true = true)
    (z_BadCourse_BadKitchen : C_BadCourse = C_BadKitchen → false = true)
    (z_BadCourse_LiftedError : C_BadCourse = C_LiftedError → true = true)
    (z_BadCourse_TooMany : C_BadCourse = C_TooMany → false = true)
    (s_BadCourse_ValueError : PySem.W.subIn K (.ref C_BadCourse) (.type "ValueError") = some true)
    {i_TooMany : Addr} {ioc_TooMany ikV_TooMany idc_TooMany ipm_TooMany ict_TooMany icd_TooMany : Value} {iod_TooMany ian_TooMany : Option Addr} {isl_TooMany : Array (Option Value)} (ia_TooMany : PySem.W.findIn K (.ref C_TooMany) "__init__" = some (some (.ref i_TooMany)))
    (it_TooMany : PySem.W.typeIn K (.ref i_TooMany) = some (.type "function"))
    (il_TooMany : K.lookup i_TooMany = some ⟨ioc_TooMany, iod_TooMany, .func (PySem.W.fnOf "__init__" "TooMany.__init__" (defArgs in_TooMany) (defBody in_TooMany) (defScope in_TooMany) .none ikV_TooMany idc_TooMany ipm_TooMany ian_TooMany icd_TooMany ict_TooMany), isl_TooMany⟩)
    (ic_TooMany : PySem.W.codeIn K icd_TooMany "TooMany.__init__" = true)
    (ik_TooMany : PySem.W.keepIn K (.ref i_TooMany) = true)
    (if_TooMany_what : PySem.W.findIn K (.ref C_TooMany) "what" = some none)
    (s_TooMany_BadCourse : PySem.W.subIn K (.ref C_TooMany) (.ref C_BadCourse) = some false)
    (s_TooMany_BadKitchen : PySem.W.subIn K (.ref C_TooMany) (.ref C_BadKitchen) = some false)
    (s_TooMany_LiftedError : PySem.W.subIn K (.ref C_TooMany) (.ref C_LiftedError) = some true)
    (s_TooMany_TooMany : PySem.W.subIn K (.ref C_TooMany) (.ref C_TooMany) = some true)
    (z_TooMany_BadCourse : C_TooMany = C_BadCourse → false = true)
    (z_TooMany_BadKitchen : C_TooMany = C_BadKitchen → false = true)
    (z_TooMany_LiftedError : C_TooMany = C_LiftedError → true = true)
    (z_TooMany_TooMany : C_TooMany = C_TooMany → true = true)
    (s_TooMany_ValueError : PySem.W.subIn K (.ref C_TooMany) (.type "ValueError") = some true)
    (tx_ValueError : PySem.W.subIn K (.type "ValueError") (.type "BaseException") = some true)
    (tm_ValueError : PySem.W.kitMeta "ValueError" = true)
    {b_LIMITS : Addr} {es_LIMITS : Array DictEntry} {en_LIMITS : Nat} (a_LIMITS : PySem.W.nsIn K mainGlobals "LIMITS" = some (some (.ref b_LIMITS)))
    (l_LIMITS : K.lookup b_LIMITS = some ⟨.type "dict", none, .dict es_LIMITS en_LIMITS, #[]⟩)
    (kl_LIMITS : PySem.W.KeysLit w.params es_LIMITS.toList)
    {tk_LIMITS_0 : Tok} (d_LIMITS_0 : PySem.W.nsIn K b_LIMITS "beats" = some (some (.int 400 tk_LIMITS_0)))
    {tk_LIMITS_1 : Tok} (d_LIMITS_1 : PySem.W.nsIn K b_LIMITS "guests" = some (some (.int 600 tk_LIMITS_1)))
    {tk_LIMITS_2 : Tok} (d_LIMITS_2 : PySem.W.nsIn K b_LIMITS "late" = some (some (.int 12 tk_LIMITS_2)))
    (b_ValueError : PySem.W.nsIn K mainGlobals "ValueError" = some none)
    (b_abs : PySem.W.nsIn K mainGlobals "abs" = some none)
    (b_bool : PySem.W.nsIn K mainGlobals "bool" = some none)
    (b_dict : PySem.W.nsIn K mainGlobals "dict" = some none)
    (b_int : PySem.W.nsIn K mainGlobals "int" = some none)
    (b_isinstance : PySem.W.nsIn K mainGlobals "isinstance" = some none)
    (b_len : PySem.W.nsIn K mainGlobals "len" = some none)
    (b_list : PySem.W.nsIn K mainGlobals "list" = some none)
    (b_max : PySem.W.nsIn K mainGlobals "max" = some none)
    (b_range : PySem.W.nsIn K mainGlobals "range" = some none)
    (b_str : PySem.W.nsIn K mainGlobals "str" = some none)
    (b_sum : PySem.W.nsIn K mainGlobals "sum" = some none)
    (b_tuple : PySem.W.nsIn K mainGlobals "tuple" = some none)
    : LamX.LawAtS l w K (L2.CX l.prog w) 9 63 "script" mg fa h := by
  let c : Cg := ⟨K, mg, ciT⟩
  have D__law_draw := defF_mk (c := c) (ps := p__law_draw) X G a__law_draw l__law_draw c__law_draw k__law_draw fun _ _ _ _ _ _ us hl => match us, hl with | [_, _], _ => rfl
  have D__law_matches := defF_mk (c := c) (ps := p__law_matches) X G a__law_matches l__law_matches c__law_matches k__law_matches fun _ _ _ _ _ _ us hl => match us, hl with | [_, _], _ => rfl
  have D_check := defF_mk (c := c) (ps := p_check) X G a_check l_check c_check k_check fun _ _ _ _ _ _ us hl => match us, hl with | [_, _], _ => rfl
  have D_late_course := defF_mk (c := c) (ps := p_late_course) X G a_late_course l_late_course c_late_course k_late_course fun _ _ _ _ _ _ us hl => match us, hl with | [_, _, _], _ => rfl
  have D__law_asked := defF_mk (c := c) (ps := p__law_asked) X G a__law_asked l__law_asked c__law_asked k__law_asked fun _ _ _ _ _ _ us hl => match us, hl with | [_], _ => rfl
  have D__law_bounds := defF_mk (c := c) (ps := p__law_bounds) X G a__law_bounds l__law_bounds c__law_bounds k__law_bounds fun _ _ _ _ _ _ us hl => match us, hl with | [_], _ => rfl
  have D__law_stock := defF_mk (c := c) (ps := p__law_stock) X G a__law_stock l__law_stock c__law_stock k__law_stock fun _ _ _ _ _ _ us hl => match us, hl with | [_, _], _ => rfl
  have D__law_late_due := defF_mk (c := c) (ps := p__law_late_due) X G a__law_late_due l__law_late_due c__law_late_due k__law_late_due fun _ _ _ _ _ _ us hl => match us, hl with | [_, _], _ => rfl
  have D__law_case := defF_mk (c := c) (ps := p__law_case) X G a__law_case l__law_case c__law_case k__law_case fun _ _ _ _ _ _ us hl => match us, hl with | [_], _ => rfl
  have D_law := defF_mk (c := c) (ps := p_law) X G a_law l_law c_law k_law fun _ _ _ _ _ _ us hl => match us, hl with | [_], _ => rfl
  have m_BadCourse : c.mg "BadCourse" = some (.ref C_BadCourse) := PySem.W.mg_of X G a_BadCourse
  have E_BadCourse : ExcF c.K C_BadCourse := excF_mk e_BadCourse eb_BadCourse es_BadCourse ex_BadCourse et_BadCourse ek_BadCourse eg_BadCourse ea_BadCourse ed_BadCourse ec_BadCourse cn ct em_BadCourse
  have m_BadKitchen : c.mg "BadKitchen" = some (.ref C_BadKitchen) := PySem.W.mg_of X G a_BadKitchen
  have E_BadKitchen : ExcF c.K C_BadKitchen := excF_mk e_BadKitchen eb_BadKitchen es_BadKitchen ex_BadKitchen et_BadKitchen ek_BadKitchen eg_BadKitchen ea_BadKitchen ed_BadKitchen ec_BadKitchen cn ct em_BadKitchen
  have m_LiftedError : c.mg "LiftedError" = some (.ref C_LiftedError) := PySem.W.mg_of X G a_LiftedError
  have E_LiftedError : ExcF c.K C_LiftedError := excF_mk e_LiftedError eb_LiftedError es_LiftedError ex_LiftedError et_LiftedError ek_LiftedError eg_LiftedError ea_LiftedError ed_LiftedError ec_LiftedError cn ct em_LiftedError
  have m_TooMany : c.mg "TooMany" = some (.ref C_TooMany) := PySem.W.mg_of X G a_TooMany
  have E_TooMany : ExcF c.K C_TooMany := excF_mk e_TooMany eb_TooMany es_TooMany ex_TooMany et_TooMany ek_TooMany eg_TooMany ea_TooMany ed_TooMany ec_TooMany cn ct em_TooMany
  have m_LIMITS : c.mg "LIMITS" = some (.ref b_LIMITS) := PySem.W.mg_of X G a_LIMITS
  have B : NoG c BL := (List.forall_mem_cons.mpr ⟨PySem.W.mg_none_of X G b_ValueError, (List.forall_mem_cons.mpr ⟨PySem.W.mg_none_of X G b_abs, (List.forall_mem_cons.mpr ⟨PySem.W.mg_none_of X G b_bool, (List.forall_mem_cons.mpr ⟨PySem.W.mg_none_of X G b_dict, (List.forall_mem_cons.mpr ⟨PySem.W.mg_none_of X G b_int, (List.forall_mem_cons.mpr ⟨PySem.W.mg_none_of X G b_isinstance, (List.forall_mem_cons.mpr ⟨PySem.W.mg_none_of X G b_len, (List.forall_mem_cons.mpr ⟨PySem.W.mg_none_of X G b_list, (List.forall_mem_cons.mpr ⟨PySem.W.mg_none_of X G b_max, (List.forall_mem_cons.mpr ⟨PySem.W.mg_none_of X G b_range, (List.forall_mem_cons.mpr ⟨PySem.W.mg_none_of X G b_str, (List.forall_mem_cons.mpr ⟨PySem.W.mg_none_of X G b_sum, (List.forall_mem_cons.mpr ⟨PySem.W.mg_none_of X G b_tuple, (fun _ z => nomatch z)⟩)⟩)⟩)⟩)⟩)⟩)⟩)⟩)⟩)⟩)⟩)⟩)⟩)
  have hT : ExOk c.K c.mg exT := exOk_by (List.forall_mem_cons.mpr ⟨⟨C_BadCourse, C_BadCourse, m_BadCourse, m_BadCourse, pair_g E_BadCourse E_BadCourse s_BadCourse_BadCourse z_BadCourse_BadCourse⟩, (List.forall_mem_cons.mpr ⟨⟨C_BadCourse, C_BadKitchen, m_BadCourse, m_BadKitchen, pair_g E_BadCourse E_BadKitchen s_BadCourse_BadKitchen z_BadCourse_BadKitchen⟩, (List.forall_mem_cons.mpr ⟨⟨C_BadCourse, C_LiftedError, m_BadCourse, m_LiftedError, pair_g E_BadCourse E_LiftedError s_BadCourse_LiftedError z_BadCourse_LiftedError⟩, (List.forall_mem_cons.mpr ⟨⟨C_BadCourse, C_TooMany, m_BadCourse, m_TooMany, pair_g E_BadCourse E_TooMany s_BadCourse_TooMany z_BadCourse_TooMany⟩, (List.forall_mem_cons.mpr ⟨⟨C_TooMany, C_BadCourse, m_TooMany, m_BadCourse, pair_g E_TooMany E_BadCourse s_TooMany_BadCourse z_TooMany_BadCourse⟩, (List.forall_mem_cons.mpr ⟨⟨C_TooMany, C_BadKitchen, m_TooMany, m_BadKitchen, pair_g E_TooMany E_BadKitchen s_TooMany_BadKitchen z_TooMany_BadKitchen⟩, (List.forall_mem_cons.mpr ⟨⟨C_TooMany, C_LiftedError, m_TooMany, m_LiftedError, pair_g E_TooMany E_LiftedError s_TooMany_LiftedError z_TooMany_LiftedError⟩, (List.forall_mem_cons.mpr ⟨⟨C_TooMany, C_TooMany, m_TooMany, m_TooMany, pair_g E_TooMany E_TooMany s_TooMany_TooMany z_TooMany_TooMany⟩, (fun _ z => nomatch z)⟩)⟩)⟩)⟩)⟩)⟩)⟩)⟩) (List.forall_mem_cons.mpr ⟨⟨C_BadCourse, m_BadCourse, pair_t E_BadCourse tx_ValueError tm_ValueError s_BadCourse_ValueError⟩, (List.forall_mem_cons.mpr ⟨⟨C_TooMany, m_TooMany, pair_t E_TooMany tx_ValueError tm_ValueError s_TooMany_ValueError⟩, (fun _ z => nomatch z)⟩)⟩) (List.forall_mem_cons.mpr ⟨⟨C_BadCourse, m_BadCourse, E_BadCourse.xf, if_BadCourse_what⟩, (List.forall_mem_cons.mpr ⟨⟨C_TooMany, m_TooMany, E_TooMany.xf, if_TooMany_what⟩, (fun _ z => nomatch z)⟩)⟩)
  have LB : IniB c.K C_LiftedError := ⟨lg, lr, li⟩
  have t_LIMITS : TabOk c w b_LIMITS tab_LIMITS := tabOk_by l_LIMITS kl_LIMITS (List.forall_mem_cons.mpr ⟨⟨_, _, rfl, d_LIMITS_0⟩, (List.forall_mem_cons.mpr ⟨⟨_, _, rfl, d_LIMITS_1⟩, (List.forall_mem_cons.mpr ⟨⟨_, _, rfl, d_LIMITS_2⟩, (fun _ z => nomatch z)⟩)⟩)⟩)
  refine ⟨PySem.W.fnOf "law" "law" (defArgs st_law) (defBody st_law) (defScope st_law) .none kV_law dc_law pm_law an_law cd_law ct_law, [(cP__law_case, P__law_case), (cP__law_bounds, P__law_bounds)], spM c 1 F_law, (List.forall_mem_cons.mpr ⟨TT _ (by simp), (List.forall_mem_cons.mpr ⟨TT _ (by simp), (fun _ z => nomatch z)⟩)⟩), (List.forall_mem_cons.mpr ⟨n__law_case, (List.forall_mem_cons.mpr ⟨n__law_bounds, (fun _ z => nomatch z)⟩)⟩), (List.forall_mem_cons.mpr ⟨PySem.W.codeHd_of_K X h__law_case, (List.forall_mem_cons.mpr ⟨PySem.W.codeHd_of_K X h__law_bounds, (fun _ z => nomatch z)⟩)⟩), fun s v => .of_eq rfl, fun H a ns hn hbits hT0 hS => ?_, fun base KB GB TB => ?_⟩
  · obtain ⟨h2, e⟩ := law_true ns hn hbits
    exact law_sp (tabs := tabs0) (List.forall_mem_cons.mpr ⟨hT0 (cP__law_case, P__law_case) (by simp), (List.forall_mem_cons.mpr ⟨hT0 (cP__law_bounds, P__law_bounds) (by simp), (fun _ z => nomatch z)⟩)⟩) (by decide) hS e
  · have R_BadCourse : Ra c l.prog w base 1 "BadCourse" ["what"] := ra_mk E_BadCourse m_BadCourse ia_BadCourse it_BadCourse (ini1 (k := 0) (inF_mk il_BadCourse ic_BadCourse ik_BadCourse) rfl inS_BadCourse E_BadCourse.o LB if_BadCourse_what rfl (fun _ => ⟨_, rfl⟩) rfl m_LiftedError rfl rfl) ((inF_mk il_BadCourse ic_BadCourse ik_BadCourse).binds fun _ _ _ _ _ _ us hl => match us, hl with | [_, _], _ => rfl)
    have R_TooMany : Ra c l.prog w base 1 "TooMany" ["what"] := ra_mk E_TooMany m_TooMany ia_TooMany it_TooMany (ini1 (k := 0) (inF_mk il_TooMany ic_TooMany ik_TooMany) rfl inS_TooMany E_TooMany.o LB if_TooMany_what rfl (fun _ => ⟨_, rfl⟩) rfl m_LiftedError rfl rfl) ((inF_mk il_TooMany ic_TooMany ik_TooMany).binds fun _ _ _ _ _ _ us hl => match us, hl with | [_, _], _ => rfl)
    have G_check : Gd c l.prog w base 3 "check" 2 F_check := gd_of D_check S_check rfl rfl fun X W C Fn St Fr => d_check (k := 1) C Fn St Fr B (R_TooMany.mono (by decide)) m_LIMITS t_LIMITS
    have G_late_course : Gd c l.prog w base 4 "late_course" 3 F_late_course := gd_of D_late_course S_late_course rfl rfl fun X W C Fn St Fr => d_late_course (k := 2) C Fn St Fr B (G_check.mono (by decide)) (R_BadCourse.mono (by decide))
    have O : CloOk c l.prog w base CB 4 := ⟨fun i J e => by
      match i, e with
      | 0, e => cases e; exact ⟨cloSB_ok (by decide +kernel) fun _ _ _ _ => rfl, fun X W C => l_0 C B (G_late_course.mono (by decide))⟩
      | 1, e => cases e; exact ⟨cloSB_ok (by decide +kernel) fun _ _ _ _ => rfl, fun X W C => l_1 C B (G_late_course.mono (by decide))⟩
      | n + 2, e => cases e⟩
    have G__law_draw : Gd c l.prog w base 2 "_law_draw" 2 F__law_draw := gd_of D__law_draw S__law_draw rfl rfl fun X W C Fn St Fr => d__law_draw (k := 0) C Fn St Fr B
    have G__law_matches : Gd c l.prog w base 7 "_law_matches" 2 F__law_matches := gd_rec2 (k := 0) D__law_matches rfl (fun _ _ => rfl) (fun j G__law_matches => gd_of D__law_matches S__law_matches rfl rfl fun X W C Fn St Fr => d__law_matches (k := j + 0) C Fn St Fr B hT G__law_matches) 6
    have G__law_asked : Gd c l.prog w base 6 "_law_asked" 1 F__law_asked := gd_of D__law_asked S__law_asked rfl rfl fun X W C Fn St Fr => d__law_asked (k := 4) C Fn St Fr B hT m_BadCourse m_BadKitchen m_LiftedError m_TooMany (O.mono (by decide))
    have G__law_bounds : Gd c l.prog w base 8 "_law_bounds" 1 F__law_bounds := gd_ofL (q := q__law_bounds) D__law_bounds l__law_bounds c__law_bounds (TB (cP__law_bounds, P__law_bounds) (by simp)) rfl S__law_bounds rfl rfl (fun X W C Fn St Fr M => d__law_bounds (k := 6) C Fn St Fr B (G__law_draw.mono (by decide)) (G__law_matches.mono (by decide)) (G_late_course.mono (by decide)) (G__law_asked.mono (by decide)) rfl M) (.all fun us hl => match us, hl with | [_], _ => rfl)
    have G__law_stock : Gd c l.prog w base 2 "_law_stock" 2 F__law_stock := gd_of D__law_stock S__law_stock rfl rfl fun X W C Fn St Fr => d__law_stock (k := 0) C Fn St Fr B
    have G__law_late_due : Gd c l.prog w base 2 "_law_late_due" 2 F__law_late_due := gd_of D__law_late_due S__law_late_due rfl rfl fun X W C Fn St Fr => d__law_late_due (k := 0) C Fn St Fr B
    have G__law_case : Gd c l.prog w base 8 "_law_case" 1 F__law_case := gd_ofL (q := q__law_case) D__law_case l__law_case c__law_case (TB (cP__law_case, P__law_case) (by simp)) rfl S__law_case rfl rfl (fun X W C Fn St Fr M => d__law_case (k := 6) C Fn St Fr B (G__law_draw.mono (by decide)) (G__law_late_due.mono (by decide)) (G_late_course.mono (by decide)) (G__law_matches.mono (by decide)) (G__law_asked.mono (by decide)) rfl M) (.all fun us hl => match us, hl with | [_], _ => rfl)
    have e := hfa.symm.trans (PySem.W.mg_of X G a_law)
    cases e
    exact fnD_of (c := c) (k := 8) D_law S_law rfl rfl fun X W C Fn St Fr => d_law (k := 7) C Fn St Fr B (G__law_case.mono (by decide)) (G__law_stock.mono (by decide)) (G__law_bounds.mono (by decide))
end MM.K14

namespace MM.K14
open PySem PySem.Spec PyProof.Rows L2
abbrev tooMany (x : Str) : Exn := ⟨"TooMany", [("what", .str x)]⟩
abbrev badCourse (x : Str) : Exn := ⟨"BadCourse", [("what", .str x)]⟩
theorem chk1 (n : Int) (h : HS) : F_check [.d (.str "beats"), .d (.int n)] h = if 400 < n then .err (tooMany "beats") h else .ok (.d .non) h := by
  by_cases q : 400 < n <;> simp [F_check, fnM_at, B_check, tabGet, tab_LIMITS, sRaise, q, List.lookup]
theorem chk2 (n : Int) (h : HS) : F_check [.d (.str "guests"), .d (.int n)] h = if 600 < n then .err (tooMany "guests") h else .ok (.d .non) h := by
  have e : ((Str.ofString "guests") == (Str.ofString "beats")) = false := by decide
  by_cases q : 600 < n <;> simp [F_check, fnM_at, B_check, tabGet, tab_LIMITS, sRaise, q, List.lookup, e]
theorem chk3 (n : Int) (h : HS) : F_check [.d (.str "late"), .d (.int n)] h = if 12 < n then .err (tooMany "late") h else .ok (.d .non) h := by
  have e : ((Str.ofString "late") == (Str.ofString "beats")) = false := by decide
  have e2 : ((Str.ofString "late") == (Str.ofString "guests")) = false := by decide
  by_cases q : 12 < n <;> simp [F_check, fnM_at, B_check, tabGet, tab_LIMITS, sRaise, q, List.lookup, e, e2]
abbrev rowD (r : List Int) : DV := .lst (r.map .int)
def SeqD (x : DV) (xs : List DV) : Prop := x = .lst xs ∨ x = .tup xs
section
variable {x : DV} {xs : List DV} (s : SeqD x xs) (h : HS)
include s
theorem SeqD.q : asQ h (.d x) = some (xs.map .d) := by rcases s with rfl | rfl <;> rfl
theorem SeqD.frz : frzQ (.d x) = some (xs.map .d) := by rcases s with rfl | rfl <;> rfl
theorem SeqD.len : fLen h (.d x) = some (.d (.int xs.length)) := by rcases s with rfl | rfl <;> simp [fLen, lenU, asQ, asT, asL]
theorem SeqD.it (i : Nat) (hi : i < xs.length) : itemU h (.d x) (.d (.int (i : Int))) = some (.d xs[i]) := item_seq (s.q h) i hi
theorem SeqD.itO (i : Nat) (hi : i < xs.length) : oItem h (.d x) (.d (.int (i : Int))) = some (.d xs[i]) := item_seqO (s.q h) i hi
end
def tot (bk : List (List Int)) : Nat := (bk.map List.length).sum
theorem sum_len (bk : List (List Int)) : (bk.map fun r => (r.length : Int)).sum = (tot bk : Int) := by
  induction bk with
  | nil => rfl
  | cons r bk ih => simp only [List.map_cons, List.sum_cons, tot] at ih ⊢; rw [ih]; simp
theorem sumlen {x : DV} {bk : List (List Int)} (s : SeqD x (bk.map rowD)) (hl : bk.length ≤ 1000) {m : ME} {td : Nat} {σ : SL} {h : HS} (e0 : m σ h = .ok (.d x) h) (e1 : ∀ u, ((wipeU σ [td]).set td (some u))[td]? = some (some u)) : mUn fSum (mComp m (tdN td) [td] mYes (mUn fLen (mVar td))) σ h = .ok (.d (.int (tot bk))) h := by
  have ec := compE_fm (f := turnC (tdN td) [td] mYes (mUn fLen (mVar td)) σ) (h := h) (fun r : List Int => UV.d (rowD r)) (fun r => some (.d (.int r.length))) (xs := bk) (by have := size1000; omega) fun r _ => by
    have : mUn fLen (mVar td) ((wipeU σ [td]).set td (some (.d (rowD r)))) h = .ok (.d (.int r.length)) h := by
      rw [mUn_at, mVar_at, e1]
      simp
    simp only [turnC, tdN, mYes]
    rw [this]
  have fq := s.frz
  rw [List.map_map] at fq
  rw [mUn_at, mComp_at e0 fq]
  show bindM (compE _ (bk.map fun r : List Int => UV.d (rowD r)) h) _ = _
  rw [ec, List.filterMap_eq_map', ← sum_len]
  have := fSum_own h (bk.map fun r => (r.length : Int))
  unfold oI at this
  rw [List.map_map] at this
  show ofO (fSum h _) h = _
  rw [show (fun r : List Int => UV.d (.int r.length)) = (fun i => UV.d (.int i)) ∘ fun r : List Int => (r.length : Int) from rfl, this]
  rfl
end MM.K14

namespace MM.K14
open PySem PySem.Spec PyProof.Rows L2
def pre (bk : List (List Int)) (i : Nat) : Nat := tot (bk.take i)
theorem tot_app (a b : List (List Int)) : tot (a ++ b) = tot a + tot b := by simp [tot]
theorem pre_succ (bk : List (List Int)) (i : Nat) (hi : i < bk.length) : pre bk (i + 1) = pre bk i + bk[i].length := by
  unfold pre
  rw [List.take_succ, List.getElem?_eq_getElem hi, Option.toList_some, tot_app]
  simp [tot]
theorem pre_all (bk : List (List Int)) : pre bk bk.length = tot bk := by unfold pre; rw [List.take_length]
theorem pre_zero (bk : List (List Int)) : pre bk 0 = 0 := rfl
/-- the guests in order: beat and wish -/
def flat : Nat → List (List Int) → List (Int × Int)
  | _, [] => []
  | k, r :: bk => (r.map fun w => ((k : Int), w)) ++ flat (k + 1) bk
theorem flat_len : ∀ (k : Nat) (bk : List (List Int)), (flat k bk).length = tot bk
  | _, [] => rfl
  | k, r :: bk => by rw [flat, List.length_append, List.length_map, flat_len (k + 1) bk]; simp [tot]
theorem flat_get : ∀ (k : Nat) (bk : List (List Int)) (i j : Nat) (hi : i < bk.length) (hj : j < bk[i].length), (flat k bk)[pre bk i + j]? = some (((k + i : Nat) : Int), bk[i][j])
  | _, [], i, j, hi, _ => by simp at hi
  | k, r :: bk, 0, j, hi, hj => by
    have hj' : j < r.length := hj
    rw [pre_zero, Nat.zero_add, flat, List.getElem?_append_left (by rw [List.length_map]; exact hj'), List.getElem?_map, List.getElem?_eq_getElem hj']
    simp
  | k, r :: bk, i + 1, j, hi, hj => by
    have hi' : i < bk.length := by simpa using hi
    have e : pre (r :: bk) (i + 1) = r.length + pre bk i := by unfold pre; rw [List.take_succ_cons]; simp [tot]
    have hj' : j < bk[i].length := by simpa using hj
    have := flat_get (k + 1) bk i j hi' hj'
    rw [e, Nat.add_assoc, flat, List.getElem?_append_right (by rw [List.length_map]; omega), List.length_map, Nat.add_sub_cancel_left, this]
    simp
    omega
theorem flat_ge : ∀ (k : Nat) (bk : List (List Int)), ∀ p ∈ flat k bk, (k : Int) ≤ p.1 ∧ p.1 < (k : Int) + bk.length
  | _, [], p, hp => by cases hp
  | k, r :: bk, p, hp => by
    rcases List.mem_append.mp hp with z | z
    · obtain ⟨w, _, rfl⟩ := List.mem_map.mp z
      simp
      omega
    · have := flat_ge (k + 1) bk p z
      simp at this ⊢
      omega
/-- the walk over beats and their guests -/
theorem nested {bk : List (List Int)} {x : DV} (s : SeqD x (bk.map rowD)) (hl : bk.length ≤ 1000) {a b : Nat} {body : MS} {h : HS} (St : Nat → Option UV → Option UV → SL) (sa : ∀ m oa ob u, (St m oa ob).set a (some u) = St m (some u) ob) (sb : ∀ m oa ob u, (St m oa ob).set b (some u) = St m oa (some u))
    (s0 : ∀ m oa ob, (St m oa ob)[0]? = some (some (.d x))) (ga : ∀ m u ob, (St m (some u) ob)[a]? = some (some u))
    (hb : ∀ (i j : Nat) (hi : i < bk.length) (hj : j < bk[i].length), body (St (pre bk i + j) (some (.d (.int i))) (some (.d (.int bk[i][j])))) h = .nx (St (pre bk i + j + 1) (some (.d (.int i))) (some (.d (.int bk[i][j])))) h) (oa ob : Option UV) :
    ∃ oa' ob', sForR (mK (.int 0)) (mUn fLen (mVar 0)) (tdN a) (sFor (mBin oItem (mVar 0) (mVar a)) (tdN b) body) (St 0 oa ob) h = .nx (St (tot bk) oa' ob') h := by
  have inner : ∀ (i : Nat) (hi : i < bk.length) (ob : Option UV), ∃ ob', sFor (mBin oItem (mVar 0) (mVar a)) (tdN b) body (St (pre bk i) (some (.d (.int i))) ob) h = .nx (St (pre bk (i + 1)) (some (.d (.int i))) ob') h := fun i hi ob => by
    have e1 : mBin oItem (mVar 0) (mVar a) (St (pre bk i) (some (.d (.int i))) ob) h = .ok (.d (rowD bk[i])) h := by
      rw [mBin_at, mVar_at, s0]
      show bindM (mVar a _ h) _ = _
      rw [mVar_at, ga]
      show ofO (oItem h (.d x) (.d (.int (i : Int)))) h = _
      rw [s.itO h i (by simpa using hi)]
      simp [ofO]
    have e2 : frzQ (.d (rowD bk[i])) = some ((bk[i].map .int).map .d) := rfl
    obtain ⟨σ', h', e, ob', rfl, rfl⟩ := loop_steps (f := turnF (tdN b) body) ((bk[i].map DV.int).map UV.d) (fun j σ h' => ∃ ob, σ = St (pre bk i + j) (some (.d (.int i))) ob ∧ h' = h) (St (pre bk i) (some (.d (.int i))) ob) h ⟨ob, rfl, rfl⟩ fun j hj σ h' ⟨ob, e3, e4⟩ => by
      subst e3 e4
      have hj' : j < bk[i].length := by simpa using hj
      refine ⟨_, h', ?_, some (.d (.int bk[i][j])), rfl, rfl⟩
      simp only [turnF, tdN, List.getElem_map]
      rw [sb]
      exact hb i j hi hj'
    refine ⟨ob', ?_⟩
    rw [sFor_at e1 e2, e]
    rw [List.length_map, List.length_map, pre_succ bk i hi]
  have es := sForR_at (lo := mK (.int 0)) (hi := mUn fLen (mVar 0)) (td := tdN a) (b := sFor (mBin oItem (mVar 0) (mVar a)) (tdN b) body) (σ := St 0 oa ob) (h := h) (h1 := h) (h2 := h) (i := 0) (j := (bk.length : Int)) rfl (by
    rw [mUn_at, mVar_at, s0]
    show bindM (.ok (UV.d x) h) _ = _
    rw [bindM_ok, s.len h, List.length_map]; rfl) (by omega)
  rw [es, show ((bk.length : Int) - 0).toNat = bk.length from by omega]
  obtain ⟨σ', h', e, oa', ob', rfl, rfl⟩ := range_steps (f := turnF (tdN a) (sFor (mBin oItem (mVar 0) (mVar a)) (tdN b) body)) bk.length (fun i σ h' => ∃ oa ob, σ = St (pre bk i) oa ob ∧ h' = h) (St 0 oa ob) h ⟨oa, ob, rfl, rfl⟩ fun i hi σ h' ⟨oa, ob, e3, e4⟩ => by
    subst e3 e4
    obtain ⟨ob', e⟩ := inner i hi ob
    refine ⟨_, h', ?_, some (.d (.int i)), ob', rfl, rfl⟩
    simp only [turnF, tdN]
    rw [sa]
    exact e
  rw [pre_all] at e
  exact ⟨oa', ob', e⟩
end MM.K14

namespace MM.K14
open PySem PySem.Spec PyProof.Rows L2
def cs (bk : List (List Int)) (ds : List Int) : List (Int × Int) := List.zipWith (fun g d => (g.1 + d, g.2)) (flat 0 bk) ds
abbrev pD (p : Int × Int) : DV := .tup [.int p.1, .int p.2]
theorem cs_len (bk : List (List Int)) (ds : List Int) (hd : ds.length = tot bk) : (cs bk ds).length = tot bk := by
  unfold cs; rw [List.length_zipWith, flat_len, hd, Nat.min_self]
theorem cs_get (bk : List (List Int)) (ds : List Int) (hd : ds.length = tot bk) (i j : Nat) (hi : i < bk.length) (hj : j < bk[i].length) : ∃ hm : pre bk i + j < ds.length, (cs bk ds)[pre bk i + j]? = some ((i : Int) + ds[pre bk i + j], bk[i][j]) := by
  have e := flat_get 0 bk i j hi hj
  have hm : pre bk i + j < ds.length := by
    have := (List.getElem?_eq_some_iff.mp e).1
    rw [flat_len] at this
    omega
  refine ⟨hm, ?_⟩
  unfold cs
  rw [List.getElem?_zipWith, e, List.getElem?_eq_getElem hm]
  simp
theorem cs_take (bk : List (List Int)) (ds : List Int) (m : Nat) {p : Int × Int} (h : (cs bk ds)[m]? = some p) : (cs bk ds).take (m + 1) = (cs bk ds).take m ++ [p] := by
  rw [List.take_succ, h]; rfl
@[simp] theorem fLen_own (h : HS) (xs : List UV) : fLen h (.own xs) = some (.d (.int xs.length)) := by
  simp [fLen, lenU, asQ, asT, asL]
theorem comings {bk : List (List Int)} {ds : List Int} {x y : DV} (sx : SeqD x (bk.map rowD)) (sy : SeqD y (ds.map .int)) (hl : bk.length ≤ 1000) (ht : tot bk ≤ 600) (hd : ds.length = tot bk) (late : Int) (o4 : Option UV) (h : HS) :
    ∃ o6 o7, sForR (mK (.int 0)) (mUn fLen (mVar 0)) (tdN 6) (sFor (mBin oItem (mVar 0) (mVar 6)) (tdN 7) (sApp true (pVar 5) (mTup (aCons (mBin oAdd (mVar 6) (mBin itemU (mVar 1) (mUn fLen (mVar 5)))) (aCons (mVarE 7) aNil))))) [some (.d x), some (.d y), some (.d (.int late)), none, o4, some (.own []), none, none, none, none] h =
      .nx [some (.d x), some (.d y), some (.d (.int late)), none, o4, some (.own ((cs bk ds).map fun p => .d (pD p))), o6, o7, none, none] h := by
  have key := nested sx hl (a := 6) (b := 7) (h := h) (body := sApp true (pVar 5) (mTup (aCons (mBin oAdd (mVar 6) (mBin itemU (mVar 1) (mUn fLen (mVar 5)))) (aCons (mVarE 7) aNil))))
    (fun m oa ob => [some (.d x), some (.d y), some (.d (.int late)), none, o4, some (.own (((cs bk ds).take m).map fun p => .d (pD p))), oa, ob, none, none]) (fun _ _ _ _ => rfl) (fun _ _ _ _ => rfl) (fun _ _ _ => rfl) (fun _ _ _ => rfl) (fun i j hi hj => by
      obtain ⟨hm, e⟩ := cs_get bk ds hd i j hi hj
      have hc : pre bk i + j < (cs bk ds).length := by rw [cs_len _ _ hd]; omega
      have it : itemU h (.d y) (.d (.int ((pre bk i + j : Nat) : Int))) = some (.d (.int ds[pre bk i + j])) := by
        have := sy.it h (pre bk i + j) (by rw [List.length_map]; exact hm)
        rw [List.getElem_map] at this
        exact this
      generalize pre bk i + j = m at hm e hc it
      have hz : min m (cs bk ds).length < sizeLine := by have := size1000; omega
      have e5 : min m (cs bk ds).length = m := by omega
      rw [cs_take _ _ _ e]
      simp [sApp, lstAt, pVar, plU, getP, firm, nxP, setP, it, e5]
      have := size1000
      omega) none none
  obtain ⟨o6, o7, e⟩ := key
  refine ⟨o6, o7, ?_⟩
  rw [show (cs bk ds).take (tot bk) = cs bk ds from by rw [← cs_len _ _ hd, List.take_length]] at e
  exact e
end MM.K14

namespace MM.K14
open PySem PySem.Spec PyProof.Rows L2
/-- the table of the wishes by beat -/
def tab (n : Nat) (cs : List (Int × Int)) : List (List Int) := (List.range n).map fun (t : Nat) => (cs.filter fun p => p.1 == (t : Int)).map (·.2)
def Lx (n : Nat) (cs : List (Int × Int)) : Nat := cs.foldl (fun m p => max m (p.1.toNat + 1)) n
theorem lmax_fold : ∀ (l : List Int) (n : Int), lmax (n :: l) = l.foldl max n
  | [], n => rfl
  | y :: r, n => by
    rw [show lmax (n :: y :: r) = max n (lmax (y :: r)) from rfl, lmax_fold r y]
    have : ∀ (l : List Int) (a b : Int), max a (l.foldl max b) = l.foldl max (max a b) := fun l => by
      induction l with
      | nil => intro a b; rfl
      | cons z l ih => intro a b; rw [List.foldl_cons, ih, List.foldl_cons, Int.max_assoc]
    rw [this, List.foldl_cons]
theorem lmax_Lx : ∀ (cs : List (Int × Int)) (n : Nat), (∀ p ∈ cs, 0 ≤ p.1) → (cs.map fun p => p.1 + 1).foldl max (n : Int) = (Lx n cs : Int)
  | [], n, _ => rfl
  | p :: cs, n, hp => by
    have h0 := hp p List.mem_cons_self
    rw [List.map_cons, List.foldl_cons, show max (n : Int) (p.1 + 1) = ((max n (p.1.toNat + 1) : Nat) : Int) from by omega, lmax_Lx cs _ fun q hq => hp q (List.mem_cons_of_mem _ hq)]
    rfl
theorem Lx_bound (B : Nat) : ∀ (cs : List (Int × Int)) (n : Nat), n ≤ B → (∀ p ∈ cs, p.1.toNat + 1 ≤ B) → Lx n cs ≤ B
  | [], n, h, _ => h
  | p :: cs, n, h, hp => Lx_bound B cs (max n (p.1.toNat + 1)) (by have := hp p List.mem_cons_self; omega) fun q hq => hp q (List.mem_cons_of_mem _ hq)
theorem cs_bound (bk : List (List Int)) (ds : List Int) {late : Int} (h : ∀ d ∈ ds, 0 ≤ d ∧ d ≤ late) : ∀ p ∈ cs bk ds, 0 ≤ p.1 ∧ p.1 < bk.length + late := fun p hp => by
  unfold cs at hp
  obtain ⟨i, hi, rfl⟩ := List.getElem_of_mem hp
  rw [List.getElem_zipWith]
  rw [List.length_zipWith] at hi
  have h1 := flat_ge 0 bk _ (List.getElem_mem (show i < (flat 0 bk).length by omega))
  have h2 := h _ (List.getElem_mem (show i < ds.length by omega))
  simp at h1 ⊢
  omega
theorem mUn_ok {g : HS → UV → Option UV} {m : ME} {σ : SL} {h h1 : HS} {u v : UV} (e : m σ h = .ok u h1) (e2 : g h1 u = some v) : mUn g m σ h = .ok v h1 := by
  rw [mUn_at, e, bindM_ok, e2]; rfl
theorem mBin_ok {g : HS → UV → UV → Option UV} {m n : ME} {σ : SL} {h h1 h2 : HS} {u v w : UV} (e : m σ h = .ok u h1) (e1 : n σ h1 = .ok v h2) (e2 : g h2 u v = some w) : mBin g m n σ h = .ok w h2 := by
  rw [mBin_at, e, bindM_ok, e1, bindM_ok, e2]; rfl
theorem oAdd_oI (h : HS) (xs ys : List Int) (hl : xs.length + ys.length ≤ sizeLine) : oAdd h (oI xs) (oI ys) = some (oI (xs ++ ys)) := by
  unfold oAdd
  simp [asM, asL, hl]
theorem fMax_oI (h : HS) (x : Int) (xs : List Int) : fMax h (oI (x :: xs)) = some (.d (.int (lmax (x :: xs)))) := by
  unfold fMax
  show (match (some ((x :: xs).map fun i => UV.d (.int i))).bind (mapO uInt) with
    | some (n :: ns) => _
    | _ => _) = _
  rw [Option.bind_some, mapO_ints]
/-- max([len(bookings)] + [c[0] + 1 for c in comings]) -/
theorem many_ok {x : DV} {bk : List (List Int)} (sx : SeqD x (bk.map rowD)) (c : List (Int × Int)) (hc : c.length ≤ 600) (hp : ∀ p ∈ c, 0 ≤ p.1) (o1 o2 o3 o4 o6 o7 o8 o9 : Option UV) (h : HS) :
    mUn fMax (mBin oAdd (mLst (aCons (mUn fLen (mVar 0)) aNil)) (mComp (mVarE 5) (tdN 9) [9] mYes (mBin oAdd (mBin oItem (mVar 9) (mK (.int 0))) (mK (.int 1))))) [some (.d x), o1, o2, o3, o4, some (.d (.lst (c.map pD))), o6, o7, o8, o9] h = .ok (.d (.int (Lx bk.length c))) h := by
  have ec := compE_fm (f := turnC (tdN 9) [9] mYes (mBin oAdd (mBin oItem (mVar 9) (mK (.int 0))) (mK (.int 1))) [some (.d x), o1, o2, o3, o4, some (.d (.lst (c.map pD))), o6, o7, o8, o9]) (h := h) (fun p => UV.d (pD p)) (fun p => some (.d (.int (p.1 + 1)))) (xs := c) (by have := size1000; omega) fun p _ => by
    have i0 : oItem h (.d (pD p)) (.d (.int 0)) = some (.d (.int p.1)) := rfl
    simp [turnC, tdN, mYes, wipeU, i0]
  have fq : frzQ (.d (.lst (c.map pD))) = some (c.map fun p => UV.d (pD p)) := by
    simp only [frzQ, List.map_map]; rfl
  have e2 := (mComp_at (mi := mVarE 5) (td := tdN 9) (ss := [9]) (cond := mYes) (me := mBin oAdd (mBin oItem (mVar 9) (mK (.int 0))) (mK (.int 1))) (σ := [some (.d x), o1, o2, o3, o4, some (.d (.lst (c.map pD))), o6, o7, o8, o9]) (h := h) (x := .d (.lst (c.map pD))) (us := c.map fun p => UV.d (pD p)) (h1 := h) rfl fq).trans ec
  have e1 : mLst (aCons (mUn fLen (mVar 0)) aNil) [some (.d x), o1, o2, o3, o4, some (.d (.lst (c.map pD))), o6, o7, o8, o9] h = .ok (oI [(bk.length : Int)]) h := by
    have := sx.len h
    rw [List.length_map] at this
    simp [this]
  have fm : c.filterMap (fun p => some (UV.d (.int (p.1 + 1)))) = (c.map fun p => p.1 + 1).map fun i => UV.d (.int i) := by
    rw [List.filterMap_eq_map', List.map_map]; rfl
  rw [fm] at e2
  refine mUn_ok (mBin_ok e1 e2 (oAdd_oI h _ _ (by simp; have := size1000; omega))) ?_
  rw [List.cons_append, List.nil_append, fMax_oI, lmax_fold, lmax_Lx _ _ hp]
end MM.K14

namespace MM.K14
open PySem PySem.Spec PyProof.Rows L2
theorem fm_filter (c : List (Int × Int)) (t : Int) : c.filterMap (fun p => if (p.1 == t) = true then some (UV.d (.int p.2)) else none) = ((c.filter fun p => p.1 == t).map (·.2)).map fun i => UV.d (.int i) := by
  induction c with
  | nil => rfl
  | cons p c ih =>
    by_cases q : (p.1 == t) = true
    · rw [List.filterMap_cons, if_pos q, List.filter_cons, if_pos q, List.map_cons, List.map_cons, ih]
    · rw [List.filterMap_cons, if_neg q, List.filter_cons, if_neg q, ih]
theorem row_ok (c : List (Int × Int)) (hc : c.length ≤ 600) (t : Int) (o0 o1 o2 o3 o4 o7 o8 o9 : Option UV) (h : HS) :
    mComp (mVarE 5) (tdN 9) [9] (mTst (mBin (oEq false) (mBin oItem (mVar 9) (mK (.int 0))) (mVar 6))) (mBin oItem (mVar 9) (mK (.int 1))) [o0, o1, o2, o3, o4, some (.d (.lst (c.map pD))), some (.d (.int t)), o7, o8, o9] h = .ok (oI ((c.filter fun p => p.1 == t).map (·.2))) h := by
  have fq : frzQ (.d (.lst (c.map pD))) = some (c.map fun p => UV.d (pD p)) := by
    simp only [frzQ, List.map_map]; rfl
  rw [mComp_at (x := .d (.lst (c.map pD))) (us := c.map fun p => UV.d (pD p)) (h1 := h) rfl fq]
  have ec := compE_fm (f := turnC (tdN 9) [9] (mTst (mBin (oEq false) (mBin oItem (mVar 9) (mK (.int 0))) (mVar 6))) (mBin oItem (mVar 9) (mK (.int 1))) [o0, o1, o2, o3, o4, some (.d (.lst (c.map pD))), some (.d (.int t)), o7, o8, o9]) (h := h) (fun p => UV.d (pD p)) (fun p => if (p.1 == t) = true then some (.d (.int p.2)) else none) (xs := c) (by have := size1000; omega) fun p _ => by
    have i0 : oItem h (.d (pD p)) (.d (.int 0)) = some (.d (.int p.1)) := rfl
    have i1 : oItem h (.d (pD p)) (.d (.int 1)) = some (.d (.int p.2)) := rfl
    by_cases q : p.1 = t
    · simp [turnC, tdN, wipeU, i0, i1, oEq_int, q]
    · have q' : (p.1 == t) = false := by simpa using q
      simp [turnC, tdN, wipeU, i0, i1, oEq_int, q']
  rw [ec, fm_filter]
theorem rows_ok (c : List (Int × Int)) (hc : c.length ≤ 600) (n : Nat) (hn : n ≤ 1000) (o0 o1 o2 o3 o4 o6 o7 o9 : Option UV) (h : HS) :
    mCompR (mK (.int 0)) (mVar 8) (tdN 6) [6] mYes (mComp (mVarE 5) (tdN 9) [9] (mTst (mBin (oEq false) (mBin oItem (mVar 9) (mK (.int 0))) (mVar 6))) (mBin oItem (mVar 9) (mK (.int 1)))) [o0, o1, o2, o3, o4, some (.d (.lst (c.map pD))), o6, o7, some (.d (.int n)), o9] h = .ok (.own ((tab n c).map oI)) h := by
  rw [mCompR_at (i := 0) (j := (n : Int)) (h1 := h) (h2 := h) rfl rfl (by omega), show ((n : Int) - 0).toNat = n from by omega]
  have ec := compE_fm (f := turnC (tdN 6) [6] mYes (mComp (mVarE 5) (tdN 9) [9] (mTst (mBin (oEq false) (mBin oItem (mVar 9) (mK (.int 0))) (mVar 6))) (mBin oItem (mVar 9) (mK (.int 1)))) [o0, o1, o2, o3, o4, some (.d (.lst (c.map pD))), o6, o7, some (.d (.int n)), o9]) (h := h) (fun t : Nat => UV.d (.int (0 + (t : Int)))) (fun t => some (oI ((c.filter fun p => p.1 == (t : Int)).map (·.2)))) (xs := List.range n) (by rw [List.length_range]; have := size1000; omega) fun t _ => by
    have := row_ok c hc (0 + (t : Int)) o0 o1 o2 o3 o4 o7 (some (.d (.int n))) o9 h
    simp only [turnC, tdN, mYes, wipeU]
    show (match mComp _ _ _ _ _ [o0, o1, o2, o3, o4, some (.d (.lst (c.map pD))), some (.d (.int (0 + (t : Int)))), o7, some (.d (.int n)), o9] h with
      | .ok y h2 => _
      | _ => _) = _
    rw [this, Int.zero_add]
  unfold rangeU
  rw [ec, List.filterMap_eq_map', tab, List.map_map]
  rfl
end MM.K14

namespace MM.K14
open PySem PySem.Spec PyProof.Rows L2
theorem fnM_ex {N : Nat} {b : MS} {us : List UV} {h h' : HS} {e : Exn} {σ' : SL} (q : b (us.map some ++ List.replicate (N - us.length) none) h = .ex e σ' h') : fnM N b us h = .err e h' := by
  rw [fnM_at, q]
theorem sSeq_ex {a b : MS} {σ σ1 : SL} {h h1 : HS} {e : Exn} (q : a σ h = .ex e σ1 h1) : sSeq a b σ h = .ex e σ1 h1 := by
  rw [sSeq_at, q]; rfl
theorem sGh_at {g : GH} {ms : MS} {σ σ' : SL} {h h' : HS} (e : g σ h = some (σ', h')) : sGh g ms σ h = ms σ' h' := by
  unfold sGh; rw [e]
abbrev dlB : MS := sIf (mOr (mTst (mBin cLt (mVar 4) (mK (.int 0)))) (mTst (mBin cGt (mVar 4) (mVar 2)))) (sRaise "BadCourse" ["what"] (aCons (mK (.str "delay")) aNil)) sPass
abbrev S4 (x y : DV) (late : Int) (o4 : Option UV) : SL := [some (.d x), some (.d y), some (.d (.int late)), none, o4, none, none, none, none, none]
theorem dl_turn (x y : DV) (late d : Int) (o4 : Option UV) (h : HS) : turnF (tdN 4) dlB (.d (.int d)) (S4 x y late o4) h = if 0 ≤ d ∧ d ≤ late then .nx (S4 x y late (some (.d (.int d)))) h else .ex (badCourse "delay") (S4 x y late (some (.d (.int d)))) h := by
  by_cases q1 : d < 0
  · have : ¬ (0 ≤ d ∧ d ≤ late) := by omega
    simp [turnF, tdN, q1, this, sRaise]
  · by_cases q2 : late < d
    · have : ¬ (0 ≤ d ∧ d ≤ late) := by omega
      simp [turnF, tdN, q1, q2, this, sRaise]
    · have : 0 ≤ d ∧ d ≤ late := by omega
      simp [turnF, tdN, q1, q2, this]
theorem dl_loop (x y : DV) (late : Int) (h : HS) : ∀ (ds : List Int) (o4 : Option UV), (∃ o4', (∀ d ∈ ds, 0 ≤ d ∧ d ≤ late) ∧ loopL (turnF (tdN 4) dlB) (ds.map fun d => .d (.int d)) (S4 x y late o4) h = .nx (S4 x y late o4') h) ∨ ((¬ ∀ d ∈ ds, 0 ≤ d ∧ d ≤ late) ∧ ∃ σ', loopL (turnF (tdN 4) dlB) (ds.map fun d => .d (.int d)) (S4 x y late o4) h = .ex (badCourse "delay") σ' h)
  | [], o4 => .inl ⟨o4, (fun _ z => nomatch z), rfl⟩
  | d :: ds, o4 => by
    have e := dl_turn x y late d o4 h
    by_cases q : 0 ≤ d ∧ d ≤ late
    · rw [if_pos q] at e
      rcases dl_loop x y late h ds (some (.d (.int d))) with ⟨o, a, b⟩ | ⟨a, σ', b⟩
      · exact .inl ⟨o, fun z hz => (List.mem_cons.mp hz).elim (fun e => e ▸ q) (a z), (loopL_nx e).trans b⟩
      · exact .inr ⟨fun w => a fun z hz => w z (List.mem_cons_of_mem _ hz), σ', (loopL_nx e).trans b⟩
    · rw [if_neg q] at e
      refine .inr ⟨fun w => q (w d List.mem_cons_self), S4 x y late (some (.d (.int d))), ?_⟩
      rw [List.map_cons, loopL, e]
theorem dl_for {x y : DV} {ds : List Int} (sy : SeqD y (ds.map .int)) (late : Int) (h : HS) : sFor (mVarE 1) (tdN 4) dlB (S4 x y late none) h = loopL (turnF (tdN 4) dlB) (ds.map fun d => .d (.int d)) (S4 x y late none) h := by
  have fq := sy.frz
  rw [List.map_map] at fq
  exact sFor_at (u := .d y) (h1 := h) rfl fq
variable {bk : List (List Int)} {ds : List Int} {x y : DV} (sx : SeqD x (bk.map rowD)) (sy : SeqD y (ds.map .int)) (late : Int) (h : HS)
include sx
theorem lc1 (q : 400 < bk.length) : F_late_course [.d x, .d y, .d (.int late)] h = .err (tooMany "beats") h := by
  have l := sx.len h
  rw [List.length_map] at l
  have q' : (400 : Int) < (bk.length : Int) := by omega
  refine fnM_ex (σ' := S4 x y late none) (sSeq_ex ?_)
  simp [l, chk1, q']
theorem lc1n (q : ¬ 400 < bk.length) : sDrop (mCall F_check (aCons (mK (.str "beats")) (aCons (mUn fLen (mVar 0)) aNil))) (S4 x y late none) h = .nx (S4 x y late none) h := by
  have l := sx.len h
  rw [List.length_map] at l
  have q' : ¬ (400 : Int) < (bk.length : Int) := by omega
  simp [l, chk1, q']
theorem lc2n (q : ¬ 400 < bk.length) : sDrop (mCall F_check (aCons (mK (.str "guests")) (aCons (mUn fSum (mComp (mVarE 0) (tdN 3) [3] mYes (mUn fLen (mVar 3)))) aNil))) (S4 x y late none) h = if 600 < tot bk then .ex (tooMany "guests") (S4 x y late none) h else .nx (S4 x y late none) h := by
  have l := sumlen sx (by omega) (m := mVarE 0) (td := 3) (σ := S4 x y late none) (h := h) rfl (fun _ => rfl)
  rw [sDrop_at, mCall_at, aCons_at]
  show bindS (bindM (bindM (aCons _ _ _ h) _) _) _ _ = _
  rw [aCons_at, l]
  by_cases q : 600 < tot bk
  · have q' : (600 : Int) < (tot bk : Int) := by omega
    simp [chk2, q, q']
  · have q' : ¬ (600 : Int) < (tot bk : Int) := by omega
    simp [chk2, q, q']
theorem lc2 (q1 : ¬ 400 < bk.length) (q2 : 600 < tot bk) : F_late_course [.d x, .d y, .d (.int late)] h = .err (tooMany "guests") h := by
  refine fnM_ex (σ' := S4 x y late none) ((sSeq_nx (lc1n sx late h q1)).trans (sSeq_ex ?_))
  rw [lc2n sx late h q1, if_pos q2]
omit sx in
theorem lc3n : sDrop (mCall F_check (aCons (mK (.str "late")) (aCons (mVarE 2) aNil))) (S4 x y late none) h = if 12 < late then .ex (tooMany "late") (S4 x y late none) h else .nx (S4 x y late none) h := by
  by_cases q : 12 < late <;> simp [chk3, q]
theorem lc3 (q1 : ¬ 400 < bk.length) (q2 : ¬ 600 < tot bk) (q3 : 12 < late) : F_late_course [.d x, .d y, .d (.int late)] h = .err (tooMany "late") h := by
  refine fnM_ex (σ' := S4 x y late none) ((sSeq_nx (lc1n sx late h q1)).trans ((sSeq_nx (σ1 := S4 x y late none) (h1 := h) ?_).trans (sSeq_ex ?_)))
  · rw [lc2n sx late h q1, if_neg q2]
  · rw [lc3n, if_pos q3]
include sy
theorem lc4n (q : ¬ 400 < bk.length) : sIf (mTst (mBin (oEq true) (mUn fLen (mVar 1)) (mUn fSum (mComp (mVarE 0) (tdN 3) [3] mYes (mUn fLen (mVar 3)))))) (sRaise "BadCourse" ["what"] (aCons (mK (.str "delay")) aNil)) sPass (S4 x y late none) h = if ds.length = tot bk then .nx (S4 x y late none) h else .ex (badCourse "delay") (S4 x y late none) h := by
  have l := sumlen sx (by omega) (m := mVarE 0) (td := 3) (σ := S4 x y late none) (h := h) rfl (fun _ => rfl)
  have l2 := sy.len h
  rw [List.length_map] at l2
  have e := mBin_ok (g := oEq true) (m := mUn fLen (mVar 1)) (n := mUn fSum (mComp (mVarE 0) (tdN 3) [3] mYes (mUn fLen (mVar 3)))) (σ := S4 x y late none) (h := h) (h1 := h) (mUn_ok (h1 := h) (u := .d y) rfl l2) l (oEq_int h true _ _)
  rw [sIf_at, mTst_at, e]
  by_cases q : ds.length = tot bk
  · simp [q]
  · have q' : ¬ (ds.length : Int) = (tot bk : Int) := by omega
    simp [q, q', sRaise]
theorem lc4 (q1 : ¬ 400 < bk.length) (q2 : ¬ 600 < tot bk) (q3 : ¬ 12 < late) (q4 : ¬ ds.length = tot bk) : F_late_course [.d x, .d y, .d (.int late)] h = .err (badCourse "delay") h := by
  refine fnM_ex (σ' := S4 x y late none) ((sSeq_nx (lc1n sx late h q1)).trans ((sSeq_nx (σ1 := S4 x y late none) (h1 := h) ?_).trans ((sSeq_nx (σ1 := S4 x y late none) (h1 := h) ?_).trans (sSeq_ex ?_))))
  · rw [lc2n sx late h q1, if_neg q2]
  · rw [lc3n, if_neg q3]
  · rw [lc4n sx sy late h q1, if_neg q4]
theorem lc5 (q1 : ¬ 400 < bk.length) (q2 : ¬ 600 < tot bk) (q3 : ¬ 12 < late) (q4 : ds.length = tot bk) (q5 : ¬ ∀ d ∈ ds, 0 ≤ d ∧ d ≤ late) : F_late_course [.d x, .d y, .d (.int late)] h = .err (badCourse "delay") h := by
  rcases dl_loop x y late h ds none with ⟨o, a, b⟩ | ⟨a, σ', b⟩
  · exact absurd a q5
  · refine fnM_ex (σ' := σ') ((sSeq_nx (lc1n sx late h q1)).trans ((sSeq_nx (σ1 := S4 x y late none) (h1 := h) ?_).trans ((sSeq_nx (σ1 := S4 x y late none) (h1 := h) ?_).trans ((sSeq_nx (σ1 := S4 x y late none) (h1 := h) ?_).trans (sSeq_ex ((dl_for sy late h).trans b))))))
    · rw [lc2n sx late h q1, if_neg q2]
    · rw [lc3n, if_neg q3]
    · rw [lc4n sx sy late h q1, if_pos q4]
/-- the answer -/
theorem lc_ok (q1 : ¬ 400 < bk.length) (q2 : ¬ 600 < tot bk) (q3 : ¬ 12 < late) (q4 : ds.length = tot bk) (q5 : ∀ d ∈ ds, 0 ≤ d ∧ d ≤ late) : F_late_course [.d x, .d y, .d (.int late)] h = .ok (.own ((tab (Lx bk.length (cs bk ds)) (cs bk ds)).map oI)) h := by
  rcases dl_loop x y late h ds none with ⟨o, a, b⟩ | ⟨a, σ', b⟩
  · obtain ⟨o6, o7, ec⟩ := comings sx sy (by omega) (by omega) q4 late o h
    have cl := cs_len bk ds q4
    have cb := cs_bound bk ds q5
    have Lb : Lx bk.length (cs bk ds) ≤ 1000 := Lx_bound 1000 _ _ (by omega) fun p hp => by have := cb p hp; omega
    refine fnM_rt ((sSeq_nx (lc1n sx late h q1)).trans ((sSeq_nx (σ1 := S4 x y late none) (h1 := h) ?_).trans ((sSeq_nx (σ1 := S4 x y late none) (h1 := h) ?_).trans ((sSeq_nx (σ1 := S4 x y late none) (h1 := h) ?_).trans ((sSeq_nx ((dl_for sy late h).trans b)).trans ((sSeq_nx (σ1 := [some (.d x), some (.d y), some (.d (.int late)), none, o, some (.own []), none, none, none, none]) (h1 := h) ?_).trans ((sSeq_nx ec).trans ?_)))))))
    · rw [lc2n sx late h q1, if_neg q2]
    · rw [lc3n, if_neg q3]
    · rw [lc4n sx sy late h q1, if_pos q4]
    · simp
    · have fz1 : fz (.own ((cs bk ds).map fun p => .d (pD p))) = some (.d (.lst ((cs bk ds).map pD))) := by
        have := fz_own ((cs bk ds).map pD)
        rw [List.map_map] at this
        exact this
      refine Eq.trans (sGh_at (σ' := [some (.d x), some (.d y), some (.d (.int late)), none, o, some (.d (.lst ((cs bk ds).map pD))), o6, o7, none, none]) (h' := h) ?_) ?_
      · unfold gFz
        show (fz (.own ((cs bk ds).map fun p => .d (pD p)))).map _ = _
        rw [fz1]
        rfl
      show sSeq _ _ [some (.d x), some (.d y), some (.d (.int late)), none, o, some (.d (.lst ((cs bk ds).map pD))), o6, o7, none, none] h = _
      have m := many_ok sx (cs bk ds) (by omega) (fun p hp => (cb p hp).1) (some (.d y)) (some (.d (.int late))) none o o6 o7 none none h
      refine (sSeq_nx (σ1 := [some (.d x), some (.d y), some (.d (.int late)), none, o, some (.d (.lst ((cs bk ds).map pD))), o6, o7, some (.d (.int (Lx bk.length (cs bk ds)))), none]) (h1 := h) ?_).trans ?_
      · rw [sSet_at, m]; rfl
      · rw [sRet_at, rows_ok (cs bk ds) (by omega) (Lx bk.length (cs bk ds)) Lb]
        rfl
  · exact absurd q5 a
end MM.K14

namespace MM.K14
open PySem PySem.Spec PyProof.Rows L2
theorem tab_len (l : Nat) (c : List (Int × Int)) : (tab l c).length = l := by simp [tab]
theorem tab_succ {l : Nat} {c : List (Int × Int)} (h : ∀ p ∈ c, p.1 < (l : Int)) : tab (l + 1) c = tab l c ++ [[]] := by
  have e : (c.filter fun p => p.1 == (l : Int)) = [] := by
    rw [List.filter_eq_nil_iff]
    intro p hp q
    have := h p hp
    simp at q
    omega
  unfold tab
  rw [List.range_succ, List.map_append]
  simp only [List.map_cons, List.map_nil, e]
theorem tab_get (l : Nat) (c : List (Int × Int)) (t : Nat) (ht : t < l) : (tab l c)[t]'(by rw [tab_len]; exact ht) = (c.filter fun p => p.1 == (t : Int)).map (·.2) := by
  simp [tab]
theorem tab_set {l : Nat} {c : List (Int × Int)} (q : Nat) (hq : q < l) (w : Int) : (tab l c).set q ((tab l c)[q]'(by rw [tab_len]; exact hq) ++ [w]) = tab l (c ++ [((q : Int), w)]) := by
  refine List.ext_getElem (by rw [List.length_set, tab_len, tab_len]) fun t h1 h2 => ?_
  have ht : t < l := by rw [tab_len] at h2; exact h2
  rw [tab_get l (c ++ [((q : Int), w)]) t ht, List.filter_append, List.map_append]
  by_cases e : q = t
  · subst e
    rw [List.getElem_set_self, tab_get l c q hq]
    simp
  · rw [List.getElem_set_ne e, tab_get l c t ht]
    have : ((q : Int) == (t : Int)) = false := by simp; omega
    simp [List.filter_cons, this]
theorem Lx_app (n : Nat) (c : List (Int × Int)) (p : Int × Int) : Lx n (c ++ [p]) = max (Lx n c) (p.1.toNat + 1) := by
  unfold Lx; rw [List.foldl_append]; rfl
theorem Lx_gt : ∀ (c : List (Int × Int)) (n : Nat), n ≤ Lx n c ∧ ∀ p ∈ c, 0 ≤ p.1 → p.1 < (Lx n c : Int)
  | [], n => ⟨Nat.le_refl _, fun _ z => nomatch z⟩
  | p :: c, n => by
    have ⟨h1, h2⟩ := Lx_gt c (max n (p.1.toNat + 1))
    have e : Lx n (p :: c) = Lx (max n (p.1.toNat + 1)) c := rfl
    rw [e]
    refine ⟨by omega, fun r hr h0 => ?_⟩
    rcases List.mem_cons.mp hr with rfl | z
    · omega
    · exact h2 r z h0
abbrev W7 (x y : DV) (t : List (List Int)) (m : Nat) (at_ w : Int) : SL := [some (.d x), some (.d y), some (.own (t.map oI)), none, some (.d (.int (m : Int))), some (.d (.int at_)), some (.d (.int w))]
abbrev idxE : ME := mBin oAdd (mVar 5) (mBin itemU (mVar 1) (mVar 4))
abbrev tstE : MT := mTst (mBin cLt (mUn fLen (mVar 2)) (mBin oAdd idxE (mK (.int 1))))
theorem idx_ok {y : DV} {ds : List Int} (sy : SeqD y (ds.map .int)) (x : DV) (t : List (List Int)) (m : Nat) (hm : m < ds.length) (a w : Int) (h : HS) : idxE (W7 x y t m a w) h = .ok (.d (.int (a + ds[m]))) h := by
  have it : itemU h (.d y) (.d (.int (m : Int))) = some (.d (.int ds[m])) := by
    have := sy.it h m (by rw [List.length_map]; exact hm)
    rw [List.getElem_map] at this
    exact this
  simp [it]
theorem tst_ok {y : DV} {ds : List Int} (sy : SeqD y (ds.map .int)) (x : DV) (t : List (List Int)) (m : Nat) (hm : m < ds.length) (a w : Int) (h : HS) : tstE (W7 x y t m a w) h = .ok (decide ((t.length : Int) < a + ds[m] + 1)) h := by
  have e1 : mUn fLen (mVar 2) (W7 x y t m a w) h = .ok (.d (.int (t.length : Int))) h := by simp
  have e2 := mBin_ok (g := oAdd) (idx_ok sy x t m hm a w h) (show mK (.int 1) (W7 x y t m a w) h = .ok (.d (.int 1)) h from rfl) (oAdd_int h _ _)
  have e3 := mBin_ok (g := cLt) e1 e2 (cLt_int h _ _)
  show mTst (mBin cLt (mUn fLen (mVar 2)) (mBin oAdd idxE (mK (.int 1)))) (W7 x y t m a w) h = _
  rw [mTst_at, e3]
  rfl
theorem grow {y : DV} {ds : List Int} (sy : SeqD y (ds.map .int)) (x : DV) (c : List (Int × Int)) (m : Nat) (hm : m < ds.length) (a w : Int) (h : HS) (q : Nat) (hq : a + ds[m] = (q : Int)) (L : Nat) (hc : ∀ p ∈ c, p.1 < (L : Int)) (hb : max L (q + 1) < 1000) :
    ∀ (k l fuel : Nat), L ≤ l → l + k = max L (q + 1) → k < fuel → whileF tstE (sApp true (pVar 2) (mLst aNil)) fuel (W7 x y (tab l c) m a w) h = .nx (W7 x y (tab (max L (q + 1)) c) m a w) h
  | 0, l, fuel + 1, hl, he, hf => by
    have e := tst_ok sy x (tab l c) m hm a w h
    rw [tab_len, hq, decide_eq_false (by omega)] at e
    rw [while_end e, ← he]
    rfl
  | k + 1, l, fuel + 1, hl, he, hf => by
    have e := tst_ok sy x (tab l c) m hm a w h
    rw [tab_len, hq, decide_eq_true (by omega)] at e
    have hs : l < sizeLine := by have := size1000; omega
    have e2 : sApp true (pVar 2) (mLst aNil) (W7 x y (tab l c) m a w) h = .nx (W7 x y (tab (l + 1) c) m a w) h := by
      rw [tab_succ fun p hp => by have := hc p hp; omega]
      simp [sApp, lstAt, pVar, plU, getP, firm, nxP, setP, tab_len, hs]
    rw [while_go e e2]
    exact grow sy x c m hm a w h q hq L hc hb k (l + 1) fuel (by omega) (by omega) (by omega)
theorem put_ok {y : DV} {ds : List Int} (sy : SeqD y (ds.map .int)) (x : DV) (c : List (Int × Int)) (m : Nat) (hm : m < ds.length) (a w : Int) (h : HS) (q : Nat) (hq : a + ds[m] = (q : Int)) (l : Nat) (hl : q < l) (hc : c.length ≤ 600) : sApp true (pItem (pVar 2) idxE) (mVarE 6) (W7 x y (tab l c) m a w) h = .nx (W7 x y (tab l (c ++ [((q : Int), w)])) m a w) h := by
  have e := idx_ok sy x (tab l c) m hm a w h
  rw [hq] at e
  have ht : q < (tab l c).length := by rw [tab_len]; exact hl
  have ix : ixN (tab l c).length (q : Int) = some q := by
    unfold ixN
    rw [if_pos (by omega), if_pos (by omega)]; simp
  have g2 : getP (.slot 2) (W7 x y (tab l c) m a w) h = some (.own ((tab l c).map oI)) := rfl
  have p2 : pVar 2 (W7 x y (tab l c) m a w) h = some (.slot 2) := rfl
  have gq : ((tab l c).map oI)[q]? = some (oI (tab l c)[q]) := by rw [List.getElem?_map, List.getElem?_eq_getElem ht]; rfl
  have ix2 : ixN ((tab l c).map oI).length (q : Int) = some q := by rw [List.length_map]; exact ix
  have pl : pItem (pVar 2) idxE (W7 x y (tab l c) m a w) h = some (.item (.slot 2) q) := by
    unfold pItem
    rw [p2, e]
    simp only [g2, uInt_int, ix2, gq]
    rfl
  have gI : getP (.item (.slot 2) q) (W7 x y (tab l c) m a w) h = some (oI (tab l c)[q]) := by
    show (match getP (.slot 2) (W7 x y (tab l c) m a w) h with
      | some (.own xs) => xs[q]?
      | _ => none) = _
    rw [g2]
    exact gq
  have l0 : lstAt (pItem (pVar 2) idxE) (W7 x y (tab l c) m a w) h = some (.item (.slot 2) q, (tab l c)[q].map fun i => .d (.int i)) := by
    unfold lstAt
    rw [pl]
    simp only [gI]
  have hz : (tab l c)[q].length < sizeLine := by
    rw [tab_get l c q hl, List.length_map]
    have := List.length_filter_le (fun p => p.1 == (q : Int)) c
    have := size1000
    omega
  have sp : setP (.item (.slot 2) q) (oI ((tab l c)[q] ++ [w])) (W7 x y (tab l c) m a w) h = (W7 x y (tab l (c ++ [((q : Int), w)])) m a w, h) := by
    have e8 : ((tab l c).map oI).set q (oI ((tab l c)[q] ++ [w])) = (tab l (c ++ [((q : Int), w)])).map oI := by rw [← tab_set q hl w, List.map_set]
    show ((W7 x y (tab l c) m a w).set 2 (some (.own (((tab l c).map oI).set q (oI ((tab l c)[q] ++ [w]))))), h) = _
    rw [e8]
    rfl
  unfold sApp
  rw [l0]
  show bindS (.ok (UV.d (.int w)) h) _ _ = _
  rw [bindS_ok]
  show (if _ then _ else _) = _
  rw [if_neg (fun z => nomatch (show true = false from z.2))]
  simp only [gI]
  rw [if_pos (by rw [List.length_map]; exact hz)]
  unfold nxP
  have e9 : UV.own (((tab l c)[q].map fun i => UV.d (.int i)) ++ [.d (.int w)]) = oI ((tab l c)[q] ++ [w]) := by simp [oI]
  rw [e9, sp]
end MM.K14

namespace MM.K14
open PySem PySem.Spec PyProof.Rows L2
variable {bk : List (List Int)} {ds : List Int} {x y : DV} (sx : SeqD x (bk.map rowD)) (sy : SeqD y (ds.map .int)) (late : Int) (h : HS)
theorem sAug_int {i : Nat} {g : Int → Int → Int} {m : ME} {σ : SL} {h : HS} {a b : Int} (e : σ[i]? = some (some (.d (.int a)))) (e2 : m σ h = .ok (.d (.int b)) h) : sAug i g m σ h = .nx (σ.set i (some (.d (.int (g a b))))) h := by
  unfold sAug
  rw [e]
  show bindS (m σ h) σ _ = _
  rw [e2]
  rfl
theorem whl_at {fu : SL → HS → Nat} {t : MT} {b : MS} {σ : SL} {h : HS} : sWhile fu t b σ h = whileF t b (fu σ h) σ h := rfl
include sx sy
theorem late_due (q1 : ¬ 400 < bk.length) (q2 : ¬ 600 < tot bk) (q3 : ¬ 12 < late) (q4 : ds.length = tot bk) (q5 : ∀ d ∈ ds, 0 ≤ d ∧ d ≤ late) : F__law_late_due [.d x, .d y] h = .ok (.own ((tab (Lx bk.length (cs bk ds)) (cs bk ds)).map oI)) h := by
  have cl := cs_len bk ds q4
  have cb := cs_bound bk ds q5
  have fq := sx.frz
  rw [List.map_map] at fq
  have e1 : mComp (mVarE 0) (tdN 3) [3] mYes (mLst aNil) [some (.d x), some (.d y), none, none, none, none, none] h = .ok (.own ((tab bk.length []).map oI)) h := by
    rw [mComp_at (x := .d x) (us := bk.map fun r => UV.d (rowD r)) (h1 := h) rfl fq]
    rw [compE_fm (f := turnC (tdN 3) [3] mYes (mLst aNil) [some (.d x), some (.d y), none, none, none, none, none]) (fun r => UV.d (rowD r)) (fun _ => some (.own [])) (xs := bk) (by have := size1000; omega) fun r _ => by simp [turnC, tdN, mYes]]
    have : bk.filterMap (fun _ => some (UV.own [])) = (tab bk.length []).map oI := by
      rw [List.filterMap_eq_map', tab, List.map_map]
      refine List.ext_getElem (by simp) fun i h1 h2 => by simp [oI]
    rw [this]
  have key := nested sx (by omega) (a := 5) (b := 6) (h := h) (body := sSeq (sWhile (fun _ _ => 1000000) tstE (sApp true (pVar 2) (mLst aNil))) (sSeq (sApp true (pItem (pVar 2) idxE) (mVarE 6)) (sAug 4 (fun i j => i + j) (mK (.int 1)))))
    (fun m oa ob => [some (.d x), some (.d y), some (.own ((tab (Lx bk.length ((cs bk ds).take m)) ((cs bk ds).take m)).map oI)), none, some (.d (.int (m : Int))), oa, ob]) (fun _ _ _ _ => rfl) (fun _ _ _ _ => rfl) (fun _ _ _ => rfl) (fun _ _ _ => rfl) (fun i j hi hj => by
      obtain ⟨hm, e⟩ := cs_get bk ds q4 i j hi hj
      have hc : pre bk i + j < (cs bk ds).length := by rw [cl]; omega
      generalize bk[i][j] = w at e
      generalize pre bk i + j = m at hm e hc
      have pm := cb _ (List.mem_of_getElem? e)
      simp only at pm
      obtain ⟨q, hq⟩ : ∃ q : Nat, (i : Int) + ds[m] = (q : Int) := ⟨((i : Int) + ds[m]).toNat, by omega⟩
      rw [cs_take _ _ _ e, Lx_app, hq]
      rw [hq] at pm
      have lt : ∀ p ∈ (cs bk ds).take m, p.1 < (Lx bk.length ((cs bk ds).take m) : Int) := fun p hp => (Lx_gt _ _).2 p hp (cb p (List.mem_of_mem_take hp)).1
      have Lb : Lx bk.length ((cs bk ds).take m) ≤ 900 := Lx_bound 900 _ _ (by omega) fun p hp => by have := cb p (List.mem_of_mem_take hp); omega
      have tk : ((cs bk ds).take m).length ≤ 600 := by rw [List.length_take]; omega
      have hqL : q < max (Lx bk.length ((cs bk ds).take m)) (q + 1) := by omega
      generalize (cs bk ds).take m = c at lt Lb tk hqL
      generalize Lx bk.length c = L at lt Lb hqL
      have g := grow sy x c m hm i w h q hq L lt (by omega) (max L (q + 1) - L) L 1000000 (by omega) (by omega) (by omega)
      have pt := put_ok sy x c m hm i w h q hq (max L (q + 1)) hqL tk
      refine Eq.trans (sSeq_nx (σ1 := W7 x y (tab (max L (q + 1)) c) m i w) (h1 := h) g) ?_
      refine Eq.trans (sSeq_nx pt) ?_
      rw [sAug_int (a := (m : Int)) (b := 1) rfl rfl]
      rw [show ((q : Int).toNat + 1) = q + 1 from by omega]
      rfl) none none
  obtain ⟨o5, o6, e⟩ := key
  rw [show (cs bk ds).take (tot bk) = cs bk ds from by rw [← cl, List.take_length]] at e
  refine fnM_rt (Eq.trans (sSeq_nx (σ1 := [some (.d x), some (.d y), some (.own ((tab bk.length []).map oI)), none, none, none, none]) (h1 := h) ?_) (Eq.trans (sSeq_nx (σ1 := [some (.d x), some (.d y), some (.own ((tab bk.length []).map oI)), none, some (.d (.int 0)), none, none]) (h1 := h) rfl) (Eq.trans (sSeq_nx (σ1 := [some (.d x), some (.d y), some (.own ((tab (Lx bk.length (cs bk ds)) (cs bk ds)).map oI)), none, some (.d (.int (tot bk : Int))), o5, o6]) (h1 := h) ?_) rfl)))
  · show bindS (mComp _ _ _ _ _ [some (.d x), some (.d y), none, none, none, none, none] h) _ _ = _
    rw [e1]; rfl
  · exact e
end MM.K14

namespace MM.K14
open PySem PySem.Spec PyProof.Rows L2
theorem matS (j : Nat) : F__law_matches_f (j + 1) = fnM 4 (matB exT (F__law_matches_f j)) := rfl
theorem matI (j : Nat) (a : Int) (h : HS) : F__law_matches_f (j + 1) [.d (.int a), .d (.int a)] h = .ok (.d (.bl true)) h := by
  rw [matS, mat_int]; simp
theorem matRow (j : Nat) (r : List Int) (hr : r.length ≤ 1000) (h : HS) : F__law_matches_f (j + 2) [.d (rowD r), .d (rowD r)] h = .ok (.d (.bl true)) h := by
  rw [matS]
  refine mat_lst exT h _ _ (by rw [List.length_map]; exact hr) fun x hx => ?_
  obtain ⟨i, _, rfl⟩ := List.mem_map.mp hx
  exact matI j i h
theorem matTab (j : Nat) (t : List (List Int)) (ht : t.length ≤ 1000) (hr : ∀ r ∈ t, r.length ≤ 1000) (h : HS) : F__law_matches_f (j + 3) [.d (.lst (t.map rowD)), .d (.lst (t.map rowD))] h = .ok (.d (.bl true)) h := by
  rw [matS]
  refine mat_lst exT h _ _ (by rw [List.length_map]; exact ht) fun x hx => ?_
  obtain ⟨r, hm, rfl⟩ := List.mem_map.mp hx
  exact matRow j r (hr r hm) h
theorem match_tab (t : List (List Int)) (ht : t.length ≤ 1000) (hr : ∀ r ∈ t, r.length ≤ 1000) (h : HS) : F__law_matches [.d (.lst (t.map rowD)), .d (.lst (t.map rowD))] h = .ok (.d (.bl true)) h := matTab 3 t ht hr h
theorem match_two (t : List (List Int)) (r : List Int) (ht : t.length ≤ 1000) (hr : ∀ r ∈ t, r.length ≤ 1000) (h2 : r.length ≤ 1000) (h : HS) : F__law_matches [.d (.lst [.lst (t.map rowD), rowD r]), .d (.lst [.lst (t.map rowD), rowD r])] h = .ok (.d (.bl true)) h := by
  show F__law_matches_f (5 + 1) _ h = _
  rw [matS]
  refine mat_lst exT h _ _ (by simp) fun x hx => ?_
  rcases List.mem_cons.mp hx with rfl | hx
  · exact matTab 2 t ht hr h
  · rcases List.mem_cons.mp hx with rfl | hx
    · exact matRow 3 r h2 h
    · cases hx
theorem ms1 (h : HS) : F__law_matches_f 5 [.d (.str "BadCourse"), .d (.str "BadCourse")] h = .ok (.d (.bl true)) h := by kernel_rfl
theorem ms2 (h : HS) : F__law_matches_f 5 [.d (.str "delay"), .d (.str "delay")] h = .ok (.d (.bl true)) h := by kernel_rfl
theorem ms3 (h : HS) : F__law_matches_f 5 [.d (.str "TooMany"), .d (.str "TooMany")] h = .ok (.d (.bl true)) h := by kernel_rfl
theorem ms4 (h : HS) : F__law_matches_f 5 [.d (.str "beats"), .d (.str "beats")] h = .ok (.d (.bl true)) h := by kernel_rfl
theorem ms5 (h : HS) : F__law_matches_f 5 [.d (.str "guests"), .d (.str "guests")] h = .ok (.d (.bl true)) h := by kernel_rfl
theorem ms6 (h : HS) : F__law_matches_f 5 [.d (.str "late"), .d (.str "late")] h = .ok (.d (.bl true)) h := by kernel_rfl
theorem match_strs (a b : Str) (h : HS) (ha : F__law_matches_f 5 [.d (.str a), .d (.str a)] h = .ok (.d (.bl true)) h) (hb : F__law_matches_f 5 [.d (.str b), .d (.str b)] h = .ok (.d (.bl true)) h) : F__law_matches [.d (.tup [.str a, .str b]), .d (.tup [.str a, .str b])] h = .ok (.d (.bl true)) h := by
  show F__law_matches_f (5 + 1) _ h = _
  rw [matS]
  refine mat_tup exT h _ _ (by simp) fun x hx => ?_
  rcases List.mem_cons.mp hx with rfl | hx
  · exact ha
  · rcases List.mem_cons.mp hx with rfl | hx
    · exact hb
    · cases hx
theorem toDl_ints (r : List Int) : toDl (r.map fun i => UV.d (.int i)) = some (r.map .int) := by
  have := toDl_map (r.map DV.int)
  rw [List.map_map] at this
  exact this
theorem toD_oI (r : List Int) : toD (oI r) = some (rowD r) := by
  show (toDl (r.map fun i => UV.d (.int i))).map DV.lst = _
  rw [toDl_ints]; rfl
theorem toDl_tab (t : List (List Int)) : toDl (t.map oI) = some (t.map rowD) := by
  induction t with
  | nil => rfl
  | cons r t ih =>
    rw [List.map_cons, List.map_cons]
    show (match toD (oI r), toDl (t.map oI) with
      | some y, some ys => some (y :: ys)
      | _, _ => none) = _
    rw [toD_oI, ih]
theorem toD_tab (t : List (List Int)) : toD (.own (t.map oI)) = some (.lst (t.map rowD)) := by
  show (toDl (t.map oI)).map DV.lst = _
  rw [toDl_tab]; rfl
@[simp] theorem fz_tab (t : List (List Int)) : fz (.own (t.map oI)) = some (.d (.lst (t.map rowD))) := by
  unfold fz
  rw [toD_tab]
theorem fz_ds (xs : List DV) : fz (.own (xs.map .d)) = some (.d (.lst xs)) := fz_own xs
theorem tab_small {bk : List (List Int)} {ds : List Int} {late : Int} (q1 : ¬ 400 < bk.length) (q2 : ¬ 600 < tot bk) (q3 : ¬ 12 < late) (q4 : ds.length = tot bk) (q5 : ∀ d ∈ ds, 0 ≤ d ∧ d ≤ late) : (tab (Lx bk.length (cs bk ds)) (cs bk ds)).length ≤ 900 ∧ ∀ r ∈ tab (Lx bk.length (cs bk ds)) (cs bk ds), r.length ≤ 900 := by
  have cl := cs_len bk ds q4
  have cb := cs_bound bk ds q5
  refine ⟨by rw [tab_len]; exact Lx_bound 900 _ _ (by omega) fun p hp => by have := cb p hp; omega, fun r hr => ?_⟩
  obtain ⟨t, _, rfl⟩ := List.mem_map.mp hr
  rw [List.length_map]
  have := List.length_filter_le (fun p => p.1 == (t : Int)) (cs bk ds)
  omega
end MM.K14

namespace MM.K14
open PySem PySem.Spec PyProof.Rows L2
theorem drawL {h0 : HS} {k : Nat} {h : HS} (m : Int) (hc : CellIn h0 k h) (hm : 0 < m ∧ m < 1073741824) : ∃ r h', 0 ≤ r ∧ r < m ∧ F__law_draw [.ref k, .d (.int m)] h = .ok (.d (.int r)) h' ∧ CellIn h0 k h' := drawC m hc hm
theorem powN9 (h : HS) : ∃ N : Int, oPow h (.d (.int 10)) (.d (.int 9)) = some (.d (.int N)) ∧ 0 < N ∧ N < 1073741824 := ⟨1000000000, by kernel_rfl, by omega, by omega⟩
theorem mCall2 {f : MF} {m n : ME} {σ : SL} {h h1 h2 h3 : HS} {u v w : UV} (e1 : m σ h = .ok u h1) (e2 : n σ h1 = .ok v h2) (ho : noOwn u = true ∧ noOwn v = true) (e : f [u, v] h2 = .ok w h3) : mCall f (aCons m (aCons n aNil)) σ h = .ok w h3 := by
  rw [mCall_at, aCons_at, e1, bindM_ok, aCons_at, e2]
  simp [ho.1, ho.2, e]
theorem mIf_ok {t : MT} {m n : ME} {σ : SL} {h h1 : HS} {b : Bool} (e : t σ h = .ok b h1) : mIf t m n σ h = if b then m σ h1 else n σ h1 := by
  rw [mIf_at, e]; rfl
theorem mTst_ok {m : ME} {σ : SL} {h h1 : HS} {b : Bool} (e : m σ h = .ok (.d (.bl b)) h1) : mTst m σ h = .ok b h1 := by
  rw [mTst_at, e]; rfl
section
variable {h0 : HS} {k : Nat} {h : HS}
theorem late_ok (hc : CellIn h0 k h) : ∃ L h', 0 ≤ L ∧ L ≤ 12 ∧ mIf (mTst (mBin (oEq false) (mCall F__law_draw (aCons (mVarE 0) (aCons (mK (.int 6)) aNil))) (mK (.int 0)))) (mK (.int 12)) (mCall F__law_draw (aCons (mVarE 0) (aCons (mK (.int 6)) aNil))) (some (.ref k) :: List.replicate 15 none) h = .ok (.d (.int L)) h' ∧ CellIn h0 k h' := by
  obtain ⟨r, h1, r0, r1, e1, c1⟩ := drawL 6 hc (by omega)
  have t1 := mTst_ok (mBin_ok (g := oEq false) (n := mK (.int 0)) (σ := some (.ref k) :: List.replicate 15 none) (mCall2 (m := mVarE 0) (n := mK (.int 6)) rfl rfl ⟨rfl, rfl⟩ e1) rfl (oEq_int _ _ _ _))
  rw [mIf_ok t1]
  by_cases q : r = 0
  · refine ⟨12, h1, by omega, by omega, ?_, c1⟩
    simp [q]
  · obtain ⟨s, h2, s0, s1, e2, c2⟩ := drawL 6 c1 (by omega)
    refine ⟨s, h2, s0, by omega, ?_, c2⟩
    simp only [Bool.false_eq_true, if_false, beq_eq_false_iff_ne.mpr q]
    exact mCall2 (m := mVarE 0) (n := mK (.int 6)) rfl rfl ⟨rfl, rfl⟩ e2
abbrev wishE : ME := mIf (mTst (mBin cGt (mCall F__law_draw (aCons (mVarE 0) (aCons (mK (.int 4)) aNil))) (mK (.int 0)))) (mCall F__law_draw (aCons (mVarE 0) (aCons (mK (.int 5)) aNil))) (mCall F__law_draw (aCons (mVarE 0) (aCons (mBin oPow (mK (.int 10)) (mK (.int 9))) aNil)))
theorem wish_ok {σ : SL} (hσ : σ[0]? = some (some (.ref k))) (hc : CellIn h0 k h) : ∃ w h', wishE σ h = .ok (.d (.int w)) h' ∧ CellIn h0 k h' := by
  have v0 : ∀ h, mVarE 0 σ h = .ok (.ref k) h := fun h => by rw [mVarE_at, hσ]; rfl
  obtain ⟨r, h1, r0, r1, e1, c1⟩ := drawL 4 hc (by omega)
  have t1 := mTst_ok (mBin_ok (g := cGt) (n := mK (.int 0)) (σ := σ) (mCall2 (n := mK (.int 4)) (v0 _) rfl ⟨rfl, rfl⟩ e1) rfl (cGt_int _ _ _))
  unfold wishE
  rw [mIf_ok t1]
  by_cases q : 0 < r
  · obtain ⟨s, h2, s0, s1, e2, c2⟩ := drawL 5 c1 (by omega)
    refine ⟨s, h2, ?_, c2⟩
    rw [decide_eq_true q, if_pos rfl]
    exact mCall2 (n := mK (.int 5)) (v0 _) rfl ⟨rfl, rfl⟩ e2
  · obtain ⟨N, eN, n0, n1⟩ := powN9 h1
    obtain ⟨s, h2, s0, s1, e2, c2⟩ := drawL N c1 ⟨n0, n1⟩
    refine ⟨s, h2, ?_, c2⟩
    rw [decide_eq_false q, if_neg Bool.false_ne_true]
    exact mCall2 (n := mBin oPow (mK (.int 10)) (mK (.int 9))) (v0 _) (mBin_ok rfl rfl eN) ⟨rfl, rfl⟩ e2
abbrev rowE : ME := mCompR (mK (.int 0)) (mCall F__law_draw (aCons (mVarE 0) (aCons (mK (.int 4)) aNil))) (tdN 4) [4] mYes wishE
theorem turn_ok2 {td vs : Nat} {me : ME} {σ : SL} {h h1 : HS} {u y : UV} (e : me ((wipeU σ [vs]).set td (some u)) h = .ok y h1) : turnC (tdN td) [vs] mYes me σ u h = .ok (some y) h1 := by
  simp only [turnC, tdN, mYes]
  rw [e]
theorem row_draw {σ : SL} (hσ : ∀ u, ((wipeU σ [4]).set 4 u)[0]? = some (some (.ref k))) (hσ0 : σ[0]? = some (some (.ref k))) (hc : CellIn h0 k h) : ∃ (r : List Int) (h' : HS), rowE σ h = .ok (oI r) h' ∧ CellIn h0 k h' ∧ r.length ≤ 3 := by
  have v0 : ∀ h, mVarE 0 σ h = .ok (.ref k) h := fun h => by rw [mVarE_at, hσ0]; rfl
  obtain ⟨n, h1, n0, n1, e1, c1⟩ := drawL 4 hc (by omega)
  have e := mCompR_at (lo := mK (.int 0)) (td := tdN 4) (vs := [4]) (mt := mYes) (me := wishE) (σ := σ) (h := h) (h1 := h) (i := 0) rfl (mCall2 (n := mK (.int 4)) (v0 _) rfl ⟨rfl, rfl⟩ e1) (by omega)
  obtain ⟨ys, h2, e2, c2, l2, r2⟩ := compE_ex (f := turnC (tdN 4) [4] mYes wishE σ) (Pv := CellIn h0 k) (R := fun y => ∃ i : Int, y = .d (.int i) ∧ True) (rangeU 0 (n - 0).toNat) h1 (by rw [rangeU_len]; have := size1000; omega) c1 fun x _ h c => by
    obtain ⟨w, h', e, c'⟩ := wish_ok (hσ (some x)) c
    exact ⟨_, h', turn_ok2 e, c', w, rfl, trivial⟩
  obtain ⟨r, rfl, _⟩ := ints_of r2
  refine ⟨r, h2, e.trans e2, c2, ?_⟩
  rw [List.length_map, rangeU_len] at l2
  omega
abbrev B16 (k : Nat) (late : Int) (bk : List (List Int)) (o3 : Option UV) : SL := [some (.ref k), some (.d (.int late)), some (.own (bk.map oI)), o3, none, none, none, none, none, none, none, none, none, none, none, none]
theorem book_loop (hc : CellIn h0 k h) (late : Int) : ∃ (bk : List (List Int)) (o3 : Option UV) (h' : HS), sForR (mK (.int 0)) (mCall F__law_draw (aCons (mVarE 0) (aCons (mK (.int 11)) aNil))) (tdN 3) (sApp true (pVar 2) rowE) (B16 k late [] none) h = .nx (B16 k late bk o3) h' ∧ CellIn h0 k h' ∧ bk.length ≤ 10 ∧ ∀ r ∈ bk, r.length ≤ 3 := by
  obtain ⟨n, h1, n0, n1, e1, c1⟩ := drawL 11 hc (by omega)
  have e := sForR_at (lo := mK (.int 0)) (td := tdN 3) (b := sApp true (pVar 2) rowE) (σ := B16 k late [] none) (h := h) (h1 := h) (i := 0) rfl (mCall2 (m := mVarE 0) (n := mK (.int 11)) rfl rfl ⟨rfl, rfl⟩ e1) (by omega)
  obtain ⟨σ', h2, e2, bk, o3, rfl, c2, l2, r2⟩ := range_steps (f := turnF (tdN 3) (sApp true (pVar 2) rowE)) (n - 0).toNat (fun i σ h' => ∃ bk o3, σ = B16 k late bk o3 ∧ CellIn h0 k h' ∧ bk.length = i ∧ ∀ r ∈ bk, r.length ≤ 3) (B16 k late [] none) h1 ⟨[], none, rfl, c1, rfl, fun _ z => nomatch z⟩ fun i hi σ h' ⟨bk, o3, e3, c3, l3, r3⟩ => by
    subst e3
    obtain ⟨r, h4, e4, c4, l4⟩ := row_draw (σ := B16 k late bk (some (.d (.int (i : Int))))) (fun _ => rfl) rfl c3
    refine ⟨_, h4, ?_, bk ++ [r], some (.d (.int (i : Int))), rfl, c4, by simp [l3], fun z hz => (List.mem_append.mp hz).elim (r3 z) fun q => by rw [List.mem_singleton.mp q]; exact l4⟩
    have hs : bk.length < sizeLine := by have := size1000; omega
    have l0 : lstAt (pVar 2) (B16 k late bk (some (.d (.int (i : Int))))) h' = some (.slot 2, bk.map oI) := rfl
    show sApp true (pVar 2) rowE (B16 k late bk (some (.d (.int (i : Int))))) h' = _
    unfold sApp
    rw [l0]
    show bindS (rowE (B16 k late bk (some (.d (.int (i : Int))))) h') _ _ = _
    rw [e4, bindS_ok]
    show (if _ then _ else _) = _
    rw [if_neg (fun z => nomatch (show true = false from z.2))]
    show (if (bk.map oI).length < sizeLine then _ else _) = _
    rw [if_pos (by rw [List.length_map]; exact hs), show bk.map oI ++ [oI r] = (bk ++ [r]).map oI from by rw [List.map_append]; rfl]
    rfl
  exact ⟨bk, o3, h2, e.trans e2, c2, by omega, r2⟩
end
end MM.K14

namespace MM.K14
open PySem PySem.Spec PyProof.Rows L2
section
variable {h0 : HS} {k : Nat} {h : HS}
abbrev delE : ME := mIf (mTru (mVar 7)) (mVarE 1) (mCall F__law_draw (aCons (mVarE 0) (aCons (mBin oAdd (mVar 1) (mK (.int 1))) aNil)))
theorem del_ok {σ : SL} {late : Int} {full : Bool} (hL : 0 ≤ late ∧ late ≤ 12) (h0σ : σ[0]? = some (some (.ref k))) (h1σ : σ[1]? = some (some (.d (.int late)))) (h7σ : σ[7]? = some (some (.d (.bl full)))) (hc : CellIn h0 k h) : ∃ w h', delE σ h = .ok (.d (.int w)) h' ∧ CellIn h0 k h' ∧ 0 ≤ w ∧ w ≤ late := by
  have v0 : ∀ h, mVarE 0 σ h = .ok (.ref k) h := fun h => by rw [mVarE_at, h0σ]; rfl
  have v1 : ∀ h, mVar 1 σ h = .ok (.d (.int late)) h := fun h => by rw [mVar_at, h1σ]
  have v1E : ∀ h, mVarE 1 σ h = .ok (.d (.int late)) h := fun h => by rw [mVarE_at, h1σ]; rfl
  have t7 : mTru (mVar 7) σ h = .ok full h := by rw [mTru_at, mVar_at, h7σ]; rfl
  unfold delE
  rw [mIf_ok t7]
  cases full with
  | true => exact ⟨late, h, v1E h, hc, by omega, by omega⟩
  | false =>
    obtain ⟨s, h2, s0, s1, e2, c2⟩ := drawL (late + 1) hc (by omega)
    refine ⟨s, h2, ?_, c2, s0, by omega⟩
    rw [if_neg Bool.false_ne_true]
    exact mCall2 (n := mBin oAdd (mVar 1) (mK (.int 1))) (v0 _) (mBin_ok (v1 _) rfl (oAdd_int _ _ _)) ⟨rfl, rfl⟩ e2
theorem dels_ok {σ : SL} {late : Int} {full : Bool} {n : Nat} (hn : n ≤ 1000) (hL : 0 ≤ late ∧ late ≤ 12) (hs : ∀ u, ((wipeU σ [4]).set 4 u)[0]? = some (some (.ref k)) ∧ ((wipeU σ [4]).set 4 u)[1]? = some (some (.d (.int late))) ∧ ((wipeU σ [4]).set 4 u)[7]? = some (some (.d (.bl full)))) (h5 : σ[5]? = some (some (.d (.int (n : Int))))) (hc : CellIn h0 k h) :
    ∃ (ds : List Int) (h' : HS), mCompR (mK (.int 0)) (mVar 5) (tdN 4) [4] mYes delE σ h = .ok (oI ds) h' ∧ CellIn h0 k h' ∧ ds.length = n ∧ ∀ d ∈ ds, 0 ≤ d ∧ d ≤ late := by
  have e := mCompR_at (lo := mK (.int 0)) (hi := mVar 5) (td := tdN 4) (vs := [4]) (mt := mYes) (me := delE) (σ := σ) (h := h) (h1 := h) (h2 := h) (i := 0) (j := (n : Int)) rfl (by rw [mVar_at, h5]) (by omega)
  obtain ⟨ys, h2, e2, c2, l2, r2⟩ := compE_ex (f := turnC (tdN 4) [4] mYes delE σ) (Pv := CellIn h0 k) (R := fun y => ∃ i : Int, y = .d (.int i) ∧ (0 ≤ i ∧ i ≤ late)) (rangeU 0 ((n : Int) - 0).toNat) h (by rw [rangeU_len]; have := size1000; omega) hc fun x _ h c => by
    obtain ⟨a, b, d⟩ := hs (some x)
    obtain ⟨w, h', e, c', w0⟩ := del_ok hL a b d c
    exact ⟨_, h', turn_ok2 e, c', w, rfl, w0⟩
  obtain ⟨r, rfl, rr⟩ := ints_of r2
  refine ⟨r, h2, e.trans e2, c2, ?_, rr⟩
  rw [List.length_map, rangeU_len] at l2
  omega
end
/-! ### the refusals -/
theorem sg1 : exT.sg "BadCourse" "LiftedError" = some true := by decide +kernel
theorem sg2 : exT.sg "TooMany" "LiftedError" = some true := by decide +kernel
theorem fl1 : exT.fl "BadCourse" "what" = true := by decide +kernel
theorem fl2 : exT.fl "TooMany" "what" = true := by decide +kernel
theorem asked_bad (i : Nat) (caps : List UV) (w : Str) (h : HS) (hh : h.all noCloC = true) (hc : caps.all plainU = true) (e : CB i (caps.map some) h = .err (badCourse w) h) : F__law_asked [.clo i caps] h = .ok (.d (.tup [.str "BadCourse", .str w])) h := by
  have i1 : fIsX exT h (.d (.exn "BadCourse" [("what", .str w)])) (.d (.glo "TooMany")) = some (.d (.bl false)) := by kernel_rfl
  have i2 : fIsX exT h (.d (.exn "BadCourse" [("what", .str w)])) (.d (.glo "BadCourse")) = some (.d (.bl true)) := by kernel_rfl
  have i3 : fIsX exT h (.d (.exn "BadCourse" [("what", .str w)])) (.d (.glo "BadKitchen")) = some (.d (.bl false)) := by kernel_rfl
  have i4 : fIsX exT h (.d (.exn "BadCourse" [("what", .str w)])) (.d (.ty "ValueError")) = some (.d (.bl true)) := by kernel_rfl
  have f1 : fz (.own [.d (.bl false), .d (.bl true), .d (.bl false)]) = some (.d (.lst [.bl false, .bl true, .bl false])) := rfl
  have q1 : oEq false h (.d (.lst [.bl false, .bl true, .bl false])) (.own [.d (.bl true), .d (.bl false), .d (.bl false)]) = some (.d (.bl false)) := by kernel_rfl
  have q2 : oEq false h (.d (.lst [.bl false, .bl true, .bl false])) (.own [.d (.bl false), .d (.bl true), .d (.bl false)]) = some (.d (.bl true)) := by kernel_rfl
  simp [F__law_asked, fnM_at, B__law_asked, sTry, mClo, hh, hc, e, catchM, sg1, putR, endR, mXf, fl1, List.lookup, i1, i2, i3, i4, f1, q1, q2]
theorem asked_over (i : Nat) (caps : List UV) (w : Str) (h : HS) (hh : h.all noCloC = true) (hc : caps.all plainU = true) (e : CB i (caps.map some) h = .err (tooMany w) h) : F__law_asked [.clo i caps] h = .ok (.d (.tup [.str "TooMany", .str w])) h := by
  have i1 : fIsX exT h (.d (.exn "TooMany" [("what", .str w)])) (.d (.glo "TooMany")) = some (.d (.bl true)) := by kernel_rfl
  have i2 : fIsX exT h (.d (.exn "TooMany" [("what", .str w)])) (.d (.glo "BadCourse")) = some (.d (.bl false)) := by kernel_rfl
  have i3 : fIsX exT h (.d (.exn "TooMany" [("what", .str w)])) (.d (.glo "BadKitchen")) = some (.d (.bl false)) := by kernel_rfl
  have i4 : fIsX exT h (.d (.exn "TooMany" [("what", .str w)])) (.d (.ty "ValueError")) = some (.d (.bl true)) := by kernel_rfl
  have f1 : fz (.own [.d (.bl true), .d (.bl false), .d (.bl false)]) = some (.d (.lst [.bl true, .bl false, .bl false])) := rfl
  have q1 : oEq false h (.d (.lst [.bl true, .bl false, .bl false])) (.own [.d (.bl true), .d (.bl false), .d (.bl false)]) = some (.d (.bl true)) := by kernel_rfl
  simp [F__law_asked, fnM_at, B__law_asked, sTry, mClo, hh, hc, e, catchM, sg2, putR, endR, mXf, fl2, List.lookup, i1, i2, i3, i4, f1, q1]
theorem callL {f : MF} {i : Nat} {js : List Nat} {k : Nat} {P : Addr} {q : Str} {ms : MLs} {σ : SL} {h : HS} {caps us : List UV} {x : DV} {as : List AU} (ht : h[k]? = some (.tab P q)) (hm : ms σ h = .ok as h) (hr : resL σ (.lam i js :: as) = some us) (hf : f us h = .ok (.d x) h) (hh : h.all noCloC = true) : mCallL f (lLam i js k P q ms) σ h = .ok (.d x) h := by
  unfold mCallL lLam
  simp [ht, hm, hr, hf]
  simpa using hh
end MM.K14

namespace MM.K14
open PySem PySem.Spec PyProof.Rows L2
def HOk (h : HS) : Prop := h[0]? = some (.tab P__law_case q__law_case) ∧ h[1]? = some (.tab P__law_bounds q__law_bounds) ∧ h.all noCloC = true
theorem hok_cell {h0 h : HS} {k : Nat} (ho : HOk h0) (hc : CellIn h0 k h) : HOk h := by
  obtain ⟨a, b, c, rfl, rfl⟩ := hc
  obtain ⟨t0, t1, hh⟩ := ho
  have l0 := (List.getElem?_eq_some_iff.mp t0).1
  have l1 := (List.getElem?_eq_some_iff.mp t1).1
  refine ⟨by rw [List.getElem?_append_left l0]; exact t0, by rw [List.getElem?_append_left l1]; exact t1, ?_⟩
  rw [List.all_append, hh]
  rfl
/-- what the bookings keep -/
structure Good (bk : List (List Int)) (ds : List Int) (late : Int) : Prop where
  q1 : bk.length ≤ 400
  q2 : tot bk ≤ 600
  q3 : 0 ≤ late ∧ late ≤ 12
  q4 : ds.length = tot bk
  q5 : ∀ d ∈ ds, 0 ≤ d ∧ d ≤ late
def Spoilt (bk : List (List Int)) (late : Int) (w : List Int) : Prop := w.length ≠ tot bk ∨ ¬ ∀ d ∈ w, 0 ≤ d ∧ d ≤ late
theorem spoilt_err {bk : List (List Int)} {ds w : List Int} {late : Int} (g : Good bk ds late) (s : Spoilt bk late w) (h : HS) : F_late_course [.d (.lst (bk.map rowD)), .d (rowD w), .d (.int late)] h = .err (badCourse "delay") h := by
  have q1 : ¬ 400 < bk.length := by have := g.q1; omega
  have q2 : ¬ 600 < tot bk := by have := g.q2; omega
  have q3 : ¬ 12 < late := by have := g.q3; omega
  by_cases q4 : w.length = tot bk
  · exact lc5 (.inl rfl) (.inl rfl) late h q1 q2 q3 q4 (s.resolve_left (fun z => z q4))
  · exact lc4 (.inl rfl) (.inl rfl) late h q1 q2 q3 q4
abbrev refB : MS := sIf (mNot (mTru (mCall F__law_matches (aCons (mFz (mCallL F__law_asked (lLam 0 [10, 15, 1] 0 P__law_case q__law_case lNil))) (aCons (mTup (aCons (mK (.str "BadCourse")) (aCons (mK (.str "delay")) aNil))) aNil))))) (sRet (mK (.bl false))) sPass
theorem ref_turn {bk : List (List Int)} {ds w : List Int} {late : Int} (g : Good bk ds late) (s : Spoilt bk late w) {h : HS} (ho : HOk h) (o0 o2 o3 o4 o5 o6 o7 o8 o9 o11 o12 o13 o14 : Option UV) : refB [o0, some (.d (.int late)), o2, o3, o4, o5, o6, o7, o8, o9, some (.d (.lst (bk.map rowD))), o11, o12, o13, o14, some (.d (rowD w))] h = .nx [o0, some (.d (.int late)), o2, o3, o4, o5, o6, o7, o8, o9, some (.d (.lst (bk.map rowD))), o11, o12, o13, o14, some (.d (rowD w))] h := by
  obtain ⟨t0, t1, hh⟩ := ho
  have ec : CB 0 ([UV.d (.lst (bk.map rowD)), .d (rowD w), .d (.int late)].map some) h = .err (badCourse "delay") h := by
    have := spoilt_err g s h
    show mCall F_late_course _ _ h = _
    simp [this]
  have ea := asked_bad 0 [UV.d (.lst (bk.map rowD)), .d (rowD w), .d (.int late)] "delay" h hh rfl ec
  have el := callL (f := F__law_asked) (i := 0) (js := [10, 15, 1]) (ms := lNil) (σ := [o0, some (.d (.int late)), o2, o3, o4, o5, o6, o7, o8, o9, some (.d (.lst (bk.map rowD))), o11, o12, o13, o14, some (.d (rowD w))]) (as := []) (caps := []) t0 rfl rfl ea hh
  have em := match_strs "BadCourse" "delay" h (ms1 h) (ms2 h)
  unfold refB
  rw [sIf_at, mNot_at, mTru_at, mCall_at, aCons_at, mFz_at, el]
  simp [em]
theorem ref_loop {bk : List (List Int)} {ds : List Int} {late : Int} (g : Good bk ds late) {h : HS} (ho : HOk h) (o0 o2 o3 o4 o5 o6 o7 o8 o9 o11 o12 o14 : Option UV) (W : List (List Int)) (hW : ∀ w ∈ W, Spoilt bk late w) : ∃ o15, sFor (mVarE 13) (tdN 15) refB [o0, some (.d (.int late)), o2, o3, o4, o5, o6, o7, o8, o9, some (.d (.lst (bk.map rowD))), o11, o12, some (.d (.lst (W.map rowD))), o14, none] h = .nx [o0, some (.d (.int late)), o2, o3, o4, o5, o6, o7, o8, o9, some (.d (.lst (bk.map rowD))), o11, o12, some (.d (.lst (W.map rowD))), o14, o15] h := by
  obtain ⟨σ', h', e, o15, rfl, rfl⟩ := loop_steps (f := turnF (tdN 15) refB) ((W.map rowD).map UV.d) (fun _ σ h' => ∃ o15, σ = [o0, some (.d (.int late)), o2, o3, o4, o5, o6, o7, o8, o9, some (.d (.lst (bk.map rowD))), o11, o12, some (.d (.lst (W.map rowD))), o14, o15] ∧ h' = h) [o0, some (.d (.int late)), o2, o3, o4, o5, o6, o7, o8, o9, some (.d (.lst (bk.map rowD))), o11, o12, some (.d (.lst (W.map rowD))), o14, none] h ⟨none, rfl, rfl⟩ fun i hi σ h' ⟨o15, e1, e2⟩ => by
    subst e1 e2
    have hi' : i < W.length := by simpa using hi
    refine ⟨_, h', ?_, some (.d (rowD W[i])), rfl, rfl⟩
    simp only [List.getElem_map]
    exact ref_turn g (hW _ (List.getElem_mem hi')) ho o0 o2 o3 o4 o5 o6 o7 o8 o9 o11 o12 _ o14
  exact ⟨o15, (sFor_at (u := .d (.lst (W.map rowD))) (h1 := h') rfl rfl).trans e⟩
/-! ### the spoilt delays -/
theorem slice_take (h : HS) (ds : List Int) (n : Nat) : sliceU h (dI ds) none (some (n : Int)) = some (oI (ds.take n)) := by
  unfold sliceU
  simp only [asL]
  have e : cutL ((ds.map DV.int).map UV.d) none (some (n : Int)) = (ds.take n).map fun i => UV.d (.int i) := by
    unfold cutL
    rw [HT.sIx_nat, HT.sIx_none, List.drop_zero, Nat.sub_zero, List.map_map, List.map_take, ← List.take_eq_take_min]
    rfl
  rw [e]
  simp
theorem slice_drop (h : HS) (ds : List Int) (n : Nat) : sliceU h (dI ds) (some (n : Int)) none = some (oI (ds.drop n)) := by
  unfold sliceU
  simp only [asL]
  have e : cutL ((ds.map DV.int).map UV.d) (some (n : Int)) none = (ds.drop n).map fun i => UV.d (.int i) := by
    unfold cutL
    rw [HT.sIx_nat, HT.sIx_none, List.take_of_length_le (by rw [List.length_drop]; omega), List.map_map, List.length_map]
    have : (ds.map (UV.d ∘ DV.int)).drop (min n ds.length) = (ds.map (UV.d ∘ DV.int)).drop n := by
      by_cases q : n ≤ ds.length
      · rw [Nat.min_eq_left q]
      · rw [List.drop_eq_nil_of_le (by rw [List.length_map]; omega), List.drop_eq_nil_of_le (by rw [List.length_map]; omega)]
    rw [this, List.map_drop]
    rfl
  rw [e]
  simp
theorem oAdd_dI (h : HS) (xs ys : List Int) (hl : xs.length + ys.length ≤ sizeLine) : oAdd h (dI xs) (oI ys) = some (oI (xs ++ ys)) := by
  unfold oAdd
  simp [asM, asL, hl]
theorem lst1 {m : ME} {σ : SL} {h h1 : HS} {u : UV} (e : m σ h = .ok u h1) : mLst (aCons m aNil) σ h = .ok (.own [u]) h1 := by
  rw [mLst_at, aCons_at, e]
  simp
theorem mFz_ok {m : ME} {σ : SL} {h h1 : HS} {u v : UV} (e : m σ h = .ok u h1) (e2 : fz u = some v) : mFz m σ h = .ok v h1 := by
  rw [mFz_at, e, bindM_ok, e2]; rfl
theorem mSl1 {m n : ME} {σ : SL} {h : HS} {u v : UV} {i : Int} (e : m σ h = .ok u h) (e1 : n σ h = .ok (.d (.int i)) h) (e2 : sliceU h u none (some i) = some v) : mSlice m oNo (oYes n) σ h = .ok v h := by
  rw [mSlice_at, e]
  simp [e1, e2]
theorem mSl2 {m n : ME} {σ : SL} {h : HS} {u v : UV} {i : Int} (e : m σ h = .ok u h) (e1 : n σ h = .ok (.d (.int i)) h) (e2 : sliceU h u (some i) none = some v) : mSlice m (oYes n) oNo σ h = .ok v h := by
  rw [mSlice_at, e]
  simp [e1, e2]
theorem sIf_ok {t : MT} {a b : MS} {σ : SL} {h h1 : HS} {k : Bool} (e : t σ h = .ok k h1) : sIf t a b σ h = if k then a σ h1 else b σ h1 := by
  rw [sIf_at, e]; rfl
theorem sSet_ok {i : Nat} {m : ME} {σ : SL} {h h1 : HS} {u : UV} (e : m σ h = .ok u h1) : sSet i m σ h = .nx (σ.set i (some u)) h1 := by
  rw [sSet_at, e]; rfl
theorem lst2 {m n : ME} {σ : SL} {h h1 h2 : HS} {u v : UV} (e : m σ h = .ok u h1) (e2 : n σ h1 = .ok v h2) : mLst (aCons m (aCons n aNil)) σ h = .ok (.own [u, v]) h2 := by
  rw [mLst_at, aCons_at, e, bindM_ok, aCons_at, e2]
  simp
theorem oAdd_ds (h : HS) (xs ys : List DV) (hl : xs.length + ys.length ≤ sizeLine) : oAdd h (.own (xs.map .d)) (.own (ys.map .d)) = some (.own ((xs ++ ys).map .d)) := by
  unfold oAdd
  simp [asM, asL, hl]
theorem sApp_slot {i : Nat} {m : ME} {σ : SL} {h h1 : HS} {xs : List UV} {u : UV} (e0 : σ[i]? = some (some (.own xs))) (e1 : m σ h = .ok u h1) (hl : xs.length < sizeLine) : sApp true (pVar i) m σ h = .nx (σ.set i (some (.own (xs ++ [u])))) h1 := by
  have g : ∀ h, getP (.slot i) σ h = some (.own xs) := fun h => by simp only [getP, e0]
  have pv : pVar i σ h = some (.slot i) := by unfold pVar; rw [e0]; rfl
  have l0 : lstAt (pVar i) σ h = some (.slot i, xs) := by
    unfold lstAt
    rw [pv]
    simp only [g]
  unfold sApp
  rw [l0]
  show bindS (m σ h) _ _ = _
  rw [e1, bindS_ok]
  show (if _ then _ else _) = _
  rw [if_neg (fun z => nomatch (show true = false from z.2))]
  simp only [g]
  rw [if_pos hl]
  rfl
abbrev cutE1 : ME := mSlice (mVar 8) oNo (oYes (mVar 14))
abbrev cutE2 : ME := mSlice (mVar 8) (oYes (mBin oAdd (mVar 14) (mK (.int 1)))) oNo
section
variable {h0 : HS} {k : Nat} {h : HS}
abbrev SW (k : Nat) (late : Int) (o2 o3 o4 : Option UV) (t : Nat) (o6 o7 : Option UV) (ds : List Int) (o9 o10 o11 o12 : Option UV) (W : List (List Int)) (o14 : Option UV) : SL := [some (.ref k), some (.d (.int late)), o2, o3, o4, some (.d (.int (t : Int))), o6, o7, some (dI ds), o9, o10, o11, o12, some (.own (W.map fun w => .d (rowD w))), o14, none]
theorem fzRow (r : List Int) : fz (oI r) = some (.d (rowD r)) := fz_oI r
theorem wr_first (late : Int) (o2 o3 o4 : Option UV) (t : Nat) (o6 o7 : Option UV) (ds : List Int) (hd : ds.length ≤ 900) (o9 o10 o11 o12 o14 : Option UV) : sSet 13 (mLst (aCons (mFz (mBin oAdd (mVar 8) (mLst (aCons (mK (.int 0)) aNil)))) aNil)) [some (.ref k), some (.d (.int late)), o2, o3, o4, some (.d (.int (t : Int))), o6, o7, some (dI ds), o9, o10, o11, o12, none, o14, none] h = .nx (SW k late o2 o3 o4 t o6 o7 ds o9 o10 o11 o12 [ds ++ [0]] o14) h := by
  have e1 : mLst (aCons (mK (.int 0)) aNil) [some (.ref k), some (.d (.int late)), o2, o3, o4, some (.d (.int (t : Int))), o6, o7, some (dI ds), o9, o10, o11, o12, none, o14, none] h = .ok (oI [0]) h := lst1 rfl
  have e2 := mFz_ok (mBin_ok (m := mVar 8) (σ := [some (.ref k), some (.d (.int late)), o2, o3, o4, some (.d (.int (t : Int))), o6, o7, some (dI ds), o9, o10, o11, o12, none, o14, none]) (h := h) rfl e1 (oAdd_dI h ds [0] (by have := size1000; simp; omega))) (fzRow _)
  rw [sSet_at, lst1 e2]
  rfl
theorem spoil1 {bk : List (List Int)} {ds : List Int} {late : Int} (g : Good bk ds late) : Spoilt bk late (ds ++ [0]) := .inl (by rw [List.length_append, g.q4]; simp)
theorem spoil2 {bk : List (List Int)} {ds : List Int} {late : Int} (g : Good bk ds late) (n : Nat) (hn : n < tot bk) : Spoilt bk late (ds.take n ++ ds.drop (n + 1)) := .inl (by
  rw [List.length_append, List.length_take, List.length_drop, g.q4]; omega)
theorem spoil3 {bk : List (List Int)} {ds : List Int} {late x : Int} (hx : ¬ (0 ≤ x ∧ x ≤ late)) (n : Nat) : Spoilt bk late (ds.take n ++ [x] ++ ds.drop (n + 1)) := .inr fun z => hx (z x (by simp))
theorem wr_if {bk : List (List Int)} {ds : List Int} {late : Int} (g : Good bk ds late) (hc : CellIn h0 k h) (ht : tot bk ≤ 600) (o2 o3 o4 o6 o7 o9 o10 o11 o12 : Option UV) : ∃ (W : List (List Int)) (o14 : Option UV) (h' : HS), (sIf (mTst (mBin cGt (mVar 5) (mK (.int 0)))) (sSeq (sSet 14 (mCall F__law_draw (aCons (mVarE 0) (aCons (mVar 5) aNil)))) (sSeq (sSet 13 (mBin oAdd (mVar 13) (mLst (aCons (mFz (mBin oAdd cutE1 cutE2)) (aCons (mFz (mBin oAdd (mBin oAdd cutE1 (mLst (aCons (mBin oAdd (mVar 1) (mK (.int 1))) aNil))) cutE2)) aNil))))) (sApp true (pVar 13) (mFz (mBin oAdd (mBin oAdd cutE1 (mLst (aCons (mUn oNeg (mK (.int 1))) aNil))) cutE2))))) sPass) (SW k late o2 o3 o4 (tot bk) o6 o7 ds o9 o10 o11 o12 [ds ++ [0]] none) h = .nx (SW k late o2 o3 o4 (tot bk) o6 o7 ds o9 o10 o11 o12 W o14) h' ∧ CellIn h0 k h' ∧ ∀ w ∈ W, Spoilt bk late w := by
  by_cases q : 0 < tot bk
  · obtain ⟨n, h1, n0, n1, e1, c1⟩ := drawL (tot bk) hc (by omega)
    obtain ⟨n, rfl⟩ : ∃ m : Nat, n = (m : Int) := ⟨n.toNat, by omega⟩
    have hl : ds.length ≤ 600 := by rw [g.q4]; exact ht
    have sz : 5000 ≤ sizeLine := by decide
    have ta : (ds.take n).length ≤ 600 := by rw [List.length_take]; omega
    have dr : (ds.drop (n + 1)).length ≤ 600 := by rw [List.length_drop]; omega
    let S1 : SL := SW k late o2 o3 o4 (tot bk) o6 o7 ds o9 o10 o11 o12 [ds ++ [0]] (some (.d (.int (n : Int))))
    let W2 : List (List Int) := [ds ++ [0], ds.take n ++ ds.drop (n + 1), ds.take n ++ [late + 1] ++ ds.drop (n + 1)]
    let S2 : SL := SW k late o2 o3 o4 (tot bk) o6 o7 ds o9 o10 o11 o12 W2 (some (.d (.int (n : Int))))
    have c1' : ∀ W, cutE1 (SW k late o2 o3 o4 (tot bk) o6 o7 ds o9 o10 o11 o12 W (some (.d (.int (n : Int))))) h1 = .ok (oI (ds.take n)) h1 := fun W => mSl1 (m := mVar 8) (n := mVar 14) rfl rfl (slice_take h1 ds n)
    have c2' : ∀ W, cutE2 (SW k late o2 o3 o4 (tot bk) o6 o7 ds o9 o10 o11 o12 W (some (.d (.int (n : Int))))) h1 = .ok (oI (ds.drop (n + 1))) h1 := fun W => mSl2 (m := mVar 8) (n := mBin oAdd (mVar 14) (mK (.int 1))) (i := (n : Int) + 1) rfl (mBin_ok (m := mVar 14) (n := mK (.int 1)) rfl rfl (oAdd_int h1 _ _)) (slice_drop h1 ds (n + 1))
    have e2 := mFz_ok (mBin_ok (c1' [ds ++ [0]]) (c2' [ds ++ [0]]) (oAdd_oI h1 _ _ (by omega))) (fzRow _)
    have l3 : mLst (aCons (mBin oAdd (mVar 1) (mK (.int 1))) aNil) S1 h1 = .ok (oI [late + 1]) h1 := lst1 (mBin_ok (m := mVar 1) (n := mK (.int 1)) rfl rfl (oAdd_int h1 _ _))
    have e3 := mFz_ok (mBin_ok (mBin_ok (c1' [ds ++ [0]]) l3 (oAdd_oI h1 _ _ (by simp; omega))) (c2' [ds ++ [0]]) (oAdd_oI h1 _ _ (by simp; omega))) (fzRow _)
    have e4 := mBin_ok (g := oAdd) (m := mVar 13) (σ := S1) (h := h1) (h1 := h1) (u := .own ([rowD (ds ++ [0])].map .d)) rfl (lst2 e2 e3) (oAdd_ds h1 [rowD (ds ++ [0])] [rowD (ds.take n ++ ds.drop (n + 1)), rowD (ds.take n ++ [late + 1] ++ ds.drop (n + 1))] (by show 1 + 2 ≤ sizeLine; omega))
    have l5 : mLst (aCons (mUn oNeg (mK (.int 1))) aNil) S2 h1 = .ok (oI [-1]) h1 := lst1 rfl
    have e5 := mFz_ok (mBin_ok (mBin_ok (c1' W2) l5 (oAdd_oI h1 _ _ (by simp; omega))) (c2' W2) (oAdd_oI h1 _ _ (by simp; omega))) (fzRow _)
    have e6 := sApp_slot (i := 13) (σ := S2) (h := h1) (xs := W2.map fun w => .d (rowD w)) rfl e5 (by show 3 < sizeLine; omega)
    refine ⟨W2 ++ [ds.take n ++ [-1] ++ ds.drop (n + 1)], some (.d (.int (n : Int))), h1, ?_, c1, fun w hw => ?_⟩
    · refine Eq.trans (sIf_ok (mTst_ok (mBin_ok (g := cGt) (m := mVar 5) (n := mK (.int 0)) rfl rfl (cGt_int h _ _)))) ?_
      have q' : (0 : Int) < (tot bk : Int) := by omega
      rw [decide_eq_true q', if_pos rfl]
      refine Eq.trans (sSeq_nx (σ1 := S1) (h1 := h1) (sSet_ok (mCall2 (m := mVarE 0) (n := mVar 5) rfl rfl ⟨rfl, rfl⟩ e1))) ?_
      refine Eq.trans (sSeq_nx (σ1 := S2) (h1 := h1) (sSet_ok e4)) ?_
      exact e6
    · have l2 := g.q3
      simp only [W2, List.cons_append, List.nil_append, List.mem_cons, List.not_mem_nil, or_false] at hw
      rcases hw with rfl | rfl | rfl | rfl
      · exact spoil1 g
      · exact spoil2 g n (by omega)
      · have := spoil3 (bk := bk) (ds := ds) (late := late) (x := late + 1) (by omega) n
        simpa using this
      · have := spoil3 (bk := bk) (ds := ds) (late := late) (x := -1) (by omega) n
        simpa using this
  · refine ⟨[ds ++ [0]], none, h, ?_, hc, fun w hw => ?_⟩
    · have q' : ¬ (0 : Int) < (tot bk : Int) := by omega
      refine Eq.trans (sIf_ok (mTst_ok (mBin_ok (g := cGt) (m := mVar 5) (n := mK (.int 0)) rfl rfl (cGt_int h _ _)))) ?_
      rw [decide_eq_false q', if_neg Bool.false_ne_true]
      rfl
    · rw [List.mem_singleton.mp hw]; exact spoil1 g
end
end MM.K14

namespace MM.K14
open PySem PySem.Spec PyProof.Rows L2
theorem gFz_at {i : Nat} {σ : SL} {h : HS} {u v : UV} (e : σ[i]? = some (some u)) (e2 : fz u = some v) : gFz i σ h = some (σ.set i (some v), h) := by
  unfold gFz
  rw [e]
  show (fz u).map _ = _
  rw [e2]; rfl
theorem ghFz {i : Nat} {ms : MS} {σ : SL} {h : HS} {u v : UV} (e : σ[i]? = some (some u)) (e2 : fz u = some v) : sGh (gFz i) ms σ h = ms (σ.set i (some v)) h := sGh_at (gFz_at e e2)
theorem mapO_uD (xs : List DV) : mapO uD (xs.map .d) = some xs := by
  induction xs with
  | nil => rfl
  | cons x xs ih => rw [List.map_cons, mapO, ih]; rfl
theorem fTup_lst (h : HS) (xs : List DV) : fTuple h (.d (.lst xs)) = some (.d (.tup xs)) := by
  show ((asL h (.d (.lst xs))).bind (mapO uD)).map _ = _
  show ((some (xs.map UV.d)).bind (mapO uD)).map _ = _
  rw [Option.bind_some, mapO_uD]; rfl
theorem fList_row (h : HS) (r : List Int) : fList h (.d (rowD r)) = some (oI r) := by
  unfold fList
  simp [asQ, asT, asL]
theorem mapO_ap (t : List (List Int)) (ht : ∀ r ∈ t, r.length ≤ 900) : mapO (apE (.int 5)) (t.map oI) = some ((t.map (· ++ [5])).map oI) := by
  induction t with
  | nil => rfl
  | cons r t ih =>
    have h1 := ht r List.mem_cons_self
    have sz := size1000
    rw [List.map_cons, mapO, ih fun r hr => ht r (List.mem_cons_of_mem _ hr)]
    have : apE (.int 5) (oI r) = some (oI (r ++ [5])) := by
      show (if _ then _ else _) = _
      rw [if_pos (by rw [List.length_map]; omega)]
      simp [oI]
    rw [this]
    rfl
theorem mCall3 {f : MF} {m n p : ME} {σ : SL} {h h1 h2 h3 h4 : HS} {u v w z : UV} (e1 : m σ h = .ok u h1) (e2 : n σ h1 = .ok v h2) (e3 : p σ h2 = .ok w h3) (ho : noOwn u = true ∧ noOwn v = true ∧ noOwn w = true) (e : f [u, v, w] h3 = .ok z h4) : mCall f (aCons m (aCons n (aCons p aNil))) σ h = .ok z h4 := by
  rw [mCall_at, aCons_at, e1, bindM_ok, aCons_at, e2, bindM_ok, aCons_at, e3]
  simp [ho.1, ho.2.1, ho.2.2, e]
theorem comp_lists {bk : List (List Int)} (hl : bk.length ≤ 1000) {m : ME} {td : Nat} {σ : SL} {h : HS} (e0 : m σ h = .ok (.d (.lst (bk.map rowD))) h) (e1 : ∀ u, ((wipeU σ [td]).set td (some u))[td]? = some (some u)) : mComp m (tdN td) [td] mYes (mUn fList (mVar td)) σ h = .ok (.own (bk.map oI)) h := by
  have ec := compE_fm (f := turnC (tdN td) [td] mYes (mUn fList (mVar td)) σ) (h := h) (fun r : List Int => UV.d (rowD r)) (fun r => some (oI r)) (xs := bk) (by have := size1000; omega) fun r _ => by
    have : mUn fList (mVar td) ((wipeU σ [td]).set td (some (.d (rowD r)))) h = .ok (oI r) h := mUn_ok (u := .d (rowD r)) (h1 := h) (by rw [mVar_at, e1]) (fList_row h r)
    simp only [turnC, tdN, mYes]
    rw [this]
  have fq : frzQ (.d (.lst (bk.map rowD))) = some (bk.map fun r : List Int => UV.d (rowD r)) := by
    simp only [frzQ, List.map_map]; rfl
  rw [mComp_at e0 fq, ec, List.filterMap_eq_map']
theorem mTru_ok {m : ME} {σ : SL} {h h1 : HS} {b : Bool} (e : m σ h = .ok (.d (.bl b)) h1) : mTru m σ h = .ok b h1 := by
  rw [mTru_at, e]; rfl
theorem mNot_ok {t : MT} {σ : SL} {h h1 : HS} {b : Bool} (e : t σ h = .ok b h1) : mNot t σ h = .ok (!b) h1 := by
  rw [mNot_at, e]; rfl
theorem sIf_nt {m : ME} {a : MS} {σ : SL} {h h1 : HS} (e : m σ h = .ok (.d (.bl true)) h1) : sIf (mNot (mTru m)) a sPass σ h = .nx σ h1 := by
  rw [sIf_ok (mNot_ok (mTru_ok e))]
  rfl
theorem sIf_nt2 {m n : ME} {a : MS} {σ : SL} {h h1 h2 : HS} (e : m σ h = .ok (.d (.bl true)) h1) (e2 : n σ h1 = .ok (.d (.bl true)) h2) : sIf (mOr (mNot (mTru m)) (mNot (mTru n))) a sPass σ h = .nx σ h2 := by
  have : mOr (mNot (mTru m)) (mNot (mTru n)) σ h = .ok false h2 := by
    rw [mOr_at, mNot_ok (mTru_ok e), bindM_ok]
    show mNot (mTru n) σ h1 = _
    rw [mNot_ok (mTru_ok e2)]
    rfl
  rw [sIf_ok this]
  rfl
theorem lend_two {f : MF} {i j : Nat} {σ : SL} {h : HS} {u v : UV} {x y : DV} (e1 : σ[i]? = some (some u)) (e2 : σ[j]? = some (some v)) (d1 : toD u = some x) (d2 : toD v = some y) (e : f [.d x, .d y] [] = .ok (.d (.bl true)) []) : mLend f [i, j] σ h = .ok (.d (.bl true)) h := by
  have a1 : dvOf σ i = some x := by unfold dvOf; rw [e1]; exact d1
  have a2 : dvOf σ j = some y := by unfold dvOf; rw [e2]; exact d2
  have : mapO (dvOf σ) [i, j] = some [x, y] := by simp only [mapO, a1, a2]
  unfold mLend
  rw [this]
  simp only [List.map_cons, List.map_nil]
  rw [e]
  rfl
theorem sAsg2 {m : ME} {i j : Nat} {σ : SL} {h h1 : HS} {A B : DV} (e : m σ h = .ok (.d (.tup [A, B])) h1) : sAsg (tdT 2 (tdCons (tdN i) (tdCons (tdN j) tdNil))) m σ h = .nx ((σ.set i (some (.d A))).set j (some (.d B))) h1 := by
  unfold sAsg; rw [e]; rfl
theorem mTup2 {m n : ME} {σ : SL} {h h1 h2 : HS} {A B : DV} (e : m σ h = .ok (.d A) h1) (e2 : n σ h1 = .ok (.d B) h2) : mTup (aCons m (aCons n aNil)) σ h = .ok (.d (.tup [A, B])) h2 := by
  rw [mTup_at, aCons_at, e, bindM_ok, aCons_at, e2]
  simp [ofO]
theorem sAE {i j : Nat} {x : DV} {σ : SL} {h : HS} {xs ys : List UV} (e1 : σ[i]? = some (some (.own xs))) (e2 : σ[j]? = some none) (e3 : mapO (apE x) xs = some ys) : sAppEach i j x σ h = .nx (σ.set i (some (.own ys))) h := by
  unfold sAppEach
  rw [e1, e2]
  simp only [e3]
theorem sRet_ok {m : ME} {σ : SL} {h h1 : HS} {u : UV} (e : m σ h = .ok u h1) : sRet m σ h = .rt u h1 := by
  rw [sRet_at, e]; rfl
theorem fzW (W : List (List Int)) : fz (.own (W.map fun w => UV.d (rowD w))) = some (.d (.lst (W.map rowD))) := by
  have := fz_own (W.map rowD)
  rw [List.map_map] at this
  exact this
section
variable {h0 : HS} {k : Nat} {h : HS}
theorem tot_small {bk : List (List Int)} (h2 : ∀ r ∈ bk, r.length ≤ 3) : tot bk ≤ 3 * bk.length := by
  induction bk with
  | nil => simp [tot]
  | cons r bk ih =>
    have a := h2 r List.mem_cons_self
    have b := ih fun r hr => h2 r (List.mem_cons_of_mem _ hr)
    simp only [tot, List.map_cons, List.sum_cons, List.length_cons] at *
    omega
theorem case_true (ho : HOk h0) (hc : CellIn h0 k h) : ∃ h', F__law_case [.ref k] h = .ok (.d (.bl true)) h' ∧ CellIn h0 k h' := by
  obtain ⟨late, h1, l0, l1, e1, c1⟩ := late_ok hc
  obtain ⟨bk, o3, h2, e2, c2, b1, b2⟩ := book_loop c1 late
  have tb := tot_small b2
  obtain ⟨r7, h3, r0, r1, e3, c3⟩ := drawL 3 c2 (by omega)
  obtain ⟨ds, h4, e4, c4, d1, d2⟩ := dels_ok (σ := [some (.ref k), some (.d (.int late)), some (.d (.lst (bk.map rowD))), o3, none, some (.d (.int (tot bk : Int))), none, some (.d (.bl (r7 == 0))), none, none, none, none, none, none, none, none]) (late := late) (full := r7 == 0) (n := tot bk) (by omega) ⟨l0, l1⟩ (fun _ => ⟨rfl, rfl, rfl⟩) rfl c3
  have g : Good bk ds late := ⟨by omega, by omega, ⟨l0, l1⟩, d1, d2⟩
  have q1 : ¬ 400 < bk.length := by omega
  have q2 : ¬ 600 < tot bk := by omega
  have q3 : ¬ 12 < late := by omega
  have ho4 := hok_cell ho c4
  obtain ⟨t1, t2⟩ := tab_small q1 q2 q3 d1 d2
  have ld := late_due (x := .lst (bk.map rowD)) (y := rowD ds) (.inl rfl) (.inl rfl) late h4 q1 q2 q3 d1 d2
  have lc : ∀ h, F_late_course [.d (.lst (bk.map rowD)), .d (rowD ds), .d (.int late)] h = _ := fun h => lc_ok (.inl rfl) (.inl rfl) late h q1 q2 q3 d1 d2
  have lct : ∀ h, F_late_course [.d (.tup (bk.map rowD)), .d (.tup (ds.map .int)), .d (.int late)] h = _ := fun h => lc_ok (.inr rfl) (.inr rfl) late h q1 q2 q3 d1 d2
  generalize tab (Lx bk.length (cs bk ds)) (cs bk ds) = T at t1 t2 ld lc lct
  have mT : ∀ h, F__law_matches [.d (.lst (T.map rowD)), .d (.lst (T.map rowD))] h = .ok (.d (.bl true)) h := fun h => match_tab T (by omega) (fun r hr => by have := t2 r hr; omega) h
  have sz : 5000 ≤ sizeLine := by decide
  have m2 := match_two bk ds (by omega) (fun r hr => by have := b2 r hr; omega) (by omega) h4
  obtain ⟨W, o14, h5, e5, c5, hW⟩ := wr_if (o2 := some (.d (.lst (bk.map rowD)))) (o3 := o3) (o4 := none) (o6 := none) (o7 := some (.d (.bl (r7 == 0)))) (o9 := some (.d (.lst (T.map rowD)))) (o10 := some (.d (.lst (bk.map rowD)))) (o11 := some (.d (rowD ds))) (o12 := some (.own ((T.map (· ++ [5])).map oI ++ [oI [1]]))) g c4 (by omega)
  obtain ⟨o15, e6⟩ := ref_loop g (hok_cell ho c5) (o0 := some (.ref k)) (o2 := some (.d (.lst (bk.map rowD)))) (o3 := o3) (o4 := none) (o5 := some (.d (.int (tot bk : Int)))) (o6 := none) (o7 := some (.d (.bl (r7 == 0)))) (o8 := some (dI ds)) (o9 := some (.d (.lst (T.map rowD)))) (o11 := some (.d (rowD ds))) (o12 := some (.own ((T.map (· ++ [5])).map oI ++ [oI [1]]))) (o14 := o14) W hW
  refine ⟨h5, fnM_rt ?_, c5⟩
  refine Eq.trans (sSeq_nx (sSet_ok e1)) ?_
  refine Eq.trans (sSeq_nx (σ1 := B16 k late [] none) (h1 := h1) rfl) ?_
  refine Eq.trans (sSeq_nx e2) ?_
  refine Eq.trans (ghFz (u := .own (bk.map oI)) rfl (fz_tab bk)) ?_
  refine Eq.trans (sSeq_nx (sSet_ok (sumlen (x := .lst (bk.map rowD)) (bk := bk) (.inl rfl) (by omega) (m := mVarE 2) (td := 6) rfl (fun _ => rfl)))) ?_
  refine Eq.trans (sSeq_nx (sSet_ok (mBin_ok (g := oEq false) (n := mK (.int 0)) (mCall2 (m := mVarE 0) (n := mK (.int 3)) rfl rfl ⟨rfl, rfl⟩ e3) rfl (oEq_int _ _ _ _)))) ?_
  refine Eq.trans (sSeq_nx (sSet_ok e4)) ?_
  refine Eq.trans (ghFz (u := oI ds) rfl (fz_oI ds)) ?_
  refine Eq.trans (sSeq_nx (sSet_ok (mFz_ok (mCall2 (m := mVarE 2) (n := mVarE 8) rfl rfl ⟨rfl, rfl⟩ ld) (fz_tab T)))) ?_
  refine Eq.trans (sSeq_nx (sAsg2 (mTup2 (mFz_ok (comp_lists (bk := bk) (by omega) (m := mVarE 2) (td := 6) rfl (fun _ => rfl)) (fz_tab bk)) (mFz_ok (mUn_ok (m := mVar 8) (u := .d (rowD ds)) rfl (fList_row h4 ds)) (fzRow ds))))) ?_
  refine Eq.trans (sSeq_nx (sSet_ok (mCall3 (m := mVarE 10) (n := mVarE 11) (p := mVarE 1) rfl rfl rfl ⟨rfl, rfl, rfl⟩ (lc h4)))) ?_
  refine Eq.trans (sSeq_nx (sIf_nt2 (lend_two (i := 12) (j := 9) (u := .own (T.map oI)) (v := .d (.lst (T.map rowD))) rfl rfl (toD_tab T) rfl (mT [])) (mCall2 (mFz_ok (lst2 (m := mVarE 10) (n := mVarE 11) rfl rfl) (fz_own [.lst (bk.map rowD), rowD ds])) (mFz_ok (lst2 (m := mVarE 2) (n := mVarE 8) rfl rfl) (fz_own [.lst (bk.map rowD), rowD ds])) ⟨rfl, rfl⟩ m2))) ?_
  refine Eq.trans (sSeq_nx (sAE (xs := T.map oI) rfl rfl (mapO_ap T t2))) ?_
  refine Eq.trans (sSeq_nx (sApp_slot (i := 12) (xs := (T.map (· ++ [5])).map oI) rfl (lst1 (m := mK (.int 1)) rfl) (by rw [List.length_map, List.length_map]; omega))) ?_
  refine Eq.trans (sSeq_nx (sIf_nt (mCall2 (n := mVarE 9) (mFz_ok (mCall3 (p := mVarE 1) (mUn_ok (m := mVar 10) rfl (fTup_lst h4 (bk.map rowD))) (mUn_ok (m := mVar 11) rfl (fTup_lst h4 (ds.map .int))) rfl ⟨rfl, rfl, rfl⟩ (lct h4)) (fz_tab T)) rfl ⟨rfl, rfl⟩ (mT h4)))) ?_
  refine Eq.trans (sSeq_nx (wr_first (k := k) (h := h4) late (some (.d (.lst (bk.map rowD)))) o3 none (tot bk) none (some (.d (.bl (r7 == 0)))) ds (by omega) (some (.d (.lst (T.map rowD)))) (some (.d (.lst (bk.map rowD)))) (some (.d (rowD ds))) (some (.own ((T.map (· ++ [5])).map oI ++ [oI [1]]))) none)) ?_
  refine Eq.trans (sSeq_nx e5) ?_
  refine Eq.trans (ghFz (u := .own (W.map fun w => .d (rowD w))) rfl (fzW W)) ?_
  refine Eq.trans (sSeq_nx e6) ?_
  exact sRet_ok (mCall2 (n := mVarE 9) (mFz_ok (mCall3 (m := mVarE 10) (n := mVarE 11) (p := mVarE 1) rfl rfl rfl ⟨rfl, rfl, rfl⟩ (lc h5)) (fz_tab T)) rfl ⟨rfl, rfl⟩ (mT h5))
end
end MM.K14

namespace MM.K14
open PySem PySem.Spec PyProof.Rows L2
theorem flat1 {α} (k : Nat) (x : α) : (List.replicate k [x]).flatten = List.replicate k x := by
  induction k with
  | zero => rfl
  | succ k ih => rw [List.replicate_succ, List.flatten_cons, ih, List.replicate_succ]; rfl
theorem oMul_one (h : HS) (x : DV) (k : Int) (hk : k ≤ 1000) (h0 : -1000 ≤ k) : oMul h (.own [.d x]) (.d (.int k)) = some (.own ((List.replicate k.toNat x).map .d)) := by
  have h1 : 1000 ≤ sizeLine := by decide
  have e : (-(2 ^ 63 : Int) ≤ k ∧ k < 2 ^ 63 ∧ [UV.d x].length * k.toNat ≤ sizeLine) := by
    have e2 : (2 : Int) ^ 63 = 9223372036854775808 := by simp
    rw [e2]
    refine ⟨by omega, by omega, ?_⟩
    show 1 * k.toNat ≤ sizeLine
    omega
  show (if ([UV.d x].all noOwn && decide _) = true then some (UV.own (List.replicate k.toNat [UV.d x]).flatten) else none) = _
  rw [decide_eq_true e, flat1, List.map_replicate]
  rfl
def Q (b : Nat) : List (List Int) := List.replicate (b - 1) [] ++ [List.replicate 600 0] ++ List.replicate (400 - b) []
def D (b : Nat) (l : Nat) : List (List Int) := List.replicate (b + l - 1) [] ++ [List.replicate 600 0] ++ List.replicate (400 - b - l) []
theorem Q_len {b : Nat} (h1 : 1 ≤ b) (h2 : b ≤ 400) : (Q b).length = 400 := by
  unfold Q
  rw [List.length_append, List.length_append, List.length_replicate, List.length_replicate]
  simp
  omega
theorem tot_rep (n : Nat) : tot (List.replicate n []) = 0 := by
  unfold tot
  rw [List.map_replicate]
  simp
theorem Q_tot (b : Nat) : tot (Q b) = 600 := by
  unfold Q
  rw [tot_app, tot_app, tot_rep, tot_rep]
  simp [tot]
theorem flat_app : ∀ (k : Nat) (a b : List (List Int)), flat k (a ++ b) = flat k a ++ flat (k + a.length) b
  | k, [], b => rfl
  | k, r :: a, b => by
    rw [List.cons_append, flat, flat, flat_app (k + 1) a b, List.append_assoc, List.length_cons, show k + (a.length + 1) = k + 1 + a.length from by omega]
theorem flat_rep (k n : Nat) : flat k (List.replicate n []) = [] := by
  have : (flat k (List.replicate n [])).length = 0 := by rw [flat_len, tot_rep]
  exact List.length_eq_zero_iff.mp this
theorem Q_flat (b : Nat) : flat 0 (Q b) = List.replicate 600 (((b - 1 : Nat) : Int), 0) := by
  unfold Q
  rw [flat_app, flat_app, flat_rep, flat_rep, List.length_replicate, List.nil_append, List.append_nil, Nat.zero_add]
  show (List.replicate 600 (0 : Int)).map _ ++ flat _ [] = _
  rw [List.map_replicate]
  rfl
theorem Q_cs (b l : Nat) : cs (Q b) (List.replicate 600 (l : Int)) = List.replicate 600 (((b - 1 + l : Nat) : Int), 0) := by
  unfold cs
  rw [Q_flat, List.zipWith_replicate]
  simp
theorem Lx_rep (n m : Nat) (c : Int) (w : Int) : Lx n (List.replicate (m + 1) (c, w)) = max n (c.toNat + 1) := by
  induction m generalizing n with
  | zero => rfl
  | succ m ih =>
    rw [List.replicate_succ]
    show Lx (max n (c.toNat + 1)) (List.replicate (m + 1) (c, w)) = _
    rw [ih]
    omega
theorem D_len {b l : Nat} (h1 : 1 ≤ b) : (D b l).length = max 400 (b + l) := by
  unfold D
  rw [List.length_append, List.length_append, List.length_replicate, List.length_replicate]
  simp
  omega
theorem D_get {b l : Nat} (t : Nat) (ht : t < max 400 (b + l)) (h1 : 1 ≤ b) : (D b l)[t]? = some (if t = b + l - 1 then List.replicate 600 0 else []) := by
  unfold D
  by_cases q : t < b + l - 1
  · rw [List.append_assoc, List.getElem?_append_left (by rw [List.length_replicate]; exact q), List.getElem?_replicate, if_pos q, if_neg (by omega)]
  · rw [List.append_assoc, List.getElem?_append_right (by rw [List.length_replicate]; omega), List.length_replicate]
    by_cases q2 : t = b + l - 1
    · rw [if_pos q2, q2, Nat.sub_self]
      rfl
    · rw [if_neg q2, List.getElem?_append_right (by simp; omega), List.length_singleton, List.getElem?_replicate, if_pos (by omega)]
theorem D_tab {b l : Nat} (h1 : 1 ≤ b) (h2 : b ≤ 400) : tab (Lx (Q b).length (cs (Q b) (List.replicate 600 (l : Int)))) (cs (Q b) (List.replicate 600 (l : Int))) = D b l := by
  rw [Q_cs, Q_len h1 h2, Lx_rep 400 599]
  have e : max 400 ((((b - 1 + l : Nat) : Int)).toNat + 1) = max 400 (b + l) := by omega
  rw [e]
  refine List.ext_getElem? fun t => ?_
  by_cases ht : t < max 400 (b + l)
  · rw [D_get t ht h1, List.getElem?_eq_getElem (by rw [tab_len]; exact ht), tab_get _ _ t ht, List.filter_replicate]
    by_cases q2 : t = b + l - 1
    · rw [if_pos (by simp; omega), if_pos q2, List.map_replicate]
    · rw [if_neg (by simp; omega), if_neg q2]
      rfl
  · rw [List.getElem?_eq_none (by rw [tab_len]; omega), List.getElem?_eq_none (by rw [D_len h1]; omega)]
end MM.K14

namespace MM.K14
open PySem PySem.Spec PyProof.Rows L2
theorem lst0 (σ : SL) (h : HS) : mLst aNil σ h = .ok (.own []) h := by simp
theorem empty_ok (σ : SL) (h : HS) : mFz (mLst aNil) σ h = .ok (.d (rowD [])) h := mFz_ok (lst0 σ h) rfl
theorem lstE (σ : SL) (h : HS) : mLst (aCons (mFz (mLst aNil)) aNil) σ h = .ok (.own [.d (rowD [])]) h := lst1 (empty_ok σ h)
theorem rep_rows {nE : ME} {σ : SL} {h : HS} {z : Int} (e : nE σ h = .ok (.d (.int z)) h) (h0 : -1000 ≤ z) (h1 : z ≤ 1000) : mBin oMul (mLst (aCons (mFz (mLst aNil)) aNil)) nE σ h = .ok (.own (((List.replicate z.toNat []).map rowD).map .d)) h := by
  have := mBin_ok (lstE σ h) e (oMul_one h (rowD []) z h1 h0)
  rw [this, List.map_replicate (f := rowD)]
theorem rep_ints {m nE : ME} {σ : SL} {h : HS} {x z : Int} (em : m σ h = .ok (.d (.int x)) h) (e : nE σ h = .ok (.d (.int z)) h) (h0 : -1000 ≤ z) (h1 : z ≤ 1000) : mFz (mBin oMul (mLst (aCons m aNil)) nE) σ h = .ok (.d (rowD (List.replicate z.toNat x))) h := by
  have := mFz_ok (mBin_ok (lst1 em) e (oMul_one h (.int x) z h1 h0)) (fz_own _)
  rw [this, rowD, List.map_replicate]
theorem oAdd_ld (h : HS) (xs ys : List DV) (hl : xs.length + ys.length ≤ sizeLine) : oAdd h (.d (.lst xs)) (.own (ys.map .d)) = some (.own ((xs ++ ys).map .d)) := by
  unfold oAdd
  simp [asM, asL, hl]
theorem sz5 : 5000 ≤ sizeLine := by decide
/-- [[]] * z1 + [[0] * 600] + [[]] * z2 -/
theorem three {n1 n2 : ME} {σ : SL} {h : HS} {z1 z2 : Int} (e1 : n1 σ h = .ok (.d (.int z1)) h) (e2 : n2 σ h = .ok (.d (.int z2)) h) (a1 : -1000 ≤ z1 ∧ z1 ≤ 1000) (a2 : -1000 ≤ z2 ∧ z2 ≤ 1000) :
    mFz (mBin oAdd (mBin oAdd (mBin oMul (mLst (aCons (mFz (mLst aNil)) aNil)) n1) (mLst (aCons (mFz (mBin oMul (mLst (aCons (mK (.int 0)) aNil)) (mK (.int 600)))) aNil))) (mBin oMul (mLst (aCons (mFz (mLst aNil)) aNil)) n2)) σ h = .ok (.d (.lst (((List.replicate z1.toNat [] ++ [List.replicate 600 0] ++ List.replicate z2.toNat [] : List (List Int))).map rowD))) h := by
  have sz := sz5
  have z : mLst (aCons (mFz (mBin oMul (mLst (aCons (mK (.int 0)) aNil)) (mK (.int 600)))) aNil) σ h = .ok (.own ([rowD (List.replicate 600 0)].map .d)) h := lst1 (rep_ints (x := 0) (z := 600) rfl rfl (by omega) (by omega))
  have s1 := mBin_ok (rep_rows e1 a1.1 a1.2) z (oAdd_ds h _ _ (by rw [List.length_map, List.length_replicate, List.length_singleton]; omega))
  have s2 := mBin_ok s1 (rep_rows e2 a2.1 a2.2) (oAdd_ds h _ _ (by rw [List.length_append, List.length_map, List.length_replicate, List.length_singleton, List.length_map, List.length_replicate]; omega))
  rw [mFz_ok s2 (fz_own _), List.map_append, List.map_append]
  rfl
theorem mTup4 {m n p q : ME} {σ : SL} {h : HS} {A B C E : DV} (e1 : m σ h = .ok (.d A) h) (e2 : n σ h = .ok (.d B) h) (e3 : p σ h = .ok (.d C) h) (e4 : q σ h = .ok (.d E) h) : mTup (aCons m (aCons n (aCons p (aCons q aNil)))) σ h = .ok (.d (.tup [A, B, C, E])) h := by
  rw [mTup_at, aCons_at, e1, bindM_ok, aCons_at, e2, bindM_ok, aCons_at, e3, bindM_ok, aCons_at, e4]
  simp [ofO]
abbrev askB : MS := sIf (mNot (mTru (mCall F__law_matches (aCons (mFz (mCallL F__law_asked (lLam 1 [6] 1 P__law_bounds q__law_bounds lNil))) (aCons (mTup (aCons (mK (.str "TooMany")) (aCons (mBin oItem (mVar 6) (mK (.int 3))) aNil))) aNil))))) (sRet (mK (.bl false))) sPass
/-- one row that is asked -/
def Ask (h : HS) (A : DV) : Prop := ∃ (X Y : DV) (z : Int) (w : Str), A = .tup [X, Y, .int z, .str w] ∧ F_late_course [.d X, .d Y, .d (.int z)] h = .err (tooMany w) h ∧ F__law_matches_f 5 [.d (.str w), .d (.str w)] h = .ok (.d (.bl true)) h
theorem ask_turn {h : HS} (ho : HOk h) {A : DV} (q : Ask h A) (o0 o1 o2 o3 o4 o5 : Option UV) : askB [o0, o1, o2, o3, o4, o5, some (.d A)] h = .nx [o0, o1, o2, o3, o4, o5, some (.d A)] h := by
  obtain ⟨X, Y, z, w, rfl, e, mw⟩ := q
  obtain ⟨t0, t1, hh⟩ := ho
  have i0 : oItem h (.d (.tup [X, Y, .int z, .str w])) (.d (.int 0)) = some (.d X) := rfl
  have i1 : oItem h (.d (.tup [X, Y, .int z, .str w])) (.d (.int 1)) = some (.d Y) := rfl
  have i2 : oItem h (.d (.tup [X, Y, .int z, .str w])) (.d (.int 2)) = some (.d (.int z)) := rfl
  have i3 : oItem h (.d (.tup [X, Y, .int z, .str w])) (.d (.int 3)) = some (.d (.str w)) := rfl
  have ec : CB 1 ([UV.d (.tup [X, Y, .int z, .str w])].map some) h = .err (tooMany w) h := by
    show mCall F_late_course _ _ h = _
    simp [i0, i1, i2, e]
  have ea := asked_over 1 [UV.d (.tup [X, Y, .int z, .str w])] w h hh rfl ec
  have el := callL (f := F__law_asked) (i := 1) (js := [6]) (ms := lNil) (σ := [o0, o1, o2, o3, o4, o5, some (.d (.tup [X, Y, .int z, .str w]))]) (as := []) (caps := []) t1 rfl rfl ea hh
  exact sIf_nt (mCall2 (mFz_ok el rfl) (mTup2 (m := mK (.str "TooMany")) rfl (mBin_ok (m := mVar 6) (n := mK (.int 3)) rfl rfl i3)) ⟨rfl, rfl⟩ (match_strs "TooMany" w h (ms3 h) mw))
theorem ask_loop {h : HS} (ho : HOk h) (o0 o1 o2 o3 o4 : Option UV) (As : List DV) (hA : ∀ A ∈ As, Ask h A) : ∃ o6, sFor (mVarE 5) (tdN 6) askB [o0, o1, o2, o3, o4, some (.d (.lst As)), none] h = .nx [o0, o1, o2, o3, o4, some (.d (.lst As)), o6] h := by
  obtain ⟨σ', h', e, o6, rfl, rfl⟩ := loop_steps (f := turnF (tdN 6) askB) (As.map UV.d) (fun _ σ h' => ∃ o6, σ = [o0, o1, o2, o3, o4, some (.d (.lst As)), o6] ∧ h' = h) [o0, o1, o2, o3, o4, some (.d (.lst As)), none] h ⟨none, rfl, rfl⟩ fun i hi σ h' ⟨o6, e1, e2⟩ => by
    subst e1 e2
    have hi' : i < As.length := by simpa using hi
    refine ⟨_, h', ?_, some (.d As[i]), rfl, rfl⟩
    simp only [List.getElem_map]
    exact ask_turn ho (hA _ (List.getElem_mem hi')) o0 o1 o2 o3 o4 _
  exact ⟨o6, (sFor_at (u := .d (.lst As)) (h1 := h') rfl rfl).trans e⟩
theorem slice_m1 (h : HS) (xs : List DV) (hx : 0 < xs.length) : sliceU h (.d (.lst xs)) none (some (-1)) = some (.own ((xs.take (xs.length - 1)).map .d)) := by
  unfold sliceU
  simp only [asL]
  have e : cutL (xs.map UV.d) none (some (-1)) = (xs.take (xs.length - 1)).map UV.d := by
    unfold cutL
    rw [HT.sIx_none, List.drop_zero, Nat.sub_zero, List.length_map, List.map_take]
    have : HT.sIx xs.length xs.length (some (-1)) = xs.length - 1 := by
      show (if (-1 : Int) < 0 then ((-1 : Int) + (xs.length : Int)).toNat else min (-1 : Int).toNat xs.length) = _
      rw [if_pos (by omega)]
      omega
    rw [this]
  rw [e]
  simp
theorem item_m1 (h : HS) (xs : List DV) (hx : 0 < xs.length) : oItem h (.d (.lst xs)) (.d (.int (-1))) = some (.d (xs[xs.length - 1]'(by omega))) := by
  have ix : ixN xs.length (-1) = some (xs.length - 1) := by
    unfold ixN
    simp
    omega
  have : itemU h (.d (.lst xs)) (.d (.int (-1))) = some (.d (xs[xs.length - 1]'(by omega))) := by
    unfold itemU
    simp only [uInt_int]
    show (match (some (xs.map UV.d)) with
      | some ys => atI ys (-1)
      | none => none) = _
    show atI (xs.map UV.d) (-1) = _
    unfold atI
    rw [List.length_map, ix]
    show (xs.map UV.d)[xs.length - 1]? = _
    rw [List.getElem?_map, List.getElem?_eq_getElem (by omega)]
    rfl
  unfold oItem
  rw [this]
  rfl
end MM.K14

namespace MM.K14
open PySem PySem.Spec PyProof.Rows L2
theorem ask_big {h : HS} {bk : List (List Int)} {Y : DV} {z : Int} (q : 400 < bk.length) : Ask h (.tup [.lst (bk.map rowD), Y, .int z, .str "beats"]) := ⟨_, _, _, _, rfl, lc1 (.inl rfl) z h q, ms4 h⟩
theorem ask_many {h : HS} {bk : List (List Int)} {Y : DV} {z : Int} (q1 : ¬ 400 < bk.length) (q : 600 < tot bk) : Ask h (.tup [.lst (bk.map rowD), Y, .int z, .str "guests"]) := ⟨_, _, _, _, rfl, lc2 (.inl rfl) z h q1 q, ms5 h⟩
theorem ask_late {h : HS} {bk : List (List Int)} {Y : DV} {z : Int} (q1 : ¬ 400 < bk.length) (q : ¬ 600 < tot bk) (q3 : 12 < z) : Ask h (.tup [.lst (bk.map rowD), Y, .int z, .str "late"]) := ⟨_, _, _, _, rfl, lc3 (.inl rfl) z h q1 q q3, ms6 h⟩
theorem tot_last {bk : List (List Int)} (hb : 0 < bk.length) (w : Int) : tot (bk.take (bk.length - 1) ++ [bk[bk.length - 1]'(by omega) ++ [w]]) = tot bk + 1 := by
  have e : bk = bk.take (bk.length - 1) ++ [bk[bk.length - 1]'(by omega)] := by
    have := List.take_append_getElem (show bk.length - 1 < bk.length by omega)
    rw [this, show bk.length - 1 + 1 = bk.length from by omega, List.take_length]
  have e2 : tot bk = tot (bk.take (bk.length - 1)) + tot [bk[bk.length - 1]'(by omega)] := by rw [← tot_app, ← e]
  rw [tot_app, e2]
  simp [tot]
  omega
section
variable {h0 : HS} {k : Nat} {h : HS}
theorem bounds_true (ho : HOk h0) (hc : CellIn h0 k h) : ∃ h', F__law_bounds [.ref k] h = .ok (.d (.bl true)) h' := by
  obtain ⟨r, h1, r0, r1, e1, c1⟩ := drawL 400 hc (by omega)
  obtain ⟨b, hb, hb1, hb2⟩ : ∃ b : Nat, 1 + r = (b : Int) ∧ 1 ≤ b ∧ b ≤ 400 := ⟨(1 + r).toNat, by omega, by omega, by omega⟩
  obtain ⟨s, h2, s0, s1, e2, c2⟩ := drawL 13 c1 (by omega)
  obtain ⟨l, rfl⟩ : ∃ l : Nat, s = (l : Int) := ⟨s.toNat, by omega⟩
  have ho2 := hok_cell ho c2
  have ql := Q_len hb1 hb2
  have qt := Q_tot b
  have q1 : ¬ 400 < (Q b).length := by omega
  have q2 : ¬ 600 < tot (Q b) := by omega
  have sz := sz5
  have eQ : ∀ σ' : SL, σ'[1]? = some (some (.d (.int (b : Int)))) → mFz (mBin oAdd (mBin oAdd (mBin oMul (mLst (aCons (mFz (mLst aNil)) aNil)) (mBin oSub (mVar 1) (mK (.int 1)))) (mLst (aCons (mFz (mBin oMul (mLst (aCons (mK (.int 0)) aNil)) (mK (.int 600)))) aNil))) (mBin oMul (mLst (aCons (mFz (mLst aNil)) aNil)) (mBin oSub (mK (.int 400)) (mVar 1)))) σ' h1 = .ok (.d (.lst ((Q b).map rowD))) h1 := fun σ' q => by
    have v1 : mVar 1 σ' h1 = .ok (.d (.int (b : Int))) h1 := by rw [mVar_at, q]
    have := three (σ := σ') (h := h1) (n1 := mBin oSub (mVar 1) (mK (.int 1))) (n2 := mBin oSub (mK (.int 400)) (mVar 1)) (mBin_ok v1 rfl (oSub_int h1 _ _)) (mBin_ok (m := mK (.int 400)) rfl v1 (oSub_int h1 _ _)) (by omega) (by omega)
    rw [this, show ((b : Int) - 1).toNat = b - 1 from by omega, show ((400 : Int) - (b : Int)).toNat = 400 - b from by omega]
    rfl
  have eD : mFz (mBin oAdd (mBin oAdd (mBin oMul (mLst (aCons (mFz (mLst aNil)) aNil)) (mBin oSub (mBin oAdd (mVar 1) (mVar 3)) (mK (.int 1)))) (mLst (aCons (mFz (mBin oMul (mLst (aCons (mK (.int 0)) aNil)) (mK (.int 600)))) aNil))) (mBin oMul (mLst (aCons (mFz (mLst aNil)) aNil)) (mBin fMax2 (mK (.int 0)) (mBin oSub (mBin oSub (mK (.int 400)) (mVar 1)) (mVar 3))))) [some (.ref k), some (.d (.int (b : Int))), some (.d (.lst ((Q b).map rowD))), some (.d (.int (l : Int))), none, none, none] h2 = .ok (.d (.lst ((D b l).map rowD))) h2 := by
    have fm : fMax2 h2 (.d (.int 0)) (.d (.int ((400 : Int) - (b : Int) - (l : Int)))) = some (.d (.int ((400 - b - l : Nat) : Int))) := by
      show some (UV.d (.int (if (400 : Int) - (b : Int) - (l : Int) > 0 then (400 : Int) - (b : Int) - (l : Int) else 0))) = _
      by_cases q : (400 : Int) - (b : Int) - (l : Int) > 0
      · rw [if_pos q, show (400 : Int) - (b : Int) - (l : Int) = ((400 - b - l : Nat) : Int) from by omega]
      · rw [if_neg q, show ((400 - b - l : Nat) : Int) = 0 from by omega]
    have := three (σ := [some (.ref k), some (.d (.int (b : Int))), some (.d (.lst ((Q b).map rowD))), some (.d (.int (l : Int))), none, none, none]) (h := h2) (n1 := mBin oSub (mBin oAdd (mVar 1) (mVar 3)) (mK (.int 1))) (n2 := mBin fMax2 (mK (.int 0)) (mBin oSub (mBin oSub (mK (.int 400)) (mVar 1)) (mVar 3))) (mBin_ok (n := mK (.int 1)) (mBin_ok (m := mVar 1) (n := mVar 3) rfl rfl (oAdd_int h2 _ _)) rfl (oSub_int h2 _ _)) (mBin_ok (m := mK (.int 0)) rfl (mBin_ok (n := mVar 3) (mBin_ok (m := mK (.int 400)) (n := mVar 1) rfl rfl (oSub_int h2 _ _)) rfl (oSub_int h2 _ _)) fm) (by omega) (by omega)
    rw [this, show ((b : Int) + (l : Int) - 1).toNat = b + l - 1 from by omega, show (((400 - b - l : Nat) : Int)).toNat = 400 - b - l from by omega]
    rfl
  have lc := lc_ok (bk := Q b) (ds := List.replicate 600 (l : Int)) (x := .lst ((Q b).map rowD)) (y := rowD (List.replicate 600 (l : Int))) (.inl rfl) (.inl rfl) (l : Int) h2 q1 q2 (by omega) (by rw [List.length_replicate, qt]) (fun d hd => by have := List.eq_of_mem_replicate hd; omega)
  rw [D_tab hb1 hb2] at lc
  have mD := match_tab (D b l) (by rw [D_len hb1]; omega) (fun r hr => by
    unfold D at hr
    rcases List.mem_append.mp hr with hr | hr
    · rcases List.mem_append.mp hr with hr | hr
      · rw [List.eq_of_mem_replicate hr]; simp
      · rw [List.mem_singleton.mp hr, List.length_replicate]; omega
    · rw [List.eq_of_mem_replicate hr]; simp) h2
  let σ4 : SL := [some (.ref k), some (.d (.int (b : Int))), some (.d (.lst ((Q b).map rowD))), some (.d (.int (l : Int))), some (.d (.lst ((D b l).map rowD))), none, none]
  have rep : ∀ (σ' : SL) (n : Int), σ'[3]? = some (some (.d (.int (l : Int)))) → -1000 ≤ n → n ≤ 1000 → mFz (mBin oMul (mLst (aCons (mVarE 3) aNil)) (mK (.int n))) σ' h2 = .ok (.d (rowD (List.replicate n.toNat (l : Int)))) h2 := fun σ' n q a1 a2 => rep_ints (by rw [mVarE_at, q]; rfl) rfl a1 a2
  let A1 : DV := .tup [.lst ((Q b ++ [[]]).map rowD), rowD (List.replicate (600 : Int).toNat (l : Int)), .int 13, .str "beats"]
  let A2 : DV := .tup [.lst ((Q b ++ [[1]]).map rowD), rowD [], .int (l : Int), .str "beats"]
  have pre2 : 0 < (Q b).length := by omega
  let A3 : DV := .tup [.lst (((Q b).take ((Q b).length - 1) ++ [(Q b)[(Q b).length - 1]'(by omega) ++ [0]]).map rowD), rowD (List.replicate (601 : Int).toNat (l : Int)), .int 13, .str "guests"]
  let A4 : DV := .tup [.lst ((Q b).map rowD), rowD [-1], .int 13, .str "late"]
  have a1 : mTup (aCons (mFz (mBin oAdd (mVar 2) (mLst (aCons (mFz (mLst aNil)) aNil)))) (aCons (mFz (mBin oMul (mLst (aCons (mVarE 3) aNil)) (mK (.int 600)))) (aCons (mK (.int 13)) (aCons (mK (.str "beats")) aNil)))) σ4 h2 = .ok (.d A1) h2 := by
    refine mTup4 ?_ (rep σ4 600 rfl (by omega) (by omega)) rfl rfl
    rw [mFz_ok (mBin_ok (m := mVar 2) (u := .d (.lst ((Q b).map rowD))) rfl (lstE σ4 h2) (oAdd_ld h2 _ [rowD []] (by rw [List.length_map, ql, List.length_singleton]; omega))) (fz_own _), List.map_append]
    rfl
  have a2 : mTup (aCons (mFz (mBin oAdd (mVar 2) (mLst (aCons (mFz (mLst (aCons (mK (.int 1)) aNil))) aNil)))) (aCons (mFz (mLst aNil)) (aCons (mVarE 3) (aCons (mK (.str "beats")) aNil)))) σ4 h2 = .ok (.d A2) h2 := by
    refine mTup4 ?_ (empty_ok σ4 h2) rfl rfl
    have l1 : mLst (aCons (mFz (mLst (aCons (mK (.int 1)) aNil))) aNil) σ4 h2 = .ok (.own ([rowD [1]].map .d)) h2 := lst1 (mFz_ok (lst1 (m := mK (.int 1)) rfl) (fz_own [.int 1]))
    rw [mFz_ok (mBin_ok (m := mVar 2) (u := .d (.lst ((Q b).map rowD))) rfl l1 (oAdd_ld h2 _ [rowD [1]] (by rw [List.length_map, ql, List.length_singleton]; omega))) (fz_own _), List.map_append]
    rfl
  let σ5 : SL := [some (.ref k), some (.d (.int (b : Int))), some (.d (.lst ((Q b).map rowD))), some (.d (.int (l : Int))), some (.d (.lst ((D b l).map rowD))), some (.d (.lst [A1, A2])), none]
  have a3 : mTup (aCons (mFz (mBin oAdd (mSlice (mVar 2) oNo (oYes (mUn oNeg (mK (.int 1))))) (mLst (aCons (mFz (mBin oAdd (mBin oItem (mVar 2) (mUn oNeg (mK (.int 1)))) (mLst (aCons (mK (.int 0)) aNil)))) aNil)))) (aCons (mFz (mBin oMul (mLst (aCons (mVarE 3) aNil)) (mK (.int 601)))) (aCons (mK (.int 13)) (aCons (mK (.str "guests")) aNil)))) σ5 h2 = .ok (.d A3) h2 := by
    refine mTup4 ?_ (rep σ5 601 rfl (by omega) (by omega)) rfl rfl
    have sl := mSl1 (m := mVar 2) (n := mUn oNeg (mK (.int 1))) (σ := σ5) (h := h2) (u := .d (.lst ((Q b).map rowD))) (i := -1) rfl rfl (slice_m1 h2 _ (by rw [List.length_map]; omega))
    have it := mBin_ok (g := oItem) (m := mVar 2) (n := mUn oNeg (mK (.int 1))) (σ := σ5) (h := h2) (u := .d (.lst ((Q b).map rowD))) (v := .d (.int (-1))) rfl rfl (item_m1 h2 _ (by rw [List.length_map]; omega))
    simp only [List.length_map, List.getElem_map] at sl it
    have rl : ((Q b)[(Q b).length - 1]'(by omega)).length ≤ 600 := by
      have hm := List.getElem_mem (show (Q b).length - 1 < (Q b).length by omega)
      generalize (Q b)[(Q b).length - 1]'(by omega) = r at hm
      unfold Q at hm
      rcases List.mem_append.mp hm with hr | hr
      · rcases List.mem_append.mp hr with hr | hr
        · rw [List.eq_of_mem_replicate hr]; simp
        · rw [List.mem_singleton.mp hr, List.length_replicate]; omega
      · rw [List.eq_of_mem_replicate hr]; simp
    have l0 : mLst (aCons (mK (.int 0)) aNil) σ5 h2 = .ok (oI [0]) h2 := lst1 rfl
    have i2 := mFz_ok (mBin_ok it l0 (oAdd_dI h2 _ [0] (by rw [List.length_singleton]; omega))) (fzRow _)
    have l1 := lst1 i2
    have tk : ((Q b).map rowD).take ((Q b).length - 1) = ((Q b).take ((Q b).length - 1)).map rowD := by rw [List.map_take]
    rw [tk] at sl
    rw [mFz_ok (mBin_ok sl l1 (oAdd_ds h2 _ [rowD ((Q b)[(Q b).length - 1]'(by omega) ++ [0])] (by rw [List.length_map, List.length_take, List.length_singleton]; omega))) (fz_own _), List.map_append]
    rfl
  have a4 : mTup (aCons (mVarE 2) (aCons (mFz (mLst (aCons (mUn oNeg (mK (.int 1))) aNil))) (aCons (mK (.int 13)) (aCons (mK (.str "late")) aNil)))) σ5 h2 = .ok (.d A4) h2 :=
    mTup4 (m := mVarE 2) rfl (mFz_ok (lst1 (m := mUn oNeg (mK (.int 1))) (u := .d (.int (-1))) rfl) (fz_own [.int (-1)])) rfl rfl
  have as1 := mFz_ok (lst2 a1 a2) (fz_own [A1, A2])
  have as2 := mFz_ok (mBin_ok (g := oAdd) (m := mVar 5) (σ := σ5) (h := h2) (u := .d (.lst [A1, A2])) rfl (lst2 a3 a4) (oAdd_ld h2 [A1, A2] [A3, A4] (by show 2 + 2 ≤ sizeLine; omega))) (fz_own ([A1, A2] ++ [A3, A4]))
  obtain ⟨o6, e6⟩ := ask_loop ho2 (some (.ref k)) (some (.d (.int (b : Int)))) (some (.d (.lst ((Q b).map rowD)))) (some (.d (.int (l : Int)))) (some (.d (.lst ((D b l).map rowD)))) ([A1, A2] ++ [A3, A4]) (fun A hA => by
    simp only [List.cons_append, List.nil_append, List.mem_cons, List.not_mem_nil, or_false] at hA
    rcases hA with rfl | rfl | rfl | rfl
    · exact ask_big (by rw [List.length_append, ql, List.length_singleton]; omega)
    · exact ask_big (by rw [List.length_append, ql, List.length_singleton]; omega)
    · exact ask_many (by rw [List.length_append, List.length_take, List.length_singleton]; omega) (by rw [tot_last pre2]; omega)
    · exact ask_late q1 q2 (by omega))
  refine ⟨h2, fnM_rt ?_⟩
  refine Eq.trans (sSeq_nx (σ1 := [some (.ref k), some (.d (.int (b : Int))), none, none, none, none, none]) (h1 := h1) ?_) ?_
  · rw [← hb]
    exact sSet_ok (mBin_ok (m := mK (.int 1)) rfl (mCall2 (m := mVarE 0) (n := mK (.int 400)) rfl rfl ⟨rfl, rfl⟩ e1) (oAdd_int h1 _ _))
  refine Eq.trans (sSeq_nx (sSet_ok (eQ _ rfl))) ?_
  refine Eq.trans (sSeq_nx (sSet_ok (mCall2 (m := mVarE 0) (n := mK (.int 13)) rfl rfl ⟨rfl, rfl⟩ e2))) ?_
  refine Eq.trans (sSeq_nx (sSet_ok eD)) ?_
  refine Eq.trans (sSeq_nx (sIf_nt (mCall2 (n := mVarE 4) (mFz_ok (mCall3 (m := mVarE 2) (p := mVarE 3) rfl (rep σ4 600 rfl (by omega) (by omega)) rfl ⟨rfl, rfl, rfl⟩ lc) (fz_tab _)) rfl ⟨rfl, rfl⟩ mD))) ?_
  refine Eq.trans (sSeq_nx (sSet_ok as1)) ?_
  refine Eq.trans (sSeq_nx (sSet_ok as2)) ?_
  refine Eq.trans (sSeq_nx e6) ?_
  rfl
end
end MM.K14

namespace MM.K14
open PySem PySem.Spec PyProof.Rows L2
theorem mCel_ok {m : ME} {σ : SL} {h h1 : HS} {xs : List UV} (e : m σ h = .ok (.own xs) h1) : mCel m σ h = .ok (.ref h1.length) (h1 ++ [.lst xs]) := by
  unfold mCel
  rw [e]
  rfl
theorem mCall1 {f : MF} {m : ME} {σ : SL} {h h1 h2 : HS} {u w : UV} (e1 : m σ h = .ok u h1) (ho : noOwn u = true) (e : f [u] h1 = .ok w h2) : mCall f (aCons m aNil) σ h = .ok w h2 := by
  rw [mCall_at, aCons_at, e1]
  simp [ho, e]
theorem stock_cell (ns : List Int) (i : Nat) (hi : i < 1000) (h : HS) {m : ME} {σ : SL} (e0 : mVarE 0 σ h = .ok (.d (.rol (ns.map .int))) h) (e1 : m σ h = .ok (.d (.int (i : Int))) h) : ∃ h', mCel (mCall F__law_stock (aCons (mVarE 0) (aCons m aNil))) σ h = .ok (.ref h.length) h' ∧ CellIn h h.length h' := by
  obtain ⟨a, b, e⟩ := stock ns i hi h
  exact ⟨_, mCel_ok (mCall2 e0 e1 ⟨rfl, rfl⟩ e), a, b, i, rfl, rfl⟩
theorem turn_case (ns : List Int) (i : Nat) (hi : i < 1000) (h : HS) (ho : HOk h) (o1 : Option UV) : ∃ h', turnF (tdN 1) (sIf (mNot (mTru (mCall F__law_case (aCons (mCel (mCall F__law_stock (aCons (mVarE 0) (aCons (mVarE 1) aNil)))) aNil)))) (sRet (mK (.bl false))) sPass) (.d (.int (i : Int))) [some (.d (.rol (ns.map .int))), o1] h = .nx [some (.d (.rol (ns.map .int))), some (.d (.int (i : Int)))] h' ∧ HOk h' := by
  obtain ⟨h1, e1, c1⟩ := stock_cell ns i hi h (m := mVarE 1) (σ := [some (.d (.rol (ns.map .int))), some (.d (.int (i : Int)))]) rfl rfl
  obtain ⟨h2, e2, c2⟩ := case_true ho c1
  exact ⟨h2, sIf_nt (mCall1 e1 rfl e2), hok_cell ho c2⟩
theorem law_true : ∀ ns : List Int, ns.length ≤ 63 → (∀ z ∈ ns, Builtin.Int.intBits z ≤ 1048576) → ∃ h2, F_law [.d (.rol (ns.map .int))] (tabs0.map fun p => .tab p.1 p.2) = .ok (.d (.bl true)) h2 := by
  intro ns _ _
  have ho : HOk (tabs0.map fun p => .tab p.1 p.2) := ⟨rfl, rfl, rfl⟩
  generalize (tabs0.map fun p => Cel.tab p.1 p.2) = h0 at ho
  obtain ⟨h1, e1, k1⟩ := turn_case ns 0 (by omega) h0 ho none
  obtain ⟨h2, e2, k2⟩ := turn_case ns 1 (by omega) h1 k1 (some (.d (.int ((0 : Nat) : Int))))
  obtain ⟨h3, e3, c3⟩ := stock_cell ns 2 (by omega) h2 (m := mK (.int 2)) (σ := [some (.d (.rol (ns.map .int))), some (.d (.int ((1 : Nat) : Int)))]) rfl rfl
  obtain ⟨h4, e4⟩ := bounds_true k2 c3
  refine ⟨h4, fnM_rt ?_⟩
  refine Eq.trans (sSeq_nx (σ1 := [some (.d (.rol (ns.map .int))), some (.d (.int ((1 : Nat) : Int)))]) (h1 := h2) ?_) ?_
  · refine Eq.trans (sForR_at (i := 0) (j := 2) (h1 := h0) (h2 := h0) rfl rfl (by omega)) ?_
    show loopL _ [UV.d (.int (0 : Int)), UV.d (.int (1 : Int))] _ _ = _
    refine Eq.trans (loopL_nx e1) ?_
    refine Eq.trans (loopL_nx e2) ?_
    rfl
  · exact sRet_ok (mCall1 e3 rfl e4)
end MM.K14

open PySem PySem.W PyProof.Rows MM.K14
set_option maxHeartbeats 0 in
theorem PySem.Challenge.cw_neverlifted_k14_late_guests_come_in_orde_holds : PySem.Challenge.rw_neverlifted_k14_late_guests_come_in_orde.Holds := by
  w_on; o_law; k_head; (case hw => w_witness2)
  k_fill
  refine LamX.walk_ofTs (l := PySem.Challenge.rw_neverlifted_k14_late_guests_come_in_orde) (n := 63) (k := 9) (x := "script") (CX := fun w => L2.CX pw w) rfl (by decide) rfl ⟨rfl, by decide, by decide⟩ (fun w h Y => PySem.W.km_in_of Y) ?F (fun _ _ _ _ _ ⟨_, _, _, _, _, _, _, _, _, _, _, _, z⟩ => z)
  case F =>
    intro w mg fa h Y KX G hmg
    refine' all_mk KX G hmg (fun P hP => PySem.W.km_tabs_of Y P (by revert hP; revert P; decide)) law_true ?a__law_draw ?l__law_draw ?c__law_draw ?k__law_draw ?a__law_matches ?l__law_matches ?c__law_matches ?k__law_matches ?a_check ?l_check ?c_check ?k_check ?a_late_course ?l_late_course ?c_late_course ?k_late_course ?a__law_asked ?l__law_asked ?c__law_asked ?k__law_asked ?a__law_bounds ?l__law_bounds ?c__law_bounds ?k__law_bounds ?h__law_bounds ?n__law_bounds ?a__law_stock ?l__law_stock ?c__law_stock ?k__law_stock ?a__law_late_due ?l__law_late_due ?c__law_late_due ?k__law_late_due ?a__law_case ?l__law_case ?c__law_case ?k__law_case ?h__law_case ?n__law_case ?a_law ?l_law ?c_law ?k_law ?a_BadCourse ?e_BadCourse ?eb_BadCourse ?es_BadCourse ?ex_BadCourse ?et_BadCourse ?ek_BadCourse ?eg_BadCourse ?ea_BadCourse ?ed_BadCourse ?ec_BadCourse ?em_BadCourse ?a_BadKitchen ?e_BadKitchen ?eb_BadKitchen ?es_BadKitchen ?ex_BadKitchen ?et_BadKitchen ?ek_BadKitchen ?eg_BadKitchen ?ea_BadKitchen ?ed_BadKitchen ?ec_BadKitchen ?em_BadKitchen ?a_LiftedError ?e_LiftedError ?eb_LiftedError ?es_LiftedError ?ex_LiftedError ?et_LiftedError ?ek_LiftedError ?eg_LiftedError ?ea_LiftedError ?ed_LiftedError ?ec_LiftedError ?em_LiftedError ?a_TooMany ?e_TooMany ?eb_TooMany ?es_TooMany ?ex_TooMany ?et_TooMany ?ek_TooMany ?eg_TooMany ?ea_TooMany ?ed_TooMany ?ec_TooMany ?em_TooMany ?cn ?ct ?lg ?lr ?li ?ia_BadCourse ?it_BadCourse ?il_BadCourse ?ic_BadCourse ?ik_BadCourse ?if_BadCourse_what ?s_BadCourse_BadCourse ?s_BadCourse_BadKitchen ?s_BadCourse_LiftedError ?s_BadCourse_TooMany ?z_BadCourse_BadCourse ?z_BadCourse_BadKitchen ?z_BadCourse_LiftedError ?z_BadCourse_TooMany ?s_BadCourse_ValueError ?ia_TooMany ?it_TooMany ?il_TooMany ?ic_TooMany ?ik_TooMany ?if_TooMany_what ?s_TooMany_BadCourse ?s_TooMany_BadKitchen ?s_TooMany_LiftedError ?s_TooMany_TooMany ?z_TooMany_BadCourse ?z_TooMany_BadKitchen ?z_TooMany_LiftedError ?z_TooMany_TooMany ?s_TooMany_ValueError ?tx_ValueError ?tm_ValueError ?a_LIMITS ?l_LIMITS ?kl_LIMITS ?d_LIMITS_0 ?d_LIMITS_1 ?d_LIMITS_2 ?b_ValueError ?b_abs ?b_bool ?b_dict ?b_int ?b_isinstance ?b_len ?b_list ?b_max ?b_range ?b_str ?b_sum ?b_tuple
    (case a__law_draw => k_is); (case l__law_draw => k_is); (case c__law_draw => k_is); (case k__law_draw => k_is); (case a__law_matches => k_is); (case l__law_matches => k_is); (case c__law_matches => k_is); (case k__law_matches => k_is); (case a_check => k_is); (case l_check => k_is); (case c_check => k_is); (case k_check => k_is); (case a_late_course => k_is); (case l_late_course => k_is); (case c_late_course => k_is); (case k_late_course => k_is); (case a__law_asked => k_is); (case l__law_asked => k_is); (case c__law_asked => k_is); (case k__law_asked => k_is); (case a__law_bounds => k_is); (case l__law_bounds => k_is); (case c__law_bounds => k_is); (case k__law_bounds => k_is); (case h__law_bounds => first | rfl | kernel_rfl | decide +kernel); (case n__law_bounds => first | rfl | kernel_rfl | decide +kernel); (case a__law_stock => k_is); (case l__law_stock => k_is); (case c__law_stock => k_is); (case k__law_stock => k_is); (case a__law_late_due => k_is); (case l__law_late_due => k_is); (case c__law_late_due => k_is); (case k__law_late_due => k_is); (case a__law_case => k_is); (case l__law_case => k_is); (case c__law_case => k_is); (case k__law_case => k_is); (case h__law_case => first | rfl | kernel_rfl | decide +kernel); (case n__law_case => first | rfl | kernel_rfl | decide +kernel); (case a_law => k_is); (case l_law => k_is); (case c_law => k_is); (case k_law => k_is); (case a_BadCourse => k_is); (case e_BadCourse => k_is); (case eb_BadCourse => first | rfl | kernel_rfl | decide +kernel); (case es_BadCourse => k_is); (case ex_BadCourse => k_is); (case et_BadCourse => k_is); (case ek_BadCourse => k_is); (case eg_BadCourse => k_is); (case ea_BadCourse => k_is); (case ed_BadCourse => k_is); (case ec_BadCourse => k_is); (case em_BadCourse => k_is); (case a_BadKitchen => k_is); (case e_BadKitchen => k_is); (case eb_BadKitchen => first | rfl | kernel_rfl | decide +kernel); (case es_BadKitchen => k_is); (case ex_BadKitchen => k_is); (case et_BadKitchen => k_is); (case ek_BadKitchen => k_is); (case eg_BadKitchen => k_is); (case ea_BadKitchen => k_is); (case ed_BadKitchen => k_is); (case ec_BadKitchen => k_is); (case em_BadKitchen => k_is); (case a_LiftedError => k_is); (case e_LiftedError => k_is); (case eb_LiftedError => first | rfl | kernel_rfl | decide +kernel); (case es_LiftedError => k_is); (case ex_LiftedError => k_is); (case et_LiftedError => k_is); (case ek_LiftedError => k_is); (case eg_LiftedError => k_is); (case ea_LiftedError => k_is); (case ed_LiftedError => k_is); (case ec_LiftedError => k_is); (case em_LiftedError => k_is); (case a_TooMany => k_is); (case e_TooMany => k_is); (case eb_TooMany => first | rfl | kernel_rfl | decide +kernel); (case es_TooMany => k_is); (case ex_TooMany => k_is); (case et_TooMany => k_is); (case ek_TooMany => k_is); (case eg_TooMany => k_is); (case ea_TooMany => k_is); (case ed_TooMany => k_is); (case ec_TooMany => k_is); (case em_TooMany => k_is); (case cn => k_is); (case ct => k_is); (case lg => k_is); (case lr => k_is); (case li => k_is); (case ia_BadCourse => k_is); (case it_BadCourse => k_is); (case il_BadCourse => k_is); (case ic_BadCourse => k_is); (case ik_BadCourse => k_is); (case if_BadCourse_what => k_is); (case s_BadCourse_BadCourse => k_is); (case s_BadCourse_BadKitchen => k_is); (case s_BadCourse_LiftedError => k_is); (case s_BadCourse_TooMany => k_is); (case z_BadCourse_BadCourse => decide); (case z_BadCourse_BadKitchen => decide); (case z_BadCourse_LiftedError => decide); (case z_BadCourse_TooMany => decide); (case s_BadCourse_ValueError => k_is); (case ia_TooMany => k_is); (case it_TooMany => k_is); (case il_TooMany => k_is); (case ic_TooMany => k_is); (case ik_TooMany => k_is); (case if_TooMany_what => k_is); (case s_TooMany_BadCourse => k_is); (case s_TooMany_BadKitchen => k_is); (case s_TooMany_LiftedError => k_is); (case s_TooMany_TooMany => k_is); (case z_TooMany_BadCourse => decide); (case z_TooMany_BadKitchen => decide); (case z_TooMany_LiftedError => decide); (case z_TooMany_TooMany => decide); (case s_TooMany_ValueError => k_is); (case tx_ValueError => k_is); (case tm_ValueError => first | rfl | kernel_rfl | decide +kernel); (case a_LIMITS => k_is); (case l_LIMITS => k_is); (case kl_LIMITS => repeat (first | exact trivial | refine ⟨⟨_, _, rfl, rfl⟩, ?_⟩)); (case d_LIMITS_0 => k_is); (case d_LIMITS_1 => k_is); (case d_LIMITS_2 => k_is); (case b_ValueError => k_is); (case b_abs => k_is); (case b_bool => k_is); (case b_dict => k_is); (case b_int => k_is); (case b_isinstance => k_is); (case b_len => k_is); (case b_list => k_is); (case b_max => k_is); (case b_range => k_is); (case b_str => k_is); (case b_sum => k_is); (case b_tuple => k_is)

