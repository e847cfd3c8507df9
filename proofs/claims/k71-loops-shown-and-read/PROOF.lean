import PyProof.Rows.All
import Wide.All
import OpenK.AllK
import Wide.FinOn
import HandS.ForMost
import HandS.Exc
import HandS.TryOnly
import HandS.ExcOwn
import HandS.WordsExc
import HandS.Wide
import HandS.Defaults
import HandS.New0
import HandS.IsInst
import HandS.Iter
import HandS.Rev
import HandS.Deep
import HandS.TupAny
import HandS.Steps
import HandS.ExcIs
import HandS.ExcValue
import KE.KExcIs
import HandS.Dict
import HandS.ForDict
import HandS.ExcInit
import HandS.ExcField
import KE.GoesRaise
import HandS.RevTup
import KE.OsSortAny
import HandS.More
import HandS.WordsDict
import HandS.FStr
import HandS.Text
import KE.KStateDown
import HandS.Ends
import HandS.Head0
import HandS.Head1
import HandS.Head2
import HandS.HeadEnd
import HandS.HeadHook1
import HandS.HeadHook2
import HandS.EndBits
import PySem.Challenge.RW_lapwork_k71_loops_shown_and_read
set_option Elab.async false
set_option linter.all false
set_option maxRecDepth 100000
set_option maxHeartbeats 4000000
/-! Data in the place of heaps: D is a value as a tree; R is what code gives: a value, an exception, or nothing that we can tell. -/
namespace Lw
open PySem PySem.Spec PyProof.Rows L2
inductive D where
  | non | bl (b : Bool) | int (i : Int) | str (s : Str)
  | lst (xs : List D) | scr (xs : List D) | tup (xs : List D) | dct (ks xs : List D) | dcT (ks xs : List D)
  | obj (c : Str) (ns : List Str) (xs : List D) | exc (c : Str) (ns : List Str) (xs : List D)
structure Ex where
  cls : Str
  ns : List Str
  xs : List D
inductive R (α : Type) where
  | ok (a : α) | exc (e : Ex) | bad
namespace R
def bind {α β : Type} (r : R α) (f : α → R β) : R β := match r with
  | .ok a => f a
  | .exc e => .exc e
  | .bad => .bad
@[simp] theorem bind_ok {α β : Type} (a : α) (f : α → R β) : (R.ok a).bind f = f a := Eq.trans rfl rfl
@[simp] theorem bind_exc {α β : Type} (e : Ex) (f : α → R β) : (R.exc e : R α).bind f = .exc e := Eq.trans rfl rfl
@[simp] theorem bind_bad {α β : Type} (f : α → R β) : (R.bad : R α).bind f = .bad := Eq.trans rfl rfl
theorem bind_assoc {α β γ : Type} (r : R α) (f : α → R β) (g : β → R γ) : (r.bind f).bind g = r.bind fun a => (f a).bind g := by
  cases r <;> rfl
/-- two values, then f of them -/
def bin2 {α : Type} (ra rb : R D) (f : D → D → R α) : R α := ra.bind fun x => rb.bind fun y => f x y
@[simp] theorem bin2_ok {α : Type} (a b : D) (f : D → D → R α) : bin2 (.ok a) (.ok b) f = f a b := Eq.trans rfl rfl
/-- a value ahead of a list -/
def cons (r : R D) (rs : R (List D)) : R (List D) := r.bind fun d => rs.bind fun ds => .ok (d :: ds)
@[simp] theorem cons_ok (a : D) (as : List D) : cons (.ok a) (.ok as) = .ok (a :: as) := Eq.trans rfl rfl
theorem bind_pure {α : Type} (r : R α) : (r.bind fun a => .ok a) = r := by
  cases r <;> rfl
end R
/-! ### what a data value is on a heap -/
def kD : Key → D
  | .inl i => .int i
  | .inr s => .str s
/-- a text that may stand: its signs, its length -/
def sOk (s : Str) : Bool := PyData.strOk s && decide (s.length ≤ 16777216)
/-- an exception object at a, caught -/
def ExK (cls : Value) (d : Option Addr) (a : Addr) : HO := .ext fun h => ∃ (oe : Obj) (vs : Array Value), h.get? a = some oe ∧ Zc cls d oe ∧ oe.data = .fields vs
mutual
def Rep (K : PySem.W.Frag) (mg : Str → Option Value) (G : Hp) : D → V → Prop
  | .non, v => v = .non
  | .bl b, v => v = .bl b
  | .int i, v => v = .int i
  | .str s, v => v = .str s ∧ sOk s = true
  | .lst ds, v => ∃ a vs, v = .ref a ∧ G a = some (.lst vs) ∧ Reps K mg G ds vs
  | .scr ds, v => ∃ a vs, v = .ref a ∧ SqL K G a vs ∧ Reps K mg G ds vs
  | .tup ds, v => ∃ a vs, v = .ref a ∧ SqT K G a vs ∧ Reps K mg G ds vs
  | .dct ks ds, v => ∃ a, v = .ref a ∧ ∃ kvs : List (Key × V), Rd G a (.dK kvs) ∧ ks = kvs.map (fun p => kD p.1) ∧ Reps K mg G ds (kvs.map (·.2))
  | .dcT ks ds, v => ∃ a, v = .ref a ∧ ∃ kvs : List (List Key × V), G a = some (.dT kvs) ∧ ks = kvs.map (fun p => .tup (p.1.map kD)) ∧ Reps K mg G ds (kvs.map (·.2))
  | .obj c ns ds, v => ∃ a C dx fs, v = .ref a ∧ G a = some (.ins C dx fs) ∧ mg c = some (.ref C) ∧ fs.map (·.1) = ns ∧ Reps K mg G ds (fs.map (·.2))
  | .exc c ns ds, v => ∃ a C xd, v = .ref a ∧ G a = some (ExK (.ref C) xd a) ∧ mg c = some (.ref C) ∧ ((ns = [] ∧ ds = [] ∧ xd = none) ∨ ∃ dx fs, ns ≠ [] ∧ xd = some dx ∧ G dx = some (.xd fs) ∧ fs.map (·.1) = ns ∧ Reps K mg G ds (fs.map (·.2)))
def Reps (K : PySem.W.Frag) (mg : Str → Option Value) (G : Hp) : List D → List V → Prop
  | [], vs => vs = []
  | d :: ds, vs => ∃ v r, vs = v :: r ∧ Rep K mg G d v ∧ Reps K mg G ds r
end
section
variable {K : PySem.W.Frag} {mg : Str → Option Value} {G G' : Hp}
theorem sqL_mono {a : Addr} {vs : List V} (s : Same G G') (h : SqL K G a vs) : SqL K G' a vs := s.seq h
theorem sqT_mono {a : Addr} {vs : List V} (s : Same G G') (h : SqT K G a vs) : SqT K G' a vs := by
  rcases h with (h | ⟨o, h⟩) | h
  · exact .inl (.inl (s _ _ h))
  · exact .inl (.inr ⟨o, s _ _ h⟩)
  · exact .inr h
theorem rd_mono {a : Addr} {o : HO} (s : Same G G') (h : Rd G a o) : Rd G' a o := h.imp (s _ _) fun ⟨z, q⟩ => ⟨z, s _ _ q⟩
mutual
theorem Rep.mono (s : Same G G') : ∀ {d : D} {v : V}, Rep K mg G d v → Rep K mg G' d v
  | .non, _, h => h
  | .bl _, _, h => h
  | .int _, _, h => h
  | .str _, _, h => h
  | .lst _, _, ⟨a, vs, e, q, r⟩ => ⟨a, vs, e, s _ _ q, Reps.mono s r⟩
  | .scr _, _, ⟨a, vs, e, q, r⟩ => ⟨a, vs, e, sqL_mono s q, Reps.mono s r⟩
  | .tup _, _, ⟨a, vs, e, q, r⟩ => ⟨a, vs, e, sqT_mono s q, Reps.mono s r⟩
  | .dct _ _, _, ⟨a, e, kvs, q, k, r⟩ => ⟨a, e, kvs, rd_mono s q, k, Reps.mono s r⟩
  | .dcT _ _, _, ⟨a, e, kvs, q, k, r⟩ => ⟨a, e, kvs, s _ _ q, k, Reps.mono s r⟩
  | .obj _ _ _, _, ⟨a, C, dx, fs, e, q, m, n, r⟩ => ⟨a, C, dx, fs, e, s _ _ q, m, n, Reps.mono s r⟩
  | .exc _ _ _, _, ⟨a, C, xd, e, q, m, r⟩ => ⟨a, C, xd, e, s _ _ q, m, r.imp (fun z => z) fun ⟨dx, fs, z0, z1, z2, z3, z4⟩ => ⟨dx, fs, z0, z1, s _ _ z2, z3, Reps.mono s z4⟩⟩
theorem Reps.mono (s : Same G G') : ∀ {ds : List D} {vs : List V}, Reps K mg G ds vs → Reps K mg G' ds vs
  | [], _, h => h
  | _ :: _, _, ⟨v, r, e, h, q⟩ => ⟨v, r, e, Rep.mono s h, Reps.mono s q⟩
end
theorem Reps.length : ∀ {ds : List D} {vs : List V}, Reps K mg G ds vs → ds.length = vs.length
  | [], _, h => by
    have e : _ = [] := h
    subst e
    rfl
  | _ :: ds, _, ⟨v, r, e, _, q⟩ => by
    subst e
    simp [Reps.length q]
theorem Reps.get : ∀ {ds : List D} {vs : List V} {i : Nat} {d : D}, Reps K mg G ds vs → ds[i]? = some d → ∃ v, vs[i]? = some v ∧ Rep K mg G d v
  | [], _, _, _, _, h => by simp at h
  | d :: ds, _, 0, d', ⟨v, r, e, h, q⟩, z => by
    have z' : d = d' := by simpa using z
    subst e z'
    exact ⟨v, rfl, h⟩
  | d :: ds, _, i + 1, d', ⟨v, r, e, h, q⟩, z => by
    subst e
    obtain ⟨u, e1, e2⟩ := Reps.get (i := i) q (by simpa using z)
    exact ⟨u, by simpa using e1, e2⟩
theorem Reps.get' : ∀ {ds : List D} {vs : List V} {i : Nat} {v : V}, Reps K mg G ds vs → vs[i]? = some v → ∃ d, ds[i]? = some d ∧ Rep K mg G d v := fun {ds vs i v} h e => by
  have hl := h.length
  have hi : i < ds.length := by
    rw [hl]
    exact (List.getElem?_eq_some_iff.mp e).1
  obtain ⟨u, e1, e2⟩ := Reps.get h (List.getElem?_eq_getElem hi)
  rw [e] at e1
  cases e1
  exact ⟨_, List.getElem?_eq_getElem hi, e2⟩
theorem Reps.append : ∀ {ds es : List D} {vs ws : List V}, Reps K mg G ds vs → Reps K mg G es ws → Reps K mg G (ds ++ es) (vs ++ ws)
  | [], _, _, _, h, q => by
    have e : _ = [] := h
    subst e
    exact q
  | _ :: _, _, _, _, ⟨v, r, e, h, q⟩, z => by
    subst e
    exact ⟨v, _, rfl, h, Reps.append q z⟩
theorem Reps.nil : Reps K mg G [] [] := rfl
theorem Reps.cons {d : D} {v : V} {ds : List D} {vs : List V} (h : Rep K mg G d v) (q : Reps K mg G ds vs) : Reps K mg G (d :: ds) (v :: vs) := ⟨v, vs, rfl, h, q⟩
theorem Reps.snoc {d : D} {v : V} {ds : List D} {vs : List V} (q : Reps K mg G ds vs) (h : Rep K mg G d v) : Reps K mg G (ds ++ [d]) (vs ++ [v]) := q.append (.cons h .nil)
theorem Reps.set {d : D} {v : V} : ∀ {ds : List D} {vs : List V} (i : Nat), Reps K mg G ds vs → Rep K mg G d v → Reps K mg G (ds.set i d) (vs.set i v)
  | [], _, i, h, _ => by
    have e : _ = [] := h
    subst e
    exact rfl
  | _ :: _, _, 0, ⟨v', r, e, h, q⟩, z => by
    subst e
    exact ⟨v, r, rfl, z, q⟩
  | _ :: _, _, i + 1, ⟨v', r, e, h, q⟩, z => by
    subst e
    exact ⟨v', _, rfl, h, Reps.set i q z⟩
theorem Reps.take : ∀ {ds : List D} {vs : List V} (n : Nat), Reps K mg G ds vs → Reps K mg G (ds.take n) (vs.take n)
  | _, _, 0, _ => by simp; exact .nil
  | [], _, n + 1, h => by
    have e : _ = [] := h
    subst e
    exact rfl
  | _ :: _, _, n + 1, ⟨v, r, e, h, q⟩ => by
    subst e
    exact ⟨v, _, rfl, h, Reps.take n q⟩
theorem Reps.drop : ∀ {ds : List D} {vs : List V} (n : Nat), Reps K mg G ds vs → Reps K mg G (ds.drop n) (vs.drop n)
  | _, _, 0, h => h
  | [], _, n + 1, h => by
    have e : _ = [] := h
    subst e
    exact rfl
  | _ :: _, _, n + 1, ⟨v, r, e, h, q⟩ => by
    subst e
    exact Reps.drop n q
theorem Reps.reverse : ∀ {ds : List D} {vs : List V}, Reps K mg G ds vs → Reps K mg G ds.reverse vs.reverse
  | [], _, h => by
    have e : _ = [] := h
    subst e
    exact rfl
  | _ :: _, _, ⟨v, r, e, h, q⟩ => by
    subst e
    rw [List.reverse_cons, List.reverse_cons]
    exact (Reps.reverse q).snoc h
end
end Lw
namespace Lw
open PySem PySem.Spec PyProof.Rows L2
/-! ### how a slot's value is held -/
/-- K: a tuple that was laid, frozen; Q: a dict of our own with tuples for keys, its values frozen; T: a pair of our own, its second item a list of our own; N: not told; F: frozen; B: borrowed of the caller; L k: a list or dict of our own whose items are held as k tells; I: an instance of our own, its fields frozen -/
inductive Kd where
  | N | F | B | E | L (k : Kd) | I (p : Addr) | T | K | Q
/-- how a result is held: F, B as above; P: it can be read now; E: a list or dict that can be read now, its items frozen; O k: our own, new -/
inductive RK where
  | F | B | J | P | E | O (k : Kd)
structure Cf where
  K : PySem.W.Frag
  mg : Str → Option Value
  B : Hp
  G0 : Hp
def AllR (P : D → V → List Addr → Prop) : List D → List V → List Addr → Prop
  | [], vs, S => vs = [] ∧ S = []
  | d :: ds, vs, S => ∃ v r S1 S2, vs = v :: r ∧ S = S1 ++ S2 ∧ P d v S1 ∧ AllR P ds r S2
inductive Cont (H : Hp) (p : Addr) : D → List D → List V → Prop
  | lst {ds vs} : H p = some (.lst vs) → Cont H p (.lst ds) ds vs
  | dK {ds kvs} : H p = some (.dK kvs) → Cont H p (.dct (kvs.map fun q => kD q.1) ds) ds (kvs.map (·.2))
def RepK (c : Cf) (H G : Hp) : Kd → D → V → List Addr → Prop
  | .N, _, _, _ => False
  | .F, d, v, S => Rep c.K c.mg G d v ∧ S = []
  | .B, d, v, S => Rep c.K c.mg c.B d v ∧ S = []
  | .E, d, v, S => (∃ p vs ds, v = .ref p ∧ Cont c.B p d ds vs ∧ Reps c.K c.mg G ds vs) ∧ S = []
  | .L k, d, v, S => ∃ p vs ds S', v = .ref p ∧ S = p :: S' ∧ Cont H p d ds vs ∧ AllR (RepK c H G k) ds vs S'
  | .I p, d, v, S => ∃ C dx fs cl ns ds, v = .ref p ∧ S = [p] ∧ d = .obj cl ns ds ∧ H p = some (.ins C dx fs) ∧ c.mg cl = some (.ref C) ∧ fs.map (·.1) = ns ∧ Reps c.K c.mg G ds (fs.map (·.2))
  | .T, d, v, S => ∃ p v1 q ws d1 ds, v = .ref p ∧ S = [p, q] ∧ d = .tup [d1, .lst ds] ∧ H p = some (.tup [v1, .ref q]) ∧ Rep c.K c.mg G d1 v1 ∧ H q = some (.lst ws) ∧ Reps c.K c.mg G ds ws
  | .K, d, v, S => (∃ p vs ds, v = .ref p ∧ d = .tup ds ∧ G p = some (.tup vs) ∧ Reps c.K c.mg G ds vs) ∧ S = []
  | .Q, d, v, S => ∃ p kvs ds, v = .ref p ∧ S = [p] ∧ d = .dcT (kvs.map fun q : List Key × V => .tup (q.1.map kD)) ds ∧ H p = some (.dT kvs) ∧ Reps c.K c.mg G ds (kvs.map (·.2))
def Adv (H G G' H' : Hp) : Prop := Same H H' ∧ Same G G' ∧ Same G' H' ∧ ∀ b o, G' b = some o → G b = some o ∨ H b = none
/-- the slots' values (en), how they are held (κ), on a heap H with a frozen part G; Ss: what is our own, slot by slot -/
structure St (c : Cf) (κ : List Kd) (en : List D) (σ : L2.St) (H G : Hp) (Ss : Nat → List Addr) : Prop where
  ln : σ.length = κ.length ∧ en.length = κ.length
  slot : ∀ i k, κ[i]? = some k → k ≠ .N → ∃ v d, σ[i]? = some (some v) ∧ en[i]? = some d ∧ RepK c H G k d v (Ss i)
  own : ∀ i p, p ∈ Ss i → G p = none ∧ c.B p = none ∧ ∃ o, H p = some o
  nd : ∀ i, (Ss i).Nodup
  dis : ∀ i j p, i ≠ j → p ∈ Ss i → p ∈ Ss j → False
  sB : Same c.B H
  sG : Same c.G0 G
  sH : Same G H
  new : ∀ b o, G b = some o → c.G0 b = some o ∨ c.B b = none
def RV (c : Cf) (H0 H G : Hp) : RK → D → V → List Addr → Prop
  | .F, d, v, S => Rep c.K c.mg G d v ∧ S = []
  | .B, d, v, S => Rep c.K c.mg c.B d v ∧ S = []
  | .J, d, v, S => (∃ p vs ds, v = .ref p ∧ Cont c.B p d ds vs ∧ Reps c.K c.mg G ds vs) ∧ S = []
  | .P, d, v, S => Rep c.K c.mg H d v ∧ S = []
  | .E, d, v, S => (∃ p vs ds, v = .ref p ∧ Cont H p d ds vs ∧ Reps c.K c.mg G ds vs) ∧ S = []
  | .O k, d, v, S => RepK c H G k d v S ∧ S.Nodup ∧ ∀ p ∈ S, H0 p = none ∧ G p = none ∧ ∃ o, H p = some o
section
variable {c : Cf} {κ κ' : List Kd} {en en' : List D} {σ σ' : L2.St} {H H0 H' H1 H2 G G' G1 G2 : Hp} {Ss Ss' : Nat → List Addr} {k : Kd} {d : D} {v : V} {S : List Addr} {rk : RK}
theorem Adv.refl (s : Same G H) : Adv H G G H := ⟨.refl _, .refl _, s, fun _ _ h => .inl h⟩
theorem Adv.trans (a : Adv H G G1 H1) (b : Adv H1 G1 G2 H2) : Adv H G G2 H2 := ⟨a.1.trans b.1, a.2.1.trans b.2.1, b.2.2.1, fun x o h => by
  rcases b.2.2.2 x o h with q | q
  · exact a.2.2.2 x o q
  · exact .inr (a.1.free q)⟩
/-- a new object, frozen -/
theorem Adv.newF {p : Addr} {o : HO} (s : Same G H) (hp : H p = none) : Adv H G (upd G p o) (upd H p o) := by
  have gp := s.free hp
  refine ⟨fun b u h => ?_, fun b u h => ?_, fun b u h => ?_, fun b u h => ?_⟩
  · rw [upd_ne (ne_of_none h hp)]; exact h
  · rw [upd_ne (ne_of_none h gp)]; exact h
  · by_cases e : b = p
    · subst e; rw [upd_same] at h ⊢; exact h
    · rw [upd_ne e] at h ⊢; exact s _ _ h
  · by_cases e : b = p
    · subst e; exact .inr hp
    · rw [upd_ne e] at h; exact .inl h
/-- a new object, our own -/
theorem Adv.newO {p : Addr} {o : HO} (s : Same G H) (hp : H p = none) : Adv H G G (upd H p o) := by
  refine ⟨fun b u h => ?_, .refl _, fun b u h => ?_, fun b u h => .inl h⟩
  · rw [upd_ne (ne_of_none h hp)]; exact h
  · rw [upd_ne (ne_of_none (s _ _ h) hp)]; exact s _ _ h
theorem AllR.imp {P Q : D → V → List Addr → Prop} : ∀ {ds : List D} {vs : List V} {S : List Addr}, AllR P ds vs S → (∀ d v T, (∀ p ∈ T, p ∈ S) → P d v T → Q d v T) → AllR Q ds vs S
  | [], _, _, h, _ => h
  | d :: ds, _, _, ⟨v, r, S1, S2, e1, e2, h, q⟩, f => by
    subst e1 e2
    exact ⟨v, r, S1, S2, rfl, rfl, f _ _ _ (fun p hp => List.mem_append_left _ hp) h, AllR.imp q fun d v T hT => f d v T fun p hp => List.mem_append_right _ (hT p hp)⟩
/-- held on a heap that says the same of what is our own -/
theorem RepK.at_ : ∀ {k : Kd} {d : D} {v : V} {S : List Addr}, RepK c H G k d v S → (∀ p ∈ S, ∀ o, H p = some o → H' p = some o) → Same G G' → RepK c H' G' k d v S
  | .N, _, _, _, h, _, _ => h
  | .F, _, _, _, ⟨h, e⟩, _, s => ⟨h.mono s, e⟩
  | .B, _, _, _, h, _, _ => h
  | .E, _, _, _, ⟨⟨p, vs, ds, e1, hc, r⟩, e2⟩, _, s => ⟨⟨p, vs, ds, e1, hc, r.mono s⟩, e2⟩
  | .L k, _, _, _, ⟨p, vs, ds, S', e1, e2, hc, ha⟩, f, s => by
    subst e1 e2
    refine ⟨p, vs, ds, S', rfl, rfl, ?_, AllR.imp ha fun d v T hT h => RepK.at_ h (fun q hq => f q (List.mem_cons_of_mem _ (hT q hq))) s⟩
    have fp := f p List.mem_cons_self
    cases hc with
    | lst h => exact .lst (fp _ h)
    | dK h => exact .dK (fp _ h)
  | .I p, _, _, _, ⟨C, dx, fs, cl, ns, ds, e1, e2, e3, h, m, n, r⟩, f, s => by
    subst e1 e2
    exact ⟨C, dx, fs, cl, ns, ds, rfl, rfl, e3, f p List.mem_cons_self _ h, m, n, r.mono s⟩
  | .T, _, _, _, ⟨p, v1, q, ws, d1, ds, e1, e2, e3, h1, r1, h2, r2⟩, f, s => by
    subst e1 e2 e3
    exact ⟨p, v1, q, ws, d1, ds, rfl, rfl, rfl, f p (by simp) _ h1, r1.mono s, f q (by simp) _ h2, r2.mono s⟩
  | .K, _, _, _, ⟨⟨p, vs, ds, e1, e2, h, r⟩, e3⟩, _, s => ⟨⟨p, vs, ds, e1, e2, s _ _ h, r.mono s⟩, e3⟩
  | .Q, _, _, _, ⟨p, kvs, ds, e1, e2, e3, h, r⟩, f, s => by
    subst e1 e2 e3
    exact ⟨p, kvs, ds, rfl, rfl, rfl, f p List.mem_cons_self _ h, r.mono s⟩
theorem RepK.adv (h : RepK c H G k d v S) (a : Adv H G G' H') : RepK c H' G' k d v S := h.at_ (fun p _ o q => a.1 p o q) a.2.1
theorem AllR.reps {P : D → V → List Addr → Prop} {K : PySem.W.Frag} {mg : Str → Option Value} : ∀ {ds : List D} {vs : List V} {S : List Addr}, AllR P ds vs S → (∀ d v T, P d v T → Rep K mg H d v) → Reps K mg H ds vs
  | [], _, _, h, _ => h.1
  | d :: ds, _, _, ⟨v, r, S1, S2, e1, e2, h, q⟩, f => ⟨v, r, e1, f _ _ _ h, AllR.reps q f⟩
/-- what is held can be read -/
theorem RepK.rep : ∀ {k : Kd} {d : D} {v : V} {S : List Addr}, RepK c H G k d v S → Same c.B H → Same G H → Rep c.K c.mg H d v
  | .N, _, _, _, h, _, _ => h.elim
  | .F, _, _, _, ⟨h, _⟩, _, s => h.mono s
  | .B, _, _, _, ⟨h, _⟩, s, _ => h.mono s
  | .E, _, _, _, ⟨⟨p, vs, ds, e1, hc, r⟩, _⟩, sB, sG => by
    subst e1
    cases hc with
    | lst h => exact ⟨p, vs, rfl, sB _ _ h, r.mono sG⟩
    | dK h => exact ⟨p, rfl, _, .inl (sB _ _ h), rfl, r.mono sG⟩
  | .I p, _, _, _, ⟨C, dx, fs, cl, ns, ds, e1, e2, e3, h, m, n, r⟩, _, s => by
    subst e1 e3
    exact ⟨p, C, dx, fs, rfl, h, m, n, r.mono s⟩
  | .T, _, _, _, ⟨p, v1, q, ws, d1, ds, e1, e2, e3, h1, r1, h2, r2⟩, _, s => by
    subst e1 e3
    exact ⟨p, _, rfl, SqT.of h1, v1, _, rfl, r1.mono s, .ref q, [], rfl, ⟨q, ws, rfl, h2, r2.mono s⟩, rfl⟩
  | .K, _, _, _, ⟨⟨p, vs, ds, e1, e2, h, r⟩, e3⟩, _, s => by
    subst e1 e2
    exact ⟨p, vs, rfl, SqT.of (s _ _ h), r.mono s⟩
  | .Q, _, _, _, ⟨p, kvs, ds, e1, e2, e3, h, r⟩, _, s => by
    subst e1 e3
    exact ⟨p, rfl, kvs, h, rfl, r.mono s⟩
  | .L k, _, _, _, ⟨p, vs, ds, S', e1, e2, hc, ha⟩, sB, sG => by
    subst e1
    have r := ha.reps (K := c.K) (mg := c.mg) fun d v T h => RepK.rep h sB sG
    cases hc with
    | lst h => exact ⟨p, vs, rfl, h, r⟩
    | dK h => exact ⟨p, rfl, _, .inl h, rfl, r⟩
theorem RV.rep (h : RV c H0 H G rk d v S) (sB : Same c.B H) (sG : Same G H) : Rep c.K c.mg H d v := by
  cases rk with
  | F => exact h.1.mono sG
  | B => exact h.1.mono sB
  | J =>
    obtain ⟨⟨p, vs, ds, e, hc, r⟩, _⟩ := h
    subst e
    cases hc with
    | lst h => exact ⟨p, vs, rfl, sB _ _ h, r.mono sG⟩
    | dK h => exact ⟨p, rfl, _, .inl (sB _ _ h), rfl, r.mono sG⟩
  | P => exact h.1
  | E =>
    obtain ⟨⟨p, vs, ds, e, hc, r⟩, _⟩ := h
    subst e
    cases hc with
    | lst h => exact ⟨p, vs, rfl, h, r.mono sG⟩
    | dK h => exact ⟨p, rfl, _, .inl h, rfl, r.mono sG⟩
  | O k => exact h.1.rep sB sG
/-- the heap G with what stands on H at S -/
noncomputable def frz (G H : Hp) (S : List Addr) : Hp := fun b => if b ∈ S then H b else G b
theorem frz_in {b : Addr} (h : b ∈ S) : frz G H S b = H b := by unfold frz; rw [if_pos h]
theorem frz_out {b : Addr} (h : b ∉ S) : frz G H S b = G b := by unfold frz; rw [if_neg h]
theorem frz_same (h : ∀ p ∈ S, G p = none) : Same G (frz G H S) := fun b o q => by
  by_cases hb : b ∈ S
  · rw [h b hb] at q; cases q
  · rw [frz_out hb]; exact q
theorem frz_sub (s : Same G H) : Same (frz G H S) H := fun b o q => by
  by_cases hb : b ∈ S
  · rw [frz_in hb] at q; exact q
  · rw [frz_out hb] at q; exact s _ _ q
theorem frz_mono {T : List Addr} (h : ∀ p ∈ T, p ∈ S) (hG : ∀ p ∈ S, G p = none) : Same (frz G H T) (frz G H S) := fun b o q => by
  by_cases hb : b ∈ T
  · rw [frz_in hb] at q; rw [frz_in (h b hb)]; exact q
  · rw [frz_out hb] at q
    have hs : b ∉ S := fun z => by rw [hG b z] at q; cases q
    rw [frz_out hs]; exact q
/-- what is our own, frozen (what is borrowed can't be) -/
def Kd.own : Kd → Bool
  | .N => false
  | .F => true
  | .B => false
  | .E => false
  | .L k => k.own
  | .I _ => true
  | .T => true
  | .K => true
  | .Q => true
theorem RepK.frz : ∀ {k : Kd} {d : D} {v : V} {S T : List Addr}, RepK c H G k d v T → k.own = true → (∀ p ∈ T, p ∈ S) → (∀ p ∈ S, G p = none) → Rep c.K c.mg (frz G H S) d v
  | .N, _, _, _, _, h, _, _, _ => h.elim
  | .F, _, _, _, _, ⟨h, _⟩, _, _, g => h.mono (frz_same g)
  | .B, _, _, _, _, _, h, _, _ => by cases h
  | .E, _, _, _, _, _, h, _, _ => by cases h
  | .I p, _, _, _, _, ⟨C, dx, fs, cl, ns, ds, e1, e2, e3, h, m, n, r⟩, _, hs, g => by
    subst e1 e2 e3
    exact ⟨p, C, dx, fs, rfl, by rw [frz_in (hs p List.mem_cons_self)]; exact h, m, n, r.mono (frz_same g)⟩
  | .T, _, _, _, _, ⟨p, v1, q, ws, d1, ds, e1, e2, e3, h1, r1, h2, r2⟩, _, hs, g => by
    subst e1 e2 e3
    exact ⟨p, _, rfl, SqT.of (by rw [frz_in (hs p (by simp))]; exact h1), v1, _, rfl, r1.mono (frz_same g), .ref q, [], rfl, ⟨q, ws, rfl, by rw [frz_in (hs q (by simp))]; exact h2, r2.mono (frz_same g)⟩, rfl⟩
  | .K, _, _, _, _, ⟨⟨p, vs, ds, e1, e2, h, r⟩, e3⟩, _, _, g => by
    subst e1 e2
    exact ⟨p, vs, rfl, SqT.of (frz_same g _ _ h), r.mono (frz_same g)⟩
  | .Q, _, _, _, _, ⟨p, kvs, ds, e1, e2, e3, h, r⟩, _, hs, g => by
    subst e1 e2 e3
    exact ⟨p, rfl, kvs, by rw [frz_in (hs p (by simp))]; exact h, rfl, r.mono (frz_same g)⟩
  | .L k, _, _, S, _, ⟨p, vs, ds, S', e1, e2, hc, ha⟩, ho, hs, g => by
    subst e1 e2
    have r : Reps c.K c.mg (Lw.frz G H S) ds vs := (ha.imp (Q := fun d v _ => Rep c.K c.mg (Lw.frz G H S) d v) fun d v T hT h => RepK.frz h ho (fun q hq => hs q (List.mem_cons_of_mem _ (hT q hq))) g).reps fun _ _ _ h => h
    have hp := hs p List.mem_cons_self
    cases hc with
    | lst h => exact ⟨p, vs, rfl, by rw [frz_in hp]; exact h, r⟩
    | dK h => exact ⟨p, rfl, _, .inl (by rw [frz_in hp]; exact h), rfl, r⟩
theorem Adv.frz {G' : Hp} (a : Adv H G G' H') (h : ∀ p ∈ S, H p = none ∧ G' p = none) : Adv H G (Lw.frz G' H' S) H' := by
  have g : ∀ p ∈ S, G' p = none := fun p hp => (h p hp).2
  refine ⟨a.1, a.2.1.trans (frz_same g), frz_sub a.2.2.1, fun b o q => ?_⟩
  by_cases hb : b ∈ S
  · exact .inr (h b hb).1
  · rw [frz_out hb] at q; exact a.2.2.2 b o q
theorem St.adv (s : St c κ en σ H G Ss) (a : Adv H G G' H') : St c κ en σ H' G' Ss where
  ln := s.ln
  slot := fun i k hk hn => by
    obtain ⟨v, d, h1, h2, h3⟩ := s.slot i k hk hn
    exact ⟨v, d, h1, h2, h3.adv a⟩
  own := fun i p hp => by
    obtain ⟨h1, h2, o, h3⟩ := s.own i p hp
    refine ⟨?_, h2, o, a.1 _ _ h3⟩
    cases q : G' p with
    | none => rfl
    | some u =>
      rcases a.2.2.2 p u q with z | z
      · rw [h1] at z; cases z
      · rw [h3] at z; cases z
  nd := s.nd
  dis := s.dis
  sB := s.sB.trans a.1
  sG := s.sG.trans a.2.1
  sH := a.2.2.1
  new := fun b o h => by
    rcases a.2.2.2 b o h with q | q
    · exact s.new b o q
    · exact .inr (s.sB.free q)
theorem St.adv0 (s : St c κ en σ H G Ss) : Adv c.B c.G0 G H := ⟨s.sB, s.sG, s.sH, s.new⟩
/-- a value is stored into a slot -/
def slotOf : RK → Kd
  | .F => .F
  | .B => .B
  | .J => .E
  | .P => .N
  | .E => .N
  | .O k => k
theorem RV.kd (h : RV c H0 H G rk d v S) (hp : slotOf rk ≠ .N) : RepK c H G (slotOf rk) d v S := by
  cases rk with
  | F => exact h
  | B => exact h
  | J => exact h
  | P => exact absurd rfl hp
  | E => exact absurd rfl hp
  | O k => exact h.1
theorem St.set {i : Nat} (s : St c κ en σ H0 G Ss) (a : Adv H0 G G' H) (h : RV c H0 H G' rk d v S) (hκ : i < κ.length) :
    St c (κ.set i (slotOf rk)) (en.set i d) (σ.set i (some v)) H G' (fun j => if j = i then S else Ss j) := by
  have s' := s.adv a
  have hi : i < en.length := by rw [s.ln.2]; exact hκ
  have hσ : i < σ.length := by rw [s.ln.1]; exact hκ
  have hS : ∀ p ∈ S, H0 p = none ∧ G' p = none ∧ ∃ o, H p = some o := by
    cases rk with
    | F => rw [h.2]; intro p hp; cases hp
    | B => rw [h.2]; intro p hp; cases hp
    | J => rw [h.2]; intro p hp; cases hp
    | P => rw [h.2]; intro p hp; cases hp
    | E => rw [h.2]; intro p hp; cases hp
    | O k => exact h.2.2
  have hnd : S.Nodup := by
    cases rk with
    | F => rw [h.2]; exact .nil
    | B => rw [h.2]; exact .nil
    | J => rw [h.2]; exact .nil
    | P => rw [h.2]; exact .nil
    | E => rw [h.2]; exact .nil
    | O k => exact h.2.1
  refine ⟨by simpa using s.ln, fun j k hk hn => ?_, fun j p hp => ?_, fun j => ?_, fun j l p hjl hp hq => ?_, s'.sB, s'.sG, s'.sH, s'.new⟩
  · by_cases e : j = i
    · subst e
      rw [List.getElem?_set_self hκ] at hk
      cases hk
      refine ⟨v, d, List.getElem?_set_self hσ, List.getElem?_set_self hi, ?_⟩
      rw [if_pos rfl]
      exact h.kd hn
    · rw [List.getElem?_set_ne (Ne.symm e)] at hk
      obtain ⟨v', d', h1, h2, h3⟩ := s'.slot j k hk hn
      refine ⟨v', d', ?_, ?_, ?_⟩
      · rw [List.getElem?_set_ne (Ne.symm e)]; exact h1
      · rw [List.getElem?_set_ne (Ne.symm e)]; exact h2
      · rw [if_neg e]; exact h3
  · by_cases e : j = i
    · rw [if_pos e] at hp
      obtain ⟨q1, q2, q3⟩ := hS p hp
      exact ⟨q2, s.sB.free q1, q3⟩
    · rw [if_neg e] at hp
      exact s'.own j p hp
  · by_cases e : j = i
    · rw [if_pos e]; exact hnd
    · rw [if_neg e]; exact s.nd j
  · by_cases e : j = i
    · rw [if_pos e] at hp
      have e2 : l ≠ i := fun z => hjl (e.trans z.symm)
      rw [if_neg e2] at hq
      obtain ⟨_, _, o, z⟩ := s.own l p hq
      rw [(hS p hp).1] at z; cases z
    · rw [if_neg e] at hp
      by_cases e2 : l = i
      · rw [if_pos e2] at hq
        obtain ⟨_, _, o, z⟩ := s.own j p hp
        rw [(hS p hq).1] at z; cases z
      · rw [if_neg e2] at hq
        exact s.dis j l p hjl hp hq
/-- less is told of the slots -/
def Wk : List Kd → List D → List Kd → List D → Prop
  | k :: κ, d :: en, k2 :: κ2, d2 :: en2 => (k2 = .N ∨ (k2 = k ∧ d2 = d)) ∧ Wk κ en κ2 en2
  | [], [], [], [] => True
  | _, _, _, _ => False
theorem Wk.len : ∀ {κ κ2 : List Kd} {en en2 : List D}, Wk κ en κ2 en2 → κ2.length = κ.length ∧ en2.length = en.length
  | k :: κ, k2 :: κ2, d :: en, d2 :: en2, h => by
    obtain ⟨a, b⟩ := Wk.len h.2
    exact ⟨by simp [a], by simp [b]⟩
  | [], [], [], [], _ => ⟨rfl, rfl⟩
  | [], [], [], _ :: _, h => by simp [Wk] at h
  | [], [], _ :: _, _, h => by simp [Wk] at h
  | [], _ :: _, _, _, h => by simp [Wk] at h
  | _ :: _, [], _, _, h => by simp [Wk] at h
  | _ :: _, _ :: _, [], _, h => by simp [Wk] at h
  | _ :: _, _ :: _, _ :: _, [], h => by simp [Wk] at h
theorem Wk.get : ∀ {κ κ2 : List Kd} {en en2 : List D} {i : Nat} {k : Kd}, Wk κ en κ2 en2 → κ2[i]? = some k → k ≠ .N → κ[i]? = some k ∧ ∀ d, en[i]? = some d → en2[i]? = some d
  | k :: κ, k2 :: κ2, d :: en, d2 :: en2, 0, k', h, e, n => by
    have e' : k2 = k' := by simpa using e
    subst e'
    rcases h.1 with z | ⟨z1, z2⟩
    · exact absurd z n
    · subst z1 z2
      exact ⟨by simp, fun d h => by simpa using h⟩
  | k :: κ, k2 :: κ2, d :: en, d2 :: en2, i + 1, k', h, e, n => by
    obtain ⟨q1, q2⟩ := Wk.get (i := i) h.2 (by simpa using e) n
    exact ⟨by simpa using q1, fun d h => by simpa using q2 d (by simpa using h)⟩
  | [], _ :: _, _, _, _, _, h, _, _ => by simp [Wk] at h
  | _ :: _, _ :: _, [], _, _, _, h, _, _ => by simp [Wk] at h
  | _ :: _, _ :: _, _ :: _, [], _, _, h, _, _ => by simp [Wk] at h
  | _, [], _, _, _, _, _, e, _ => by simp at e
theorem St.weak {κ2 : List Kd} {en2 : List D} (s : St c κ en σ H G Ss) (w : Wk κ en κ2 en2) : St c κ2 en2 σ H G Ss :=
  ⟨by rw [w.len.1, w.len.2]; exact s.ln, fun i k hk hn => by
    obtain ⟨q1, q2⟩ := w.get hk hn
    obtain ⟨v, d, h1, h2, h3⟩ := s.slot i k q1 hn
    exact ⟨v, d, h1, q2 d h2, h3⟩, s.own, s.nd, s.dis, s.sB, s.sG, s.sH, s.new⟩
/-- an own slot is frozen -/
theorem St.freeze {i : Nat} (s : St c κ en σ H G Ss) (hk : κ[i]? = some k) (ho : k.own = true) : ∃ G' Ss', St c (κ.set i .F) en σ H G' Ss' ∧ Adv c.B c.G0 G' H := by
  have hn : k ≠ .N := fun z => by subst z; cases ho
  have g : ∀ p ∈ Ss i, G p = none := fun p hp => (s.own i p hp).1
  have sub : Same G (frz G H (Ss i)) := frz_same g
  have st : St c (κ.set i .F) en σ H (frz G H (Ss i)) (fun j => if j = i then [] else Ss j) := by
    refine ⟨by simpa using s.ln, fun j k' hk' hn' => ?_, fun j p hp => ?_, fun j => ?_, fun j l p hjl hp hq => ?_, s.sB, s.sG.trans sub, frz_sub s.sH, fun b o q => ?_⟩
    · by_cases e : j = i
      · subst e
        have hκ : j < κ.length := (List.getElem?_eq_some_iff.mp hk).1
        rw [List.getElem?_set_self hκ] at hk'
        cases hk'
        obtain ⟨v, d, h1, h2, h3⟩ := s.slot j k hk hn
        refine ⟨v, d, h1, h2, ?_⟩
        rw [if_pos rfl]
        exact ⟨h3.frz ho (fun _ z => z) g, rfl⟩
      · rw [List.getElem?_set_ne (Ne.symm e)] at hk'
        obtain ⟨v, d, h1, h2, h3⟩ := s.slot j k' hk' hn'
        refine ⟨v, d, h1, h2, ?_⟩
        rw [if_neg e]
        exact h3.at_ (fun _ _ _ z => z) sub
    · by_cases e : j = i
      · rw [if_pos e] at hp; cases hp
      · rw [if_neg e] at hp
        obtain ⟨q1, q2, q3⟩ := s.own j p hp
        refine ⟨?_, q2, q3⟩
        rw [frz_out fun z => s.dis j i p e hp z]
        exact q1
    · by_cases e : j = i
      · rw [if_pos e]; exact .nil
      · rw [if_neg e]; exact s.nd j
    · by_cases e : j = i
      · rw [if_pos e] at hp; cases hp
      · rw [if_neg e] at hp
        by_cases e2 : l = i
        · rw [if_pos e2] at hq; cases hq
        · rw [if_neg e2] at hq
          exact s.dis j l p hjl hp hq
    · by_cases hb : b ∈ Ss i
      · exact .inr (s.own i b hb).2.1
      · rw [frz_out hb] at q; exact s.new b o q
  exact ⟨_, _, st, st.adv0⟩
end
end Lw
namespace Lw
open PySem PySem.Spec PyProof.Rows L2
abbrev cf (X : Cx) (B G0 : Hp) : Cf := ⟨X.K, X.mg, B, G0⟩
/-- an exception: its class, its own dict -/
def ExV (c : Cf) (H G : Hp) (x : Ex) (cv : Value) (xd : Option Addr) : Prop :=
  (∃ C, c.mg x.cls = some (.ref C) ∧ cv = .ref C) ∧ ((x.ns = [] ∧ x.xs = [] ∧ xd = none) ∨ ∃ a fs, x.ns ≠ [] ∧ xd = some a ∧ G a = some (.xd fs) ∧ fs.map (·.1) = x.ns ∧ Reps c.K c.mg G x.xs (fs.map (·.2)))
/-- what is asked of the ways that code goes: G, H: the heaps ahead of it; Y: what is asked where it gives a -/
def mR {α : Type} (W : WX) (c : Cf) (σ : L2.St) (H G : Hp) (Y : α → Hp → Hp → Prop) : R α → Prop
  | .ok a => ∀ H' G', Adv H G G' H' → Y a H' G'
  | .exc x => ∀ cv xd H' G', Adv H G G' H' → ExV c H' G' x cv xd → W cv xd σ H'
  | .bad => False
abbrev yV (c : Cf) (H : Hp) (k : RK) (Q : VK) : D → Hp → Hp → Prop := fun d H' G' => ∀ v S, RV c H H' G' k d v S → Q v H'
abbrev yT (Q : Bool → Hp → Prop) : Bool → Hp → Hp → Prop := fun b H' _ => Q b H'
/-- how an argument is held: frozen; it can be read; a list (a dict) that can be read, its items frozen -/
inductive PK where
  | F | B | E
def PK.isF : PK → Bool
  | .F => true
  | _ => false
def ArgP (K : PySem.W.Frag) (mg : Str → Option Value) (H G : Hp) : PK → D → V → Prop
  | .F, d, v => Rep K mg G d v
  | .B, d, v => Rep K mg H d v
  | .E, d, v => ∃ p vs ds, v = .ref p ∧ Cont H p d ds vs ∧ Reps K mg G ds vs
def ArgsR (K : PySem.W.Frag) (mg : Str → Option Value) (H G : Hp) : List PK → List D → List V → Prop
  | b :: bs, d :: ds, v :: vs => ArgP K mg H G b d v ∧ ArgsR K mg H G bs ds vs
  | [], [], [] => True
  | _, _, _ => False
abbrev yA (c : Cf) (pk : List PK) (Q : List V → Hp → Prop) : List D → Hp → Hp → Prop := fun ds H' G' => ∀ vs, ArgsR c.K c.mg H' G' pk ds vs → Q vs H'
def tEV (W : WX) (c : Cf) (κ : List Kd) (en : List D) (k : RK) (r : R D) : TE := fun σ H Q => ∃ G Ss, St c κ en σ H G Ss ∧ mR W c σ H G (yV c H k Q) r
def tET (W : WX) (c : Cf) (κ : List Kd) (en : List D) (r : R Bool) : TT := fun σ H Q => ∃ G Ss, St c κ en σ H G Ss ∧ mR W c σ H G (yT Q) r
def tEA (W : WX) (c : Cf) (κ : List Kd) (en : List D) (pk : List PK) (r : R (List D)) : TA := fun σ H Q => ∃ G Ss, St c κ en σ H G Ss ∧ mR W c σ H G (yA c pk Q) r
/-- an expression's value is what r tells, held as k tells -/
structure EV (X : Cx) (W : WX) (B G0 : Hp) (κ : List Kd) (en : List D) (e : Expr) (k : RK) (r : R D) : Prop where
  pe : PE X e (tEV W (cf X B G0) κ en k r)
structure ET (X : Cx) (W : WX) (B G0 : Hp) (κ : List Kd) (en : List D) (e : Expr) (r : R Bool) : Prop where
  pt : PT X e (tET W (cf X B G0) κ en r)
/-- a list of expressions: an argument list, a display -/
structure EA (X : Cx) (W : WX) (B G0 : Hp) (κ : List Kd) (en : List D) (es : List Expr) (pk : List PK) (r : R (List D)) : Prop where
  pa : PA X es (tEA W (cf X B G0) κ en pk r)
theorem PE.wk {X : Cx} {e : Expr} {t t' : TE} (h : PE X e t) (f : ∀ σ H Q, t' σ H Q → t σ H Q) : PE X e t' := ⟨fun pins s σ H Q I q => h.run pins s σ H Q I (f σ H Q q)⟩
theorem PT.wk {X : Cx} {e : Expr} {t t' : TT} (h : PT X e t) (f : ∀ σ H Q, t' σ H Q → t σ H Q) : PT X e t' := ⟨fun pins s σ H Q I q => h.run pins s σ H Q I (f σ H Q q)⟩
theorem PW.wk {X : Cx} {e : Expr} {t t' : TT} (h : PW X e t) (f : ∀ σ H Q, t' σ H Q → t σ H Q) : PW X e t' := ⟨fun wh pins s σ H Q I q => h.run wh pins s σ H Q I (f σ H Q q)⟩
theorem PA.wk {X : Cx} {es : List Expr} {t t' : TA} (h : PA X es t) (f : ∀ σ H Q, t' σ H Q → t σ H Q) : PA X es t' := ⟨fun pos pins s σ H Q I q => h.run pos pins s σ H Q I (f σ H Q q)⟩
section
variable {c : Cf} {W : WX} {κ : List Kd} {en : List D} {σ : L2.St} {H H0 H' G G' : Hp} {Ss : Nat → List Addr} {k k' : RK} {d : D} {v : V} {S : List Addr} {Q : VK}
theorem RV.back {H1 : Hp} (h : RV c H1 H' G k d v S) (s : Same H H1) : RV c H H' G k d v S := by
  cases k with
  | F => exact h
  | B => exact h
  | J => exact h
  | P => exact h
  | E => exact h
  | O k => exact ⟨h.1, h.2.1, fun p hp => ⟨s.free (h.2.2 p hp).1, (h.2.2 p hp).2⟩⟩
theorem mR.bind {α β : Type} {r : R α} {f : α → R β} {Y : β → Hp → Hp → Prop} (m : mR W c σ H G Y (r.bind f)) : mR W c σ H G (fun a H1 G1 => Adv H G G1 H1 → mR W c σ H1 G1 Y (f a)) r := by
  cases r with
  | bad => exact m
  | exc x => exact m
  | ok a =>
    intro H1 G1 a1 _
    have m' : mR W c σ H G Y (f a) := m
    cases hf : f a with
    | bad => rw [hf] at m'; exact m'
    | exc x =>
      rw [hf] at m'
      exact fun cv xd H' G' b => m' cv xd H' G' (a1.trans b)
    | ok d2 =>
      rw [hf] at m'
      exact fun H' G' b => m' H' G' (a1.trans b)
theorem mR.imp {α : Type} {r : R α} {Y Z : α → Hp → Hp → Prop} (m : mR W c σ H G Y r) (h : ∀ a H' G', r = .ok a → Adv H G G' H' → Y a H' G' → Z a H' G') : mR W c σ H G Z r := by
  cases r with
  | bad => exact m
  | exc x => exact m
  | ok a => exact fun H' G' b => h a H' G' rfl b (m H' G' b)
/-- first r, then f of what it gives -/
theorem tEV_bind {r : R D} {f : D → R D} (h : tEV W c κ en k' (r.bind f) σ H Q) (T : VK)
    (g : ∀ d v H1 G G1 S Ss, r = .ok d → Adv H G G1 H1 → St c κ en σ H1 G1 Ss → RV c H H1 G1 k d v S → mR W c σ H1 G1 (yV c H1 k' Q) (f d) → T v H1) : tEV W c κ en k r σ H T := by
  obtain ⟨G, Ss, st, m⟩ := h
  exact ⟨G, Ss, st, m.bind.imp fun d H1 G1 e a q v S rv => g d v H1 G G1 S Ss e a (st.adv a) rv ((q a).imp fun d H' G' _ b y v S z => y v S (z.back a.1))⟩
/-- the same with the heaps told -/
theorem tEVb {r : R D} {f : D → R D} {G : Hp} {Ss : Nat → List Addr} (st : St c κ en σ H G Ss) (m : mR W c σ H G (yV c H k' Q) (r.bind f)) (T : VK)
    (g : ∀ d v H1 G1 S, r = .ok d → Adv H G G1 H1 → St c κ en σ H1 G1 Ss → RV c H H1 G1 k d v S → mR W c σ H1 G1 (yV c H1 k' Q) (f d) → T v H1) : tEV W c κ en k r σ H T :=
  ⟨G, Ss, st, m.bind.imp fun d H1 G1 e a q v S rv => g d v H1 G1 S e a (st.adv a) rv ((q a).imp fun d H' G' _ b y v S z => y v S (z.back a.1))⟩
theorem tEXb {α : Type} {r : R D} {f : D → R α} {Y : α → Hp → Hp → Prop} {G : Hp} {Ss : Nat → List Addr} (st : St c κ en σ H G Ss) (m : mR W c σ H G Y (r.bind f)) (T : VK)
    (g : ∀ d v H1 G1 S, r = .ok d → Adv H G G1 H1 → St c κ en σ H1 G1 Ss → RV c H H1 G1 k d v S → mR W c σ H1 G1 Y (f d) → T v H1) : tEV W c κ en k r σ H T :=
  ⟨G, Ss, st, m.bind.imp fun d H1 G1 e a q v S rv => g d v H1 G1 S e a (st.adv a) rv (q a)⟩
/-- the same where the whole is a test, a list -/
theorem tEX_bind {α : Type} {r : R D} {f : D → R α} {Y : α → Hp → Hp → Prop} (h : ∃ G Ss, St c κ en σ H G Ss ∧ mR W c σ H G Y (r.bind f)) (T : VK)
    (g : ∀ d v H1 G G1 S Ss, r = .ok d → Adv H G G1 H1 → St c κ en σ H1 G1 Ss → RV c H H1 G1 k d v S → mR W c σ H1 G1 Y (f d) → T v H1) : tEV W c κ en k r σ H T := by
  obtain ⟨G, Ss, st, m⟩ := h
  exact ⟨G, Ss, st, m.bind.imp fun d H1 G1 e a q v S rv => g d v H1 G G1 S Ss e a (st.adv a) rv (q a)⟩
/-- first a test -/
theorem tTE_bind {r : R Bool} {f : Bool → R D} (h : tEV W c κ en k' (r.bind f) σ H Q) (T : Bool → Hp → Prop)
    (g : ∀ b H1, tEV W c κ en k' (f b) σ H1 Q → T b H1) : tET W c κ en r σ H T := by
  obtain ⟨G, Ss, st, m⟩ := h
  exact ⟨G, Ss, st, m.bind.imp fun b H1 G1 e a q => g b H1 ⟨G1, Ss, st.adv a, (q a).imp fun d H' G' _ b y v S z => y v S (z.back a.1)⟩⟩
theorem tTX_bind {α : Type} {r : R Bool} {f : Bool → R α} {Y : α → Hp → Hp → Prop} (h : ∃ G Ss, St c κ en σ H G Ss ∧ mR W c σ H G Y (r.bind f)) (T : Bool → Hp → Prop)
    (g : ∀ b H1 G1 Ss, St c κ en σ H1 G1 Ss → mR W c σ H1 G1 Y (f b) → T b H1) : tET W c κ en r σ H T := by
  obtain ⟨G, Ss, st, m⟩ := h
  exact ⟨G, Ss, st, m.bind.imp fun b H1 G1 e a q => g b H1 G1 Ss (st.adv a) (q a)⟩
/-- a scalar is held everywhere -/
def D.sc : D → Bool
  | .non | .bl _ | .int _ | .str _ => true
  | _ => false
theorem Rep.sc {K : PySem.W.Frag} {mg : Str → Option Value} (h : Rep K mg G d v) (s : d.sc = true) (G' : Hp) : Rep K mg G' d v := by
  cases d <;> first | exact h | cases s
theorem tEV.ret (h : tEV W c κ en .F (.ok d) σ H Q) (r : ∀ G, Rep c.K c.mg G d v) : Q v H := by
  obtain ⟨G, Ss, st, m⟩ := h
  exact m H G (.refl st.sH) v [] ⟨r G, rfl⟩
theorem tET.ret {b : Bool} {Q : Bool → Hp → Prop} (h : tET W c κ en (.ok b) σ H Q) : Q b H := by
  obtain ⟨G, Ss, st, m⟩ := h
  exact m H G (.refl st.sH)
theorem tEV.bad (h : tEV W c κ en k .bad σ H Q) {p : Prop} : p := by
  obtain ⟨G, Ss, st, m⟩ := h
  exact m.elim
theorem tET.bad {Q : Bool → Hp → Prop} (h : tET W c κ en .bad σ H Q) {p : Prop} : p := by
  obtain ⟨G, Ss, st, m⟩ := h
  exact m.elim
theorem St.rd (st : St c κ en σ H G Ss) (rv : RV c H0 H G k d v S) : Rep c.K c.mg H d v := rv.rep st.sB st.sH
end
section
variable {X : Cx} {W : WX} {B G0 : Hp} {κ : List Kd} {en : List D} {e a b : Expr} {k ka kb : RK} {r ra rb : R D} {d : D} {pos : Pos}
/-! ### names, constants -/
theorem ev_varF {i : Nat} (p : PE X e (tVar i)) (hk : κ[i]? = some .F) (hd : en[i]? = some d) : EV X W B G0 κ en e .F (.ok d) :=
  ⟨PE.wk p fun σ H Q ⟨G, Ss, st, m⟩ => by
    obtain ⟨v, d', h1, h2, h3⟩ := st.slot i .F hk (by intro z; cases z)
    rw [hd] at h2; cases h2
    exact ⟨v, h1, m H G (.refl st.sH) v [] ⟨h3.1, rfl⟩⟩⟩
theorem ev_varB {i : Nat} (p : PE X e (tVar i)) (hk : κ[i]? = some .B) (hd : en[i]? = some d) : EV X W B G0 κ en e .B (.ok d) :=
  ⟨PE.wk p fun σ H Q ⟨G, Ss, st, m⟩ => by
    obtain ⟨v, d', h1, h2, h3⟩ := st.slot i .B hk (by intro z; cases z)
    rw [hd] at h2; cases h2
    exact ⟨v, h1, m H G (.refl st.sH) v [] ⟨h3.1, rfl⟩⟩⟩
theorem ev_varP {i : Nat} {q : Kd} (p : PE X e (tVar i)) (hk : κ[i]? = some q) (hd : en[i]? = some d) (hq : q ≠ .N := by intro z; cases z) : EV X W B G0 κ en e .P (.ok d) :=
  ⟨PE.wk p fun σ H Q ⟨G, Ss, st, m⟩ => by
    obtain ⟨v, d', h1, h2, h3⟩ := st.slot i q hk hq
    rw [hd] at h2; cases h2
    exact ⟨v, h1, m H G (.refl st.sH) v [] ⟨h3.rep st.sB st.sH, rfl⟩⟩⟩
/-- a list or dict of our own, its items frozen -/
theorem ev_varE {i : Nat} (p : PE X e (tVar i)) (hk : κ[i]? = some (.L .F)) (hd : en[i]? = some d) : EV X W B G0 κ en e .E (.ok d) :=
  ⟨PE.wk p fun σ H Q ⟨G, Ss, st, m⟩ => by
    obtain ⟨v, d', h1, h2, p, vs, ds, S', e1, e2, hc, ha⟩ := st.slot i (.L .F) hk (by intro z; cases z)
    rw [hd] at h2; cases h2
    exact ⟨v, h1, m H G (.refl st.sH) v [] ⟨⟨p, vs, ds, e1, hc, ha.reps fun _ _ _ z => z.1⟩, rfl⟩⟩⟩
/-- a borrowed list, its items frozen -/
theorem ev_varD {i : Nat} (p : PE X e (tVar i)) (hk : κ[i]? = some .E) (hd : en[i]? = some d) : EV X W B G0 κ en e .J (.ok d) :=
  ⟨PE.wk p fun σ H Q ⟨G, Ss, st, m⟩ => by
    obtain ⟨v, d', h1, h2, h3⟩ := st.slot i .E hk (by intro z; cases z)
    rw [hd] at h2; cases h2
    exact ⟨v, h1, m H G (.refl st.sH) v [] ⟨h3.1, rfl⟩⟩⟩
theorem ev_int {i : Int} {j : Nat} : EV X W B G0 κ en (.Constant (.int i) j pos) .F (.ok (.int i)) := ⟨PE.wk pe_int fun σ H Q h => h.ret fun _ => rfl⟩
theorem ev_bl {i : Bool} {j : Nat} : EV X W B G0 κ en (.Constant (.bool i) j pos) .F (.ok (.bl i)) := ⟨PE.wk pe_bl fun σ H Q h => h.ret fun _ => rfl⟩
theorem ev_non {j : Nat} : EV X W B G0 κ en (.Constant .none j pos) .F (.ok .non) := ⟨PE.wk pe_non fun σ H Q h => h.ret fun _ => rfl⟩
theorem ev_str {x : Str} {j : Nat} (hx : sOk x = true := by rfl) : EV X W B G0 κ en (.Constant (.str x) j pos) .F (.ok (.str x)) := ⟨PE.wk pe_str fun σ H Q h => h.ret fun _ => ⟨rfl, hx⟩⟩
/-- a constant of the module: an int, a text -/
theorem ev_globI {x : Str} {i : Int} (hg : Gl X x) (hm : ∃ t, X.mg x = some (.int i t)) (hd : (x == ("__debug__" : Str)) = false := by decide) : EV X W B G0 κ en (.Name x pos) .F (.ok (.int i)) := by
  obtain ⟨t, ht⟩ := hm
  exact ⟨PE.wk (pe_glob (v := .int i) hg ht ⟨t, rfl⟩ hd) fun σ H Q h => h.ret fun _ => rfl⟩
theorem ev_globS {x z : Str} (hg : Gl X x) (hm : ∃ t, X.mg x = some (.str z t)) (hz : sOk z = true := by rfl) (hd : (x == ("__debug__" : Str)) = false := by decide) : EV X W B G0 κ en (.Name x pos) .F (.ok (.str z)) := by
  obtain ⟨t, ht⟩ := hm
  exact ⟨PE.wk (pe_glob (v := .str z) hg ht ⟨t, rfl⟩ hd) fun σ H Q h => h.ret fun _ => ⟨rfl, hz⟩⟩
/-! ### how a value is held -/
theorem EV.toP (h : EV X W B G0 κ en e k r) : EV X W B G0 κ en e .P r :=
  ⟨PE.wk h.pe fun σ H Q ⟨G, Ss, st, m⟩ => ⟨G, Ss, st, m.imp fun d H' G' _ a y v S q => y v [] ⟨q.rep (st.sB.trans a.1) a.2.2.1, rfl⟩⟩⟩
theorem EV.frz {q : Kd} (h : EV X W B G0 κ en e (.O q) r) (hq : q.own = true) : EV X W B G0 κ en e .F r :=
  ⟨PE.wk h.pe fun σ H Q ⟨G, Ss, st, m⟩ => ⟨G, Ss, st, by
    cases r with
    | bad => exact m
    | exc x => exact m
    | ok d =>
      intro H' G' a v S ⟨q1, q2, q3⟩
      have g : ∀ p ∈ S, G' p = none := fun p hp => (q3 p hp).2.1
      exact m H' (Lw.frz G' H' S) (a.frz fun p hp => ⟨(q3 p hp).1, g p hp⟩) v [] ⟨q1.frz hq (fun _ z => z) g, rfl⟩⟩⟩
/-- a number, a text, a truth value, None: held everywhere -/
def scal (d : D) : R D := if d.sc then .ok d else .bad
theorem EV.sc (h : EV X W B G0 κ en e k r) : EV X W B G0 κ en e .F (r.bind scal) :=
  ⟨PE.wk h.pe fun σ H Q h => tEV_bind (k := k) h Q fun d v H1 G G1 S Ss e a st rv m => by
    have h1 : tEV W (cf X B G0) κ en .F (scal d) σ H1 Q := ⟨G1, Ss, st, m⟩
    unfold scal at h1
    cases hs : d.sc with
    | false => rw [hs] at h1; exact h1.bad
    | true =>
      rw [hs, if_pos rfl] at h1
      exact h1.ret fun G => (st.rd rv).sc hs G⟩
/-! ### operators by values -/
/-- what an operator's reading wants, from what f gives -/
def OpD (K : PySem.W.Frag) (mg : Str → Option Value) (rr : R2) (k : RK) (f : D → D → R D) : Prop :=
  ∀ (W : WX) (B G0 : Hp) (κ : List Kd) (en : List D) (σ : L2.St) (H : Hp) (Q : VK) (x y : D) (v w : V), Rep K mg H x v → Rep K mg H y w → tEV W ⟨K, mg, B, G0⟩ κ en k (f x y) σ H Q → rr v w H Q
def UnD (K : PySem.W.Frag) (mg : Str → Option Value) (rr : V → Hp → VK → Prop) (k : RK) (f : D → R D) : Prop :=
  ∀ (W : WX) (B G0 : Hp) (κ : List Kd) (en : List D) (σ : L2.St) (H : Hp) (Q : VK) (x : D) (v : V), Rep K mg H x v → tEV W ⟨K, mg, B, G0⟩ κ en k (f x) σ H Q → rr v H Q
theorem tOp_ev {rr : R2} {f : D → D → R D} {σ : L2.St} {H : Hp} {Q : VK} (ho : OpD X.K X.mg rr k f) (h : tEV W (cf X B G0) κ en k (ra.bind fun x => rb.bind fun y => f x y) σ H Q) : tOp rr (tEV W (cf X B G0) κ en ka ra) (tEV W (cf X B G0) κ en kb rb) σ H Q :=
  tEV_bind h _ fun d v H1 G G1 S Ss _ a st rv h1 => tEV_bind ⟨G1, Ss, st, h1⟩ _ fun d2 v2 H2 G' G2 S2 Ss2 _ a2 st2 rv2 h2 => ho W B G0 κ en σ H2 Q d d2 v v2 ((st.rd rv).mono a2.1) (st2.rd rv2) ⟨G2, Ss2, st2, h2⟩
theorem ev_bin {op : Operator} {rr : R2} {f : D → D → R D} (ho : OpR X (binaryOp op) rr) (hf : OpD X.K X.mg rr k f) (ha : EV X W B G0 κ en a ka ra) (hb : EV X W B G0 κ en b kb rb) :
    EV X W B G0 κ en (.BinOp a op b pos) k (R.bin2 ra rb f) := ⟨PE.wk (pe_op ho ha.pe hb.pe) fun σ H Q h => tOp_ev hf h⟩
theorem ev_un {op : UnaryOp} {rr : V → Hp → VK → Prop} {f : D → R D} (ho : UnR X (unaryOp op) rr) (hf : UnD X.K X.mg rr k f) (ha : EV X W B G0 κ en a ka ra) : EV X W B G0 κ en (.UnaryOp op a pos) k (ra.bind f) :=
  ⟨PE.wk (pe_un ho ha.pe) fun σ H Q h => tEV_bind h _ fun d v H1 G G1 S Ss _ a st rv h1 => hf W B G0 κ en σ H1 Q d v (st.rd rv) ⟨G1, Ss, st, h1⟩⟩
theorem ev_cmp {op : CmpOp} {rr : R2} {f : D → D → R D} (ho : OpR X (compareOp op) rr) (hf : OpD X.K X.mg rr k f) (ha : EV X W B G0 κ en a ka ra) (hb : EV X W B G0 κ en b kb rb) (hm : behindInMarks op b = false) :
    EV X W B G0 κ en (.Compare a [op] [b] pos) k (R.bin2 ra rb f) := ⟨PE.wk (pe_cmpR ho ha.pe hb.pe hm) fun σ H Q h => tOp_ev hf h⟩
end
end Lw
namespace Lw
open PySem PySem.Spec PyProof.Rows L2
/-! ### what operators give -/
def mulOk (a b : Int) : Bool := decide (a.natAbs.log2 + b.natAbs.log2 < 134000000)
def pAdd : D → D → R D
  | .int a, .int b => .ok (.int (a + b))
  | .str a, .str b => if a.length + b.length ≤ 16777216 then .ok (.str (a ++ b)) else .bad
  | _, _ => .bad
def pSub : D → D → R D
  | .int a, .int b => .ok (.int (a - b))
  | _, _ => .bad
def strRep (s : Str) (n : Int) : Str := ⟨(List.replicate n.toNat s.cps.toList).flatten.toArray⟩
def repOk (s : Str) (n : Int) : Bool := decide (-(2 ^ 63) ≤ n ∧ n < 2 ^ 63 ∧ s.length * n.toNat ≤ 16777216)
def pMul : D → D → R D
  | .int a, .int b => if mulOk a b = true then .ok (.int (a * b)) else .bad
  | .str s, .int n => if repOk s n = true then .ok (.str (strRep s n)) else .bad
  | _, _ => .bad
def pMod : D → D → R D
  | .int a, .int b => if 0 < b then .ok (.int (a % b)) else .bad
  | _, _ => .bad
def pDiv : D → D → R D
  | .int a, .int b => if 0 < b ∧ b.natAbs.log2 < 9000 then .ok (.int (a / b)) else .bad
  | _, _ => .bad
def pPow : D → D → R D
  | .int a, .int b => if 0 ≤ b ∧ b ≤ 1000000 ∧ a.natAbs < 2 ^ 64 then .ok (.int (a ^ b.toNat)) else .bad
  | _, _ => .bad
def pNeg : D → R D
  | .int a => .ok (.int (-a))
  | _ => .bad
def pLt : D → D → R D
  | .int a, .int b => .ok (.bl (decide (a < b)))
  | _, _ => .bad
def pLe : D → D → R D
  | .int a, .int b => .ok (.bl (decide (a ≤ b)))
  | _, _ => .bad
def pGt : D → D → R D
  | .int a, .int b => .ok (.bl (decide (b < a)))
  | _, _ => .bad
def pGe : D → D → R D
  | .int a, .int b => .ok (.bl (decide (b ≤ a)))
  | _, _ => .bad
/-! ### equality of data -/
mutual
def py : D → PyData
  | .non => .none
  | .bl b => .bool b
  | .int i => .int i
  | .str s => .str s
  | .lst xs => .list (pys xs)
  | .tup xs => .tuple (pys xs)
  | .scr _ => .dict []
  | .dct _ _ => .dict []
  | .dcT _ _ => .dict []
  | .obj _ _ _ => .dict []
  | .exc _ _ _ => .dict []
def pys : List D → List PyData
  | [] => []
  | d :: ds => py d :: pys ds
end
mutual
/-- plain data, at most n lists and tuples within one another -/
def pl : D → Nat → Bool
  | .lst xs, n => match n with
    | 0 => false
    | m + 1 => pls xs m
  | .tup xs, n => match n with
    | 0 => false
    | m + 1 => pls xs m
  | .scr _, _ => false
  | .dct _ _, _ => false
  | .dcT _ _, _ => false
  | .obj _ _ _, _ => false
  | .exc _ _ _, _ => false
  | .non, _ => true
  | .bl _, _ => true
  | .int _, _ => true
  | .str _, _ => true
def pls : List D → Nat → Bool
  | [], _ => true
  | d :: ds, n => pl d n && pls ds n
end
mutual
def deq : D → D → Bool
  | .non, e => match e with
    | .non => true
    | _ => false
  | .bl a, e => match e with
    | .bl b => a == b
    | .int j => (if a then 1 else 0) == j
    | _ => false
  | .int i, e => match e with
    | .bl b => i == (if b then 1 else 0)
    | .int j => i == j
    | _ => false
  | .str x, e => match e with
    | .str y => x == y
    | _ => false
  | .lst xs, e => match e with
    | .lst ys => deqs xs ys
    | _ => false
  | .tup xs, e => match e with
    | .tup ys => deqs xs ys
    | _ => false
  | .scr _, _ => false
  | .dct _ _, _ => false
  | .dcT _ _, _ => false
  | .obj _ _ _, _ => false
  | .exc _ _ _, _ => false
def deqs : List D → List D → Bool
  | [], es => match es with
    | [] => true
    | _ :: _ => false
  | x :: xs, es => match es with
    | [] => false
    | y :: ys => deq x y && deqs xs ys
end
def pEq (x y : D) : R D := if pl x 20 && pl y 20 then .ok (.bl (deq x y)) else .bad
def pNe (x y : D) : R D := if pl x 20 && pl y 20 then .ok (.bl (!deq x y)) else .bad
mutual
theorem deq_py : ∀ x y : D, PyData.eqv (py x) (py y) = deq x y
  | .non, e => by cases e <;> simp [py, deq, PyData.eqv]
  | .bl a, e => by cases e <;> simp [py, deq, PyData.eqv]
  | .int i, e => by cases e <;> simp [py, deq, PyData.eqv]
  | .str x, e => by cases e <;> simp [py, deq, PyData.eqv]
  | .lst xs, e => by
    cases e with
    | lst ys => simp [py, deq, PyData.eqv, deqs_py xs ys]
    | _ => simp [py, deq, PyData.eqv]
  | .tup xs, e => by
    cases e with
    | tup ys => simp [py, deq, PyData.eqv, deqs_py xs ys]
    | _ => simp [py, deq, PyData.eqv]
  | .scr _, e => by cases e <;> simp [py, deq, PyData.eqv]
  | .dct _ _, e => by cases e <;> simp [py, deq, PyData.eqv]
  | .dcT _ _, e => by cases e <;> simp [py, deq, PyData.eqv]
  | .obj _ _ _, e => by cases e <;> simp [py, deq, PyData.eqv]
  | .exc _ _ _, e => by cases e <;> simp [py, deq, PyData.eqv]
theorem deqs_py : ∀ xs ys : List D, PyData.eqvAll (pys xs) (pys ys) = deqs xs ys
  | [], [] => by simp [pys, deqs, PyData.eqvAll]
  | [], _ :: _ => by simp [pys, deqs, PyData.eqvAll]
  | _ :: _, [] => by simp [pys, deqs, PyData.eqvAll]
  | x :: xs, y :: ys => by simp [pys, deqs, PyData.eqvAll, deq_py x y, deqs_py xs ys]
end
mutual
theorem depth_pl : ∀ (x : D) (n : Nat), pl x n = true → (py x).depth ≤ n
  | .non, n, _ => by simp [py, PyData.depth]
  | .bl a, n, _ => by simp [py, PyData.depth]
  | .int i, n, _ => by simp [py, PyData.depth]
  | .str x, n, _ => by simp [py, PyData.depth]
  | .lst xs, n, h => by
    cases n with
    | zero => simp [pl] at h
    | succ m =>
      have q := depth_pls xs m (by simpa [pl] using h)
      simp [py, PyData.depth]
      exact q
  | .tup xs, n, h => by
    cases n with
    | zero => simp [pl] at h
    | succ m =>
      have q := depth_pls xs m (by simpa [pl] using h)
      simp [py, PyData.depth]
      exact q
  | .scr _, n, h => by simp [pl] at h
  | .dct _ _, n, h => by simp [pl] at h
  | .dcT _ _, n, h => by simp [pl] at h
  | .obj _ _ _, n, h => by simp [pl] at h
  | .exc _ _ _, n, h => by simp [pl] at h
theorem depth_pls : ∀ (xs : List D) (n : Nat), pls xs n = true → PyData.depthAll (pys xs) ≤ n
  | [], n, _ => by simp [pys, PyData.depthAll]
  | x :: xs, n, h => by
    obtain ⟨h1, h2⟩ := Bool.and_eq_true_iff.mp (show (pl x n && pls xs n) = true by simpa [pls] using h)
    have a := depth_pl x n h1
    have b := depth_pls xs n h2
    simp only [pys, PyData.depthAll]
    omega
end
section
variable {K : PySem.W.Frag} {mg : Str → Option Value} {H : Hp}
mutual
theorem Rep.dp : ∀ {x : D} {v : V} {n : Nat}, Rep K mg H x v → pl x n = true → Dp K H v (py x)
  | .non, _, _, h, _ => by cases (show _ = V.non from h); exact .non
  | .bl b, _, _, h, _ => by cases (show _ = V.bl b from h); exact .bl b
  | .int i, _, _, h, _ => by cases (show _ = V.int i from h); exact .int i
  | .str s, _, _, h, _ => by
    obtain ⟨h, _⟩ := h
    cases (show _ = V.str s from h); exact .str s
  | .lst xs, _, n, ⟨a, vs, e, q, r⟩, h => by
    subst e
    cases n with
    | zero => simp [pl] at h
    | succ m => exact .lst (SqL.of q) (Reps.dp (n := m) r (by simpa [pl] using h))
  | .tup xs, _, n, ⟨a, vs, e, q, r⟩, h => by
    subst e
    cases n with
    | zero => simp [pl] at h
    | succ m => exact .tup q (Reps.dp (n := m) r (by simpa [pl] using h))
  | .scr _, _, _, _, h => by simp [pl] at h
  | .dct _ _, _, _, _, h => by simp [pl] at h
  | .dcT _ _, _, _, _, h => by simp [pl] at h
  | .obj _ _ _, _, _, _, h => by simp [pl] at h
  | .exc _ _ _, _, _, _, h => by simp [pl] at h
theorem Reps.dp : ∀ {xs : List D} {vs : List V} {n : Nat}, Reps K mg H xs vs → pls xs n = true → DpAll K H vs (pys xs)
  | [], _, _, h, _ => by
    have e : _ = [] := h
    subst e
    exact .nil
  | x :: xs, _, n, ⟨v, r, e, q, rs⟩, h => by
    subst e
    obtain ⟨h1, h2⟩ := Bool.and_eq_true_iff.mp (show (pl x n && pls xs n) = true by simpa [pls] using h)
    exact .cons (Rep.dp q h1) (Reps.dp rs h2)
end
mutual
theorem Rep.lay : ∀ {x : D} {v : V} {n : Nat}, Rep K mg H x v → pl x n = true → (py x).canLay0 = true
  | .non, _, _, h, _ => by simp [py, PyData.canLay0]
  | .bl b, _, _, h, _ => by simp [py, PyData.canLay0]
  | .int i, _, _, h, _ => by simp [py, PyData.canLay0]
  | .str s, _, _, h, _ => by
    simp only [py, PyData.canLay0]
    exact (Bool.and_eq_true_iff.mp h.2).1
  | .lst xs, _, n, ⟨a, vs, e, q, r⟩, h => by
    cases n with
    | zero => simp [pl] at h
    | succ m =>
      simp only [py, PyData.canLay0]
      exact Reps.lay (n := m) r (by simpa [pl] using h)
  | .tup xs, _, n, ⟨a, vs, e, q, r⟩, h => by
    cases n with
    | zero => simp [pl] at h
    | succ m =>
      simp only [py, PyData.canLay0]
      exact Reps.lay (n := m) r (by simpa [pl] using h)
  | .scr _, _, _, _, h => by simp [pl] at h
  | .dct _ _, _, _, _, h => by simp [pl] at h
  | .dcT _ _, _, _, _, h => by simp [pl] at h
  | .obj _ _ _, _, _, _, h => by simp [pl] at h
  | .exc _ _ _, _, _, _, h => by simp [pl] at h
theorem Reps.lay : ∀ {xs : List D} {vs : List V} {n : Nat}, Reps K mg H xs vs → pls xs n = true → PyData.canLayAll0 (pys xs) = true
  | [], _, _, h, _ => by simp [pys, PyData.canLayAll0]
  | x :: xs, _, n, ⟨v, r, e, q, rs⟩, h => by
    obtain ⟨h1, h2⟩ := Bool.and_eq_true_iff.mp (show (pl x n && pls xs n) = true by simpa [pls] using h)
    simp only [pys, PyData.canLayAll0, Rep.lay q h1, Reps.lay rs h2, Bool.and_self]
end
theorem Rep.shaped {x : D} {v : V} (r : Rep K mg H x v) (h : pl x 20 = true) : SeqAt.shaped (py x) = true := by
  unfold SeqAt.shaped
  rw [r.lay h, Bool.true_and]
  exact decide_eq_true (Nat.le_trans (depth_pl x 20 h) (by decide))
theorem sOk_len {a : Str} (h : sOk a = true) : a.length ≤ 16777216 := of_decide_eq_true (Bool.and_eq_true_iff.mp h).2
theorem sOk_cps {a : Str} (h : sOk a = true) : PyData.strOk a = true := (Bool.and_eq_true_iff.mp h).1
theorem sOk_mk {a : Str} (h : PyData.strOk a = true) (h2 : a.length ≤ 16777216) : sOk a = true := by
  unfold sOk
  rw [h, decide_eq_true h2] <;> rfl
theorem sOk_append {a b : Str} (ha : sOk a = true) (hb : sOk b = true) (h : a.length + b.length ≤ 16777216) : sOk (a ++ b) = true := by
  refine sOk_mk ?_ (by rw [Str.length_append]; exact h)
  have h1 := sOk_cps ha
  have h2 := sOk_cps hb
  unfold PyData.strOk at *
  rw [Str.cps_append, Array.all_append, h1, h2] <;> rfl
/-! ### they are what the readings want -/
theorem tEV.int {W : WX} {B G0 : Hp} {κ : List Kd} {en : List D} {σ : L2.St} {Q : VK} {i : Int} (h : tEV W ⟨K, mg, B, G0⟩ κ en .F (.ok (.int i)) σ H Q) : Q (.int i) H := h.ret fun _ => rfl
theorem tEV.bl {W : WX} {B G0 : Hp} {κ : List Kd} {en : List D} {σ : L2.St} {Q : VK} {i : Bool} (h : tEV W ⟨K, mg, B, G0⟩ κ en .F (.ok (.bl i)) σ H Q) : Q (.bl i) H := h.ret fun _ => rfl
theorem od_int {f : D → D → R D} {C : Int → Int → Prop} {g : Int → Int → V} (hi : ∀ a b, f (.int a) (.int b) = .bad ∨ (C a b ∧ ∃ d, f (.int a) (.int b) = .ok d ∧ ∀ G, Rep K mg G d (g a b)))
    (hn : ∀ x y, (∃ a b, x = .int a ∧ y = .int b) ∨ f x y = .bad) : OpD K mg (rI C g) .F f := by
  intro W B G0 κ en σ H Q x y v w hx hy h
  rcases hn x y with ⟨a, b, e1, e2⟩ | e
  · subst e1 e2
    rcases hi a b with e | ⟨hc, d, e, r⟩
    · rw [e] at h; exact h.bad
    · rw [e] at h
      exact ⟨a, b, hx, hy, hc, h.ret r⟩
  · rw [e] at h; exact h.bad
theorem od_int0 {f : D → D → R D} {g : Int → Int → V} (hi : ∀ a b, ∃ d, f (.int a) (.int b) = .ok d ∧ ∀ G, Rep K mg G d (g a b))
    (hn : ∀ x y, (∃ a b, x = .int a ∧ y = .int b) ∨ f x y = .bad) : OpD K mg (rI0 g) .F f := by
  intro W B G0 κ en σ H Q x y v w hx hy h
  rcases hn x y with ⟨a, b, e1, e2⟩ | e
  · subst e1 e2
    obtain ⟨d, e, r⟩ := hi a b
    rw [e] at h
    exact ⟨a, b, hx, hy, h.ret r⟩
  · rw [e] at h; exact h.bad
theorem od_sub : OpD K mg (rI0 fun i j => .int (i - j)) .F pSub := od_int0 (fun a b => ⟨_, rfl, fun _ => rfl⟩) fun x y => by
  cases x <;> cases y <;> first | exact .inl ⟨_, _, rfl, rfl⟩ | exact .inr rfl
theorem od_lt : OpD K mg (rI0 fun i j => .bl (decide (i < j))) .F pLt := od_int0 (fun a b => ⟨_, rfl, fun _ => rfl⟩) fun x y => by
  cases x <;> cases y <;> first | exact .inl ⟨_, _, rfl, rfl⟩ | exact .inr rfl
theorem od_le : OpD K mg (rI0 fun i j => .bl (decide (i ≤ j))) .F pLe := od_int0 (fun a b => ⟨_, rfl, fun _ => rfl⟩) fun x y => by
  cases x <;> cases y <;> first | exact .inl ⟨_, _, rfl, rfl⟩ | exact .inr rfl
theorem od_gt : OpD K mg (rI0 fun i j => .bl (decide (j < i))) .F pGt := od_int0 (fun a b => ⟨_, rfl, fun _ => rfl⟩) fun x y => by
  cases x <;> cases y <;> first | exact .inl ⟨_, _, rfl, rfl⟩ | exact .inr rfl
theorem od_ge : OpD K mg (rI0 fun i j => .bl (decide (j ≤ i))) .F pGe := od_int0 (fun a b => ⟨_, rfl, fun _ => rfl⟩) fun x y => by
  cases x <;> cases y <;> first | exact .inl ⟨_, _, rfl, rfl⟩ | exact .inr rfl
def CMulD (i j : Int) : Prop := mulOk i j = true
theorem CMulD.ok {i j : Int} (h : CMulD i j) : IntMulOk i j := by
  have b : ∀ x : Int, Builtin.Int.intBits x ≤ x.natAbs.log2 + 1 := fun x => by
    unfold Builtin.Int.intBits
    split <;> omega
  have b1 := b i
  have b2 := b j
  have q : i.natAbs.log2 + j.natAbs.log2 < 134000000 := of_decide_eq_true h
  have e : bitsLine = 134217728 := by decide
  intro z
  have z2 := (Bool.and_eq_true_iff.mp z).2
  unfold Builtin.Int.intTooBig at z2
  have z3 := of_decide_eq_true z2
  rw [e] at z3
  omega
theorem foldl_rep (a : Array Nat) : ∀ (n : Nat) (acc : Array Nat), (List.replicate n a).foldl (· ++ ·) acc = acc ++ (List.replicate n a.toList).flatten.toArray
  | 0, acc => by simp
  | n + 1, acc => by
    rw [List.replicate_succ, List.foldl_cons, foldl_rep a n, List.replicate_succ, List.flatten_cons]
    apply Array.toList_inj.mp
    simp
theorem strRep_eq {s : Str} {n : Int} : Txt.mul s n = strRep s n := by
  unfold Txt.mul strRep
  by_cases h : n < 1
  · rw [if_pos h, show n.toNat = 0 by omega]
    rfl
  · rw [if_neg h]
    split
    · rename_i h2
      rcases Bool.or_eq_true_iff.mp h2 with h3 | h3
      · have e : n = 1 := by simpa using h3
        subst e
        show s = ⟨(List.replicate 1 s.cps.toList).flatten.toArray⟩
        simp
      · have e : s.cps.size = 0 := by simpa [Str.length] using h3
        have e2 : s.cps = #[] := Array.size_eq_zero_iff.mp e
        have e3 : s = ⟨#[]⟩ := by
          obtain ⟨c⟩ := s
          exact congrArg Str.mk e2
        subst e3
        congr 1
        have : ∀ k : Nat, (List.replicate k ([] : List Nat)).flatten = [] := fun k => by simp
        show #[] = ((List.replicate n.toNat ([] : List Nat)).flatten).toArray
        rw [this]
    · rw [foldl_rep]
      simp
theorem strRep_len {s : Str} {n : Int} : (strRep s n).length = s.length * n.toNat := by
  unfold strRep Str.length
  simp [Nat.mul_comm]
theorem sOk_rep {s : Str} {n : Int} (h : sOk s = true) (hr : repOk s n = true) : sOk (strRep s n) = true := by
  refine sOk_mk ?_ (by rw [strRep_len]; exact (of_decide_eq_true hr).2.2)
  have h1 := sOk_cps h
  unfold PyData.strOk at *
  unfold strRep
  rw [Array.all_eq_true_iff_forall_mem] at *
  intro c hc
  have hc2 : c ∈ (List.replicate n.toNat s.cps.toList).flatten := List.mem_toArray.mp hc
  obtain ⟨l, h2, h3⟩ := List.mem_flatten.mp hc2
  rw [List.eq_of_mem_replicate h2] at h3
  exact h1 c (by simpa using h3)
theorem mulOk_rep {s : Str} {n : Int} (hr : repOk s n = true) : MulOk s n := by
  obtain ⟨h1, h2, h3⟩ := of_decide_eq_true hr
  refine ⟨?_, fun g1 g2 => ?_, fun g1 g2 => ?_⟩
  · rw [decide_eq_false (by omega), decide_eq_false (by omega)]
    rfl
  · have h4 : ((s.length * n.toNat : Nat) : Int) ≤ 16777216 := by omega
    have h5 : (s.length : Int) * n ≤ 2 ^ 63 - 1 := by
      have e : (n.toNat : Int) = n := by omega
      rw [Int.natCast_mul, e] at h4
      omega
    have h6 := Int.le_ediv_of_mul_le (show 0 < n by omega) h5
    omega
  · unfold Builtin.Str.tooLong
    exact decide_eq_false (by rw [sizeLine_eq]; omega)
abbrev rMulD : R2 := fun x y H Q => rI CMulD (fun i j => .int (i * j)) x y H Q ∨ (∃ i j, x = .str i ∧ y = .int j ∧ repOk i j = true ∧ Q (.str (strRep i j)) H)
theorem op_mul_str {X : Cx} : OpR X (binaryOp .Mult) (fun x y H Q => ∃ i j, x = .str i ∧ y = .int j ∧ repOk i j = true ∧ Q (.str (strRep i j)) H) := by
  intro pins s σ H x y v u Q I rx ry h
  obtain ⟨i, j, rfl, rfl, hz, q⟩ := h
  obtain ⟨t, rfl⟩ := rx
  obtain ⟨t', rfl⟩ := ry
  exact SB.mul (mulOk_rep hz) (fun t' tk => ⟨.str (strRep i j), H, I.tok _, ⟨_, by rw [strRep_eq]⟩, q⟩)
theorem op_mulI {X : Cx} : OpR X (binaryOp .Mult) (rI CMulD fun i j => .int (i * j)) := opI fun _ _ _ _ _ _ _ hc q => mul_int q hc.ok
theorem op_mulD {X : Cx} : OpR X (binaryOp .Mult) rMulD := op_mulI.or op_mul_str
theorem od_mul : OpD K mg rMulD .F pMul := by
  intro W B G0 κ en σ H Q x y v w hx hy h
  cases x <;> cases y <;> first
    | exact tEV.bad (k := .F) h
    | (rename_i a b
       by_cases hl : mulOk a b = true
       · have h' : tEV W ⟨K, mg, B, G0⟩ κ en .F (if mulOk a b = true then .ok (.int (a * b)) else .bad) σ H Q := h
         rw [if_pos hl] at h'
         exact .inl ⟨_, _, hx, hy, hl, h'.int⟩
       · have h' : tEV W ⟨K, mg, B, G0⟩ κ en .F (if mulOk a b = true then .ok (.int (a * b)) else .bad) σ H Q := h
         rw [if_neg hl] at h'
         exact h'.bad)
    | (rename_i a b
       by_cases hl : repOk a b = true
       · have h' : tEV W ⟨K, mg, B, G0⟩ κ en .F (if repOk a b = true then .ok (.str (strRep a b)) else .bad) σ H Q := h
         rw [if_pos hl] at h'
         exact .inr ⟨a, b, hx.1, hy, hl, h'.ret fun _ => ⟨rfl, sOk_rep hx.2 hl⟩⟩
       · have h' : tEV W ⟨K, mg, B, G0⟩ κ en .F (if repOk a b = true then .ok (.str (strRep a b)) else .bad) σ H Q := h
         rw [if_neg hl] at h'
         exact h'.bad)
theorem od_mod : OpD K mg (rI (fun _ j => 0 < j) fun i j => .int (i % j)) .F pMod := od_int (fun a b => by
  by_cases h : 0 < b
  · exact .inr ⟨h, .int (a % b), by show (if 0 < b then _ else _) = _; rw [if_pos h], fun _ => rfl⟩
  · exact .inl (by show (if 0 < b then _ else _) = _; rw [if_neg h])) fun x y => by
  cases x <;> cases y <;> first | exact .inl ⟨_, _, rfl, rfl⟩ | exact .inr rfl
theorem od_div : OpD K mg (rI CDivW fun i j => .int (i / j)) .F pDiv := od_int (fun a b => by
  by_cases h : 0 < b ∧ b.natAbs.log2 < 9000
  · exact .inr ⟨h, .int (a / b), by show (if 0 < b ∧ b.natAbs.log2 < 9000 then _ else _) = _; rw [if_pos h], fun _ => rfl⟩
  · exact .inl (by show (if 0 < b ∧ b.natAbs.log2 < 9000 then _ else _) = _; rw [if_neg h])) fun x y => by
  cases x <;> cases y <;> first | exact .inl ⟨_, _, rfl, rfl⟩ | exact .inr rfl
theorem od_pow : OpD K mg (rI CPow fun i j => .int (i ^ j.toNat)) .F pPow := od_int (fun a b => by
  by_cases h : 0 ≤ b ∧ b ≤ 1000000 ∧ a.natAbs < 2 ^ 64
  · exact .inr ⟨h, .int (a ^ b.toNat), by show (if 0 ≤ b ∧ b ≤ 1000000 ∧ a.natAbs < 2 ^ 64 then _ else _) = _; rw [if_pos h], fun _ => rfl⟩
  · exact .inl (by show (if 0 ≤ b ∧ b ≤ 1000000 ∧ a.natAbs < 2 ^ 64 then _ else _) = _; rw [if_neg h])) fun x y => by
  cases x <;> cases y <;> first | exact .inl ⟨_, _, rfl, rfl⟩ | exact .inr rfl
abbrev rAddD : R2 := fun x y H Q => rI0 (fun i j => .int (i + j)) x y H Q ∨ (∃ i j, x = .str i ∧ y = .str j ∧ i.length + j.length ≤ sizeLine ∧ Q (.str (i ++ j)) H)
theorem op_addD {X : Cx} : OpR X (binaryOp .Add) rAddD := op_add.or op_add_str
theorem od_add : OpD K mg rAddD .F pAdd := by
  intro W B G0 κ en σ H Q x y v w hx hy h
  cases x <;> cases y <;> first
    | exact .inl ⟨_, _, hx, hy, h.int⟩
    | (rename_i a b
       by_cases hl : a.length + b.length ≤ 16777216
       · have h' : tEV W ⟨K, mg, B, G0⟩ κ en .F (if a.length + b.length ≤ 16777216 then .ok (.str (a ++ b)) else .bad) σ H Q := h
         rw [if_pos hl] at h'
         exact .inr ⟨a, b, hx.1, hy.1, by rw [sizeLine_eq]; exact hl, h'.ret fun _ => ⟨rfl, sOk_append hx.2 hy.2 hl⟩⟩
       · have h' : tEV W ⟨K, mg, B, G0⟩ κ en .F (if a.length + b.length ≤ 16777216 then .ok (.str (a ++ b)) else .bad) σ H Q := h
         rw [if_neg hl] at h'
         exact h'.bad)
    | exact tEV.bad (k := .F) h
theorem ud_neg : UnD K mg (rU fun i => .int (-i)) .F pNeg := by
  intro W B G0 κ en σ H Q x v hx h
  cases x <;> first
    | exact ⟨_, hx, h.int⟩
    | exact tEV.bad (k := .F) h
theorem od_eq : OpD K mg (rEqD K) .F pEq := by
  intro W B G0 κ en σ H Q x y v w hx hy h
  unfold pEq at h
  cases e : pl x 20 && pl y 20 with
  | false => rw [e] at h; exact tEV.bad (k := .F) h
  | true =>
    obtain ⟨h1, h2⟩ := Bool.and_eq_true_iff.mp e
    rw [e, if_pos rfl] at h
    exact ⟨py x, py y, hx.dp h1, hy.dp h2, hx.shaped h1, hy.shaped h2, by rw [deq_py]; exact h.bl⟩
theorem od_ne : OpD K mg (rNeD K) .F pNe := by
  intro W B G0 κ en σ H Q x y v w hx hy h
  unfold pNe at h
  cases e : pl x 20 && pl y 20 with
  | false => rw [e] at h; exact tEV.bad (k := .F) h
  | true =>
    obtain ⟨h1, h2⟩ := Bool.and_eq_true_iff.mp e
    rw [e, if_pos rfl] at h
    exact ⟨py x, py y, hx.dp h1, hy.dp h2, hx.shaped h1, hy.shaped h2, by rw [deq_py]; exact h.bl⟩
end
end Lw
namespace Lw
open PySem PySem.Spec PyProof.Rows L2
/-! ### tests -/
def toB : D → R Bool
  | .bl b => .ok b
  | _ => .bad
def andT (a b : R Bool) : R Bool := a.bind fun x => if x = true then b else .ok false
def orT (a b : R Bool) : R Bool := a.bind fun x => if x = true then .ok true else b
def notT (a : R Bool) : R Bool := a.bind fun x => .ok (!x)
def andV (a b : R D) : R D := a.bind fun x => match x with
  | .bl true => b
  | .bl false => .ok (.bl false)
  | _ => .bad
def orV (a b : R D) : R D := a.bind fun x => match x with
  | .bl true => .ok (.bl true)
  | .bl false => b
  | _ => .bad
def notV : D → R D
  | .bl b => .ok (.bl !b)
  | _ => .bad
section
variable {X : Cx} {W : WX} {B G0 : Hp} {κ : List Kd} {en : List D} {e a b t : Expr} {k ka kb : RK} {r ra rb : R D} {ta tb : R Bool} {d : D} {pos : Pos} {rest : List Expr}
theorem tB_ev {σ : L2.St} {H : Hp} {Q : Bool → Hp → Prop} (h : tET W (cf X B G0) κ en (r.bind toB) σ H Q) : tEV W (cf X B G0) κ en k r σ H (fun x H1 => ∃ c, x = .bl c ∧ Q c H1) :=
  tEX_bind h _ fun d v H1 G G1 S Ss e a st rv m => by
    have rd := st.rd rv
    cases d <;> first
      | exact ⟨_, rd, m H1 G1 (.refl st.sH)⟩
      | exact m.elim
/-- a value that is True or False, as a test (no comparison) -/
theorem et_val (h : EV X W B G0 κ en e k r) (he : ∀ whole, isTrue e X.env whole = (do let v ← whole; standAt e.pos; holding [v] (truthy v)) := by intro _; rfl) : ET X W B G0 κ en e (r.bind toB) :=
  ⟨PT.wk (pt_val h.pe he) fun σ H Q h => tB_ev h⟩
theorem et_cmp {op : CmpOp} {rr : R2} {f : D → D → R D} (ho : OpR X (compareOp op) rr) (hf : OpD X.K X.mg rr .F f) (ha : EV X W B G0 κ en a ka ra) (hb : EV X W B G0 κ en b kb rb) (hm : behindInMarks op b = false) :
    ET X W B G0 κ en (.Compare a [op] [b] pos) ((R.bin2 ra rb f).bind toB) :=
  ⟨PT.wk (pt_cmpR ho ha.pe hb.pe hm) fun σ H Q h => tOp_ev (k := .F) hf (tB_ev h)⟩
theorem ew_and1 (h : ET X W B G0 κ en a ta) : PW X (.BoolOp .And [a] pos) (tET W (cf X B G0) κ en ta) := pw_and1 h.pt
theorem ew_or1 (h : ET X W B G0 κ en a ta) : PW X (.BoolOp .Or [a] pos) (tET W (cf X B G0) κ en ta) := pw_or1 h.pt
theorem ew_and (h : ET X W B G0 κ en a ta) (h2 : PW X (.BoolOp .And (b :: rest) pos) (tET W (cf X B G0) κ en tb)) : PW X (.BoolOp .And (a :: b :: rest) pos) (tET W (cf X B G0) κ en (andT ta tb)) :=
  PW.wk (pw_and h.pt h2) fun σ H Q h => tTX_bind h _ fun c H1 G1 Ss st m => by
    cases c with
    | true => exact ⟨G1, Ss, st, m⟩
    | false => exact m H1 G1 (.refl st.sH)
theorem ew_or (h : ET X W B G0 κ en a ta) (h2 : PW X (.BoolOp .Or (b :: rest) pos) (tET W (cf X B G0) κ en tb)) : PW X (.BoolOp .Or (a :: b :: rest) pos) (tET W (cf X B G0) κ en (orT ta tb)) :=
  PW.wk (pw_or h.pt h2) fun σ H Q h => tTX_bind h _ fun c H1 G1 Ss st m => by
    cases c with
    | false => exact ⟨G1, Ss, st, m⟩
    | true => exact m H1 G1 (.refl st.sH)
theorem et_w (h : PW X e (tET W (cf X B G0) κ en ta)) : ET X W B G0 κ en e ta := ⟨PW.pt h⟩
theorem et_not (h : ET X W B G0 κ en a ta) : ET X W B G0 κ en (.UnaryOp .Not a pos) (notT ta) :=
  ⟨PT.wk (pt_not h.pt) fun σ H Q h => tTX_bind h _ fun c H1 G1 Ss st m => m H1 G1 (.refl st.sH)⟩
/-! ### and, or, not as values; a if t else b -/
theorem ev_one {op : BoolOp} (h : EV X W B G0 κ en a k r) : EV X W B G0 κ en (.BoolOp op [a] pos) k r := ⟨pe_one h.pe⟩
theorem tEV.mk {c : Cf} {σ : L2.St} {H G : Hp} {Ss : Nat → List Addr} {Q : VK} (st : St c κ en σ H G Ss) (m : mR W c σ H G (yV c H k Q) r) : tEV W c κ en k r σ H Q := ⟨G, Ss, st, m⟩
theorem ev_and (h : EV X W B G0 κ en a ka ra) (h2 : EV X W B G0 κ en (.BoolOp .And (b :: rest) pos) .F rb) : EV X W B G0 κ en (.BoolOp .And (a :: b :: rest) pos) .F (andV ra rb) :=
  ⟨PE.wk (pe_and h.pe h2.pe) fun σ H Q h => by
    unfold andV at h
    refine tEV_bind h _ fun d v H1 G G1 S Ss e a st rv m => ?_
    have rd := st.rd rv
    cases d with
    | bl c =>
      refine ⟨c, rd, ?_⟩
      cases c with
      | true => rw [if_pos rfl]; exact ⟨G1, Ss, st, m⟩
      | false => rw [if_neg (by decide)]; exact tEV.bl (en := en) (W := W) (κ := κ) ⟨G1, Ss, st, m⟩
    | _ => exact m.elim⟩
theorem ev_or (h : EV X W B G0 κ en a ka ra) (h2 : EV X W B G0 κ en (.BoolOp .Or (b :: rest) pos) .F rb) : EV X W B G0 κ en (.BoolOp .Or (a :: b :: rest) pos) .F (orV ra rb) :=
  ⟨PE.wk (pe_or h.pe h2.pe) fun σ H Q h => by
    unfold orV at h
    refine tEV_bind h _ fun d v H1 G G1 S Ss e a st rv m => ?_
    have rd := st.rd rv
    cases d with
    | bl c =>
      refine ⟨c, rd, ?_⟩
      cases c with
      | true => rw [if_pos rfl]; exact tEV.bl (en := en) (W := W) (κ := κ) ⟨G1, Ss, st, m⟩
      | false => rw [if_neg (by decide)]; exact ⟨G1, Ss, st, m⟩
    | _ => exact m.elim⟩
theorem ev_not (h : EV X W B G0 κ en a ka ra) : EV X W B G0 κ en (.UnaryOp .Not a pos) .F (ra.bind notV) :=
  ⟨PE.wk (pe_not h.pe) fun σ H Q h => tEV_bind h _ fun d v H1 G G1 S Ss e a st rv m => by
    have rd := st.rd rv
    cases d with
    | bl c => exact ⟨c, rd, tEV.bl (en := en) (W := W) (κ := κ) ⟨G1, Ss, st, m⟩⟩
    | _ => exact m.elim⟩
theorem ev_if (ht : ET X W B G0 κ en t ta) (ha : EV X W B G0 κ en a k ra) (hb : EV X W B G0 κ en b k rb) : EV X W B G0 κ en (.IfExp t a b pos) k (ta.bind fun x => if x = true then ra else rb) :=
  ⟨PE.wk (pe_ifExp ht.pt ha.pe hb.pe) fun σ H Q h => tTE_bind h _ fun c H1 q => by
    cases c with
    | true => exact q
    | false => exact q⟩
/-! ### lists of expressions -/
theorem ea_nil : EA X W B G0 κ en [] [] (.ok []) := ⟨PA.wk pa_nil fun σ H Q ⟨G, Ss, st, m⟩ => m H G (.refl st.sH) [] trivial⟩
theorem ArgP.adv {K : PySem.W.Frag} {mg : Str → Option Value} {H G H' G' : Hp} (s : Same H H') (s2 : Same G G') : ∀ {b : PK} {d : D} {v : V}, ArgP K mg H G b d v → ArgP K mg H' G' b d v
  | .F, _, _, h => Rep.mono s2 h
  | .B, _, _, h => Rep.mono s h
  | .E, _, _, ⟨p, vs, ds, e, hc, r⟩ => ⟨p, vs, ds, e, by
    cases hc with
    | lst h => exact .lst (s _ _ h)
    | dK h => exact .dK (s _ _ h), r.mono s2⟩
theorem ArgsR.adv {K : PySem.W.Frag} {mg : Str → Option Value} {H G H' G' : Hp} (s : Same H H') (s2 : Same G G') : ∀ {pk : List PK} {ds : List D} {vs : List V}, ArgsR K mg H G pk ds vs → ArgsR K mg H' G' pk ds vs
  | b :: bs, d :: ds, v :: vs, h => ⟨ArgP.adv s s2 h.1, ArgsR.adv s s2 h.2⟩
  | [], [], [], h => h
  | [], [], _ :: _, h => h.elim
  | [], _ :: _, _, h => h.elim
  | _ :: _, [], _, h => h.elim
  | _ :: _, _ :: _, [], h => h.elim
theorem tEA_cons {pk : List PK} {rs : R (List D)} {q : PK} {σ : L2.St} {H : Hp} {Q : List V → Hp → Prop} (h : tEA W (cf X B G0) κ en (q :: pk) (r.bind fun d => rs.bind fun ds => .ok (d :: ds)) σ H Q)
    (hq : ∀ d v (H1 H2 G : Hp) S, RV (cf X B G0) H1 H2 G k d v S → Same B H2 → Same G H2 → ArgP X.K X.mg H2 G q d v) : tCons (tEV W (cf X B G0) κ en k r) (tEA W (cf X B G0) κ en pk rs) σ H Q :=
  tEX_bind h _ fun d v H1 G G1 S Ss e a st rv m => ⟨G1, Ss, st, m.bind.imp fun ds H2 G2 e2 a2 m2 vs args =>
    m2 a2 H2 G2 (.refl a2.2.2.1) (v :: vs) ⟨ArgP.adv a2.1 a2.2.1 (hq d v H H1 G1 S rv st.sB st.sH), args⟩⟩
theorem ea_F {es : List Expr} {pk : List PK} {rs : R (List D)} (h : EV X W B G0 κ en e .F r) (h2 : EA X W B G0 κ en es pk rs) (hs : starEach (e :: es) X.env = (false, eval e X.env) :: starEach es X.env := by rfl) :
    EA X W B G0 κ en (e :: es) (.F :: pk) (R.cons r rs) :=
  ⟨PA.wk (pa_cons h.pe h2.pa hs) fun σ H Q h => tEA_cons h fun d v H1 H2 G S rv sB sG => rv.1⟩
theorem ea_P {es : List Expr} {pk : List PK} {rs : R (List D)} (h : EV X W B G0 κ en e k r) (h2 : EA X W B G0 κ en es pk rs) (hs : starEach (e :: es) X.env = (false, eval e X.env) :: starEach es X.env := by rfl) :
    EA X W B G0 κ en (e :: es) (.B :: pk) (R.cons r rs) :=
  ⟨PA.wk (pa_cons h.pe h2.pa hs) fun σ H Q h => tEA_cons h fun d v H1 H2 G S rv sB sG => rv.rep sB sG⟩
/-- a list of our own, a borrowed one: lent -/
theorem ea_E {es : List Expr} {pk : List PK} {rs : R (List D)} (h : EV X W B G0 κ en e .E r) (h2 : EA X W B G0 κ en es pk rs) (hs : starEach (e :: es) X.env = (false, eval e X.env) :: starEach es X.env := by rfl) :
    EA X W B G0 κ en (e :: es) (.E :: pk) (R.cons r rs) :=
  ⟨PA.wk (pa_cons h.pe h2.pa hs) fun σ H Q h => tEA_cons h fun d v H1 H2 G S rv sB sG => rv.1⟩
theorem ea_D {es : List Expr} {pk : List PK} {rs : R (List D)} (h : EV X W B G0 κ en e .J r) (h2 : EA X W B G0 κ en es pk rs) (hs : starEach (e :: es) X.env = (false, eval e X.env) :: starEach es X.env := by rfl) :
    EA X W B G0 κ en (e :: es) (.E :: pk) (R.cons r rs) :=
  ⟨PA.wk (pa_cons h.pe h2.pa hs) fun σ H Q h => tEA_cons h fun d v H1 H2 G S ⟨⟨p, vs, ds, e, hc, r⟩, _⟩ sB sG => ⟨p, vs, ds, e, by
    cases hc with
    | lst h => exact .lst (sB _ _ h)
    | dK h => exact .dK (sB _ _ h), r⟩⟩
theorem ArgsR.reps {K : PySem.W.Frag} {mg : Str → Option Value} {H G : Hp} : ∀ {pk : List PK} {ds : List D} {vs : List V}, ArgsR K mg H G pk ds vs → (∀ b ∈ pk, b.isF = true) → Reps K mg G ds vs
  | b :: bs, d :: ds, v :: vs, h, hb => .cons (by
    have z := h.1
    have y := hb b List.mem_cons_self
    cases b with
    | F => exact z
    | B => cases y
    | E => cases y) (ArgsR.reps h.2 fun c hc => hb c (List.mem_cons_of_mem _ hc))
  | [], [], [], h, _ => .nil
  | [], [], _ :: _, h, _ => h.elim
  | [], _ :: _, _, h, _ => h.elim
  | _ :: _, [], _, h, _ => h.elim
  | _ :: _, _ :: _, [], h, _ => h.elim
/-- a new list, a new tuple -/
def mkL (ds : List D) : R D := if ds.length ≤ 16777216 then .ok (.lst ds) else .bad
def mkT (ds : List D) : R D := if ds.length ≤ 16777216 then .ok (.tup ds) else .bad
theorem mR.ok {α : Type} {c : Cf} {σ : L2.St} {H G : Hp} {Y : α → Hp → Hp → Prop} {a : α} (m : mR W c σ H G Y (.ok a)) {H' G' : Hp} (h : Adv H G G' H') : Y a H' G' := m H' G' h
theorem AllR.frozen {c : Cf} {H G : Hp} : ∀ {ds : List D} {vs : List V}, Reps c.K c.mg G ds vs → AllR (RepK c H G .F) ds vs []
  | [], _, h => ⟨h, rfl⟩
  | _ :: _, _, ⟨v, r, e, h, q⟩ => ⟨v, r, [], [], e, rfl, ⟨h, rfl⟩, AllR.frozen q⟩
theorem new_list {c : Cf} {σ : L2.St} {H G : Hp} {Q : VK} {ds : List D} {vs : List V} (m : mR W c σ H G (yV c H (.O (.L .F)) Q) (mkL ds)) (sG : Same G H) (r : Reps c.K c.mg G ds vs) : vs.length ≤ sizeLine ∧ ∀ p, H p = none → Q (.ref p) (upd H p (.lst vs)) := by
  unfold mkL at m
  by_cases hl : ds.length ≤ 16777216
  · rw [if_pos hl] at m
    refine ⟨by rw [← r.length, sizeLine_eq]; exact hl, fun p hp => ?_⟩
    refine m.ok (Adv.newO sG hp) (.ref p) [p] ⟨⟨p, vs, ds, [], rfl, rfl, .lst upd_same, ?_⟩, by simp, fun q hq => ?_⟩
    · exact AllR.frozen r
    · have e : q = p := by simpa using hq
      subst e
      exact ⟨hp, sG.free hp, _, upd_same⟩
  · rw [if_neg hl] at m; exact m.elim
theorem new_tup {c : Cf} {σ : L2.St} {H G : Hp} {Q : VK} {ds : List D} {vs : List V} (m : mR W c σ H G (yV c H .F Q) (mkT ds)) (sG : Same G H) (r : Reps c.K c.mg G ds vs) : vs.length ≤ sizeLine ∧ ∀ p, H p = none → Q (.ref p) (upd H p (.tup vs)) := by
  unfold mkT at m
  by_cases hl : ds.length ≤ 16777216
  · rw [if_pos hl] at m
    refine ⟨by rw [← r.length, sizeLine_eq]; exact hl, fun p hp => ?_⟩
    have a := Adv.newF (o := .tup vs) sG hp
    exact m.ok a (.ref p) [] ⟨⟨p, vs, rfl, SqT.of upd_same, r.mono a.2.1⟩, rfl⟩
  · rw [if_neg hl] at m; exact m.elim
theorem mR.thn {α : Type} {c : Cf} {σ : L2.St} {H G : Hp} {Y : α → Hp → Hp → Prop} {Z : List D → Hp → Hp → Prop} {rs : R (List D)} {f : List D → R α} (m : mR W c σ H G Y (rs.bind f)) (h : ∀ ds H1 G1, Adv H G G1 H1 → mR W c σ H1 G1 Y (f ds) → Z ds H1 G1) : mR W c σ H G Z rs :=
  m.bind.imp fun ds H1 G1 _ a q => h ds H1 G1 a (q a)
theorem ev_lst {es : List Expr} {pk : List PK} {rs : R (List D)} (h : EA X W B G0 κ en es pk rs) (hp : ∀ b ∈ pk, b.isF = true := by decide) : EV X W B G0 κ en (.List es pos) (.O (.L .F)) (rs.bind mkL) :=
  ⟨PE.wk (pe_lst h.pa) fun σ H Q ⟨G, Ss, st, m⟩ => ⟨G, Ss, st, m.thn fun ds H1 G1 a m vs args => new_list (W := W) (σ := σ) (m.imp fun d H' G' _ b y v S z => y v S (z.back a.1)) a.2.2.1 (args.reps hp)⟩⟩
theorem ev_tup {es : List Expr} {pk : List PK} {rs : R (List D)} {x1} (h : EA X W B G0 κ en es pk rs) (hp : ∀ b ∈ pk, b.isF = true := by decide) : EV X W B G0 κ en (.Tuple es x1 pos) .F (rs.bind mkT) :=
  ⟨PE.wk (pe_tup h.pa) fun σ H Q ⟨G, Ss, st, m⟩ => ⟨G, Ss, st, m.thn fun ds H1 G1 a m vs args => new_tup (W := W) (σ := σ) (m.imp fun d H' G' _ b y v S z => y v S (z.back a.1)) a.2.2.1 (args.reps hp)⟩⟩
/-! ### x[i] -/
def pIx : D → D → R D
  | .lst xs, .int i => match atI xs i with
    | some d => .ok d
    | none => .bad
  | .scr xs, .int i => match atI xs i with
    | some d => .ok d
    | none => .bad
  | .tup xs, .int i => match atI xs i with
    | some d => .ok d
    | none => .bad
  | .str s, .int i => match atI s.cps.toList i with
    | some c => .ok (.str ⟨#[c]⟩)
    | none => .bad
  | _, _ => .bad
def RK.el : RK → RK
  | .F => .F
  | .B => .B
  | .E => .F
  | .J => .F
  | _ => .P
theorem sOk_sign {s : Str} {i : Int} {c : Nat} (h : sOk s = true) (e : atI s.cps.toList i = some c) : sOk ⟨#[c]⟩ = true := by
  obtain ⟨j, _, h2, _⟩ := atI_get e
  have q := sOk_cps h
  have hm : c ∈ s.cps := by
    have z := List.mem_of_getElem? h2
    simpa using z
  refine sOk_mk ?_ (by show 1 ≤ 16777216; decide)
  unfold PyData.strOk at q ⊢
  have q2 := Array.all_eq_true_iff_forall_mem.mp q c hm
  simpa using q2
/-- an item of what is held -/
theorem RV.items {c : Cf} {H0 H G : Hp} {v : V} {S : List Addr} (h : RV c H0 H G k d v S) (sB : Same c.B H) (sG : Same G H) : ∀ {xs : List D}, (d = .lst xs ∨ d = .scr xs → ∃ (a : Addr) (vs : List V), v = .ref a ∧ SqL c.K H a vs ∧ xs.length = vs.length ∧ ∀ (i : Nat) (x : D), xs[i]? = some x → ∃ w, vs[i]? = some w ∧ RV c H0 H G k.el x w []) ∧
    (d = .tup xs → ∃ (a : Addr) (vs : List V), v = .ref a ∧ SqT c.K H a vs ∧ xs.length = vs.length ∧ ∀ (i : Nat) (x : D), xs[i]? = some x → ∃ w, vs[i]? = some w ∧ RV c H0 H G k.el x w []) := fun {xs} => by
  have get : ∀ {Z : Hp} {vs : List V}, Reps c.K c.mg Z xs vs → (∀ x w, Rep c.K c.mg Z x w → RV c H0 H G k.el x w []) → ∀ (i : Nat) (x : D), xs[i]? = some x → ∃ w, vs[i]? = some w ∧ RV c H0 H G k.el x w [] := fun {Z vs} r f i x e => by
    obtain ⟨w, e1, e2⟩ := r.get e
    exact ⟨w, e1, f x w e2⟩
  have rd := h.rep sB sG
  cases k with
  | F =>
    refine ⟨fun e => ?_, fun e => ?_⟩
    · rcases e with e | e <;> subst e
      · obtain ⟨a, vs, e, q, r⟩ := h.1
        exact ⟨a, vs, e, SqL.of (sG _ _ q), r.length, get r fun x w z => ⟨z, rfl⟩⟩
      · obtain ⟨a, vs, e, q, r⟩ := h.1
        exact ⟨a, vs, e, sqL_mono sG q, r.length, get r fun x w z => ⟨z, rfl⟩⟩
    · subst e
      obtain ⟨a, vs, e, q, r⟩ := h.1
      exact ⟨a, vs, e, sqT_mono sG q, r.length, get r fun x w z => ⟨z, rfl⟩⟩
  | B =>
    refine ⟨fun e => ?_, fun e => ?_⟩
    · rcases e with e | e <;> subst e
      · obtain ⟨a, vs, e, q, r⟩ := h.1
        exact ⟨a, vs, e, SqL.of (sB _ _ q), r.length, get r fun x w z => ⟨z, rfl⟩⟩
      · obtain ⟨a, vs, e, q, r⟩ := h.1
        exact ⟨a, vs, e, sqL_mono sB q, r.length, get r fun x w z => ⟨z, rfl⟩⟩
    · subst e
      obtain ⟨a, vs, e, q, r⟩ := h.1
      exact ⟨a, vs, e, sqT_mono sB q, r.length, get r fun x w z => ⟨z, rfl⟩⟩
  | E =>
    refine ⟨fun e => ?_, fun e => ?_⟩
    · rcases e with e | e <;> subst e
      · obtain ⟨⟨p, vs, ds, e, hc, r⟩, _⟩ := h
        cases hc with
        | lst hp => exact ⟨p, vs, e, SqL.of hp, r.length, get r fun x w z => ⟨z, rfl⟩⟩
      · obtain ⟨⟨p, vs, ds, e, hc, r⟩, _⟩ := h
        cases hc
    · subst e
      obtain ⟨⟨p, vs, ds, e, hc, r⟩, _⟩ := h
      cases hc
  | J =>
    refine ⟨fun e => ?_, fun e => ?_⟩
    · rcases e with e | e <;> subst e
      · obtain ⟨⟨p, vs, ds, e, hc, r⟩, _⟩ := h
        cases hc with
        | lst hp => exact ⟨p, vs, e, SqL.of (sB _ _ hp), r.length, get r fun x w z => ⟨z, rfl⟩⟩
      · obtain ⟨⟨p, vs, ds, e, hc, r⟩, _⟩ := h
        cases hc
    · subst e
      obtain ⟨⟨p, vs, ds, e, hc, r⟩, _⟩ := h
      cases hc
  | P =>
    refine ⟨fun e => ?_, fun e => ?_⟩
    · rcases e with e | e <;> subst e
      · obtain ⟨a, vs, e, q, r⟩ := rd
        exact ⟨a, vs, e, SqL.of q, r.length, get r fun x w z => ⟨z, rfl⟩⟩
      · obtain ⟨a, vs, e, q, r⟩ := rd
        exact ⟨a, vs, e, q, r.length, get r fun x w z => ⟨z, rfl⟩⟩
    · subst e
      obtain ⟨a, vs, e, q, r⟩ := rd
      exact ⟨a, vs, e, q, r.length, get r fun x w z => ⟨z, rfl⟩⟩
  | O q =>
    refine ⟨fun e => ?_, fun e => ?_⟩
    · rcases e with e | e <;> subst e
      · obtain ⟨a, vs, e, q, r⟩ := rd
        exact ⟨a, vs, e, SqL.of q, r.length, get r fun x w z => ⟨z, rfl⟩⟩
      · obtain ⟨a, vs, e, q, r⟩ := rd
        exact ⟨a, vs, e, q, r.length, get r fun x w z => ⟨z, rfl⟩⟩
    · subst e
      obtain ⟨a, vs, e, q, r⟩ := rd
      exact ⟨a, vs, e, q, r.length, get r fun x w z => ⟨z, rfl⟩⟩
/-- what is held alike later -/
theorem RV.adv {c : Cf} {H0 H G H' G' : Hp} {v : V} {S : List Addr} (h : RV c H0 H G k d v S) (a : Adv H G G' H') (hk : ∀ q, k ≠ .O q) : RV c H0 H' G' k d v S := by
  cases k with
  | F => exact ⟨h.1.mono a.2.1, h.2⟩
  | B => exact h
  | J =>
    obtain ⟨⟨p, vs, ds, e, hc, r⟩, z⟩ := h
    exact ⟨⟨p, vs, ds, e, hc, r.mono a.2.1⟩, z⟩
  | P => exact ⟨h.1.mono a.1, h.2⟩
  | E =>
    obtain ⟨⟨p, vs, ds, e, hc, r⟩, z⟩ := h
    refine ⟨⟨p, vs, ds, e, ?_, r.mono a.2.1⟩, z⟩
    cases hc with
    | lst h => exact .lst (a.1 _ _ h)
    | dK h => exact .dK (a.1 _ _ h)
  | O q => exact absurd rfl (hk q)
theorem atI_map {xs : List D} {vs : List V} {P : D → V → Prop} {i : Int} {x : D} (hl : xs.length = vs.length) (h : ∀ (i : Nat) (x : D), xs[i]? = some x → ∃ w, vs[i]? = some w ∧ P x w) (e : atI xs i = some x) : ∃ w, atI vs i = some w ∧ P x w := by
  unfold atI at *
  rw [← hl]
  cases q : ixN xs.length i with
  | none => rw [q] at e; cases e
  | some j =>
    rw [q] at e
    obtain ⟨w, e1, e2⟩ := h j x e
    exact ⟨w, e1, e2⟩
theorem ev_ix (ha : EV X W B G0 κ en a k ra) (hb : EV X W B G0 κ en b kb rb) (hk : ∀ q, k ≠ .O q := by intro _ z; cases z) (hs : PlainIx b := by exact fun _ _ => rfl) : EV X W B G0 κ en (.Subscript a b pos) k.el (R.bin2 ra rb pIx) :=
  ⟨PE.wk (pe_ix ix_seq ha.pe hb.pe hs) fun σ H Q ⟨G, Ss, st0, m0⟩ => tEVb st0 m0 _ fun d v H1 G1 S _ a1 st rv m => tEVb st m _ fun i w H2 G2 S2 _ a2 st2 rv2 m2 => by
    have hi := st2.rd rv2
    have rv' := rv.adv a2 hk
    have rd := st2.rd rv'
    obtain ⟨hl, ht⟩ : _ ∧ _ := ⟨fun xs => (rv'.items st2.sB st2.sH (xs := xs)).1, fun xs => (rv'.items st2.sB st2.sH (xs := xs)).2⟩
    cases i with
    | int j =>
      cases w with
      | int j' =>
        cases (show V.int j' = V.int j from hi)
        cases d with
        | lst xs =>
          obtain ⟨p, vs, ev, q, el, get⟩ := hl xs (.inl rfl)
          cases e : atI xs j with
          | none =>
            have m3 : mR W (cf X B G0) σ H2 G2 (yV (cf X B G0) H2 k.el Q) (match atI xs j with | some d => .ok d | none => .bad) := m2
            rw [e] at m3
            exact m3.elim
          | some x =>
            have m3 : mR W (cf X B G0) σ H2 G2 (yV (cf X B G0) H2 k.el Q) (match atI xs j with | some d => .ok d | none => .bad) := m2
            rw [e] at m3
            obtain ⟨w, ew, rw'⟩ := atI_map el get e
            exact .inl ⟨p, vs, j, w, ev, rfl, q, ew, m3 H2 G2 (.refl st2.sH) w [] (by cases k <;> first | exact rw' | exact absurd rfl (hk _))⟩
        | scr xs =>
          obtain ⟨p, vs, ev, q, el, get⟩ := hl xs (.inr rfl)
          cases e : atI xs j with
          | none =>
            have m3 : mR W (cf X B G0) σ H2 G2 (yV (cf X B G0) H2 k.el Q) (match atI xs j with | some d => .ok d | none => .bad) := m2
            rw [e] at m3
            exact m3.elim
          | some x =>
            have m3 : mR W (cf X B G0) σ H2 G2 (yV (cf X B G0) H2 k.el Q) (match atI xs j with | some d => .ok d | none => .bad) := m2
            rw [e] at m3
            obtain ⟨w, ew, rw'⟩ := atI_map el get e
            exact .inl ⟨p, vs, j, w, ev, rfl, q, ew, m3 H2 G2 (.refl st2.sH) w [] (by cases k <;> first | exact rw' | exact absurd rfl (hk _))⟩
        | tup xs =>
          obtain ⟨p, vs, ev, q, el, get⟩ := ht xs rfl
          cases e : atI xs j with
          | none =>
            have m3 : mR W (cf X B G0) σ H2 G2 (yV (cf X B G0) H2 k.el Q) (match atI xs j with | some d => .ok d | none => .bad) := m2
            rw [e] at m3
            exact m3.elim
          | some x =>
            have m3 : mR W (cf X B G0) σ H2 G2 (yV (cf X B G0) H2 k.el Q) (match atI xs j with | some d => .ok d | none => .bad) := m2
            rw [e] at m3
            obtain ⟨w, ew, rw'⟩ := atI_map el get e
            exact .inr (.inl ⟨p, vs, j, w, ev, rfl, q, ew, m3 H2 G2 (.refl st2.sH) w [] (by cases k <;> first | exact rw' | exact absurd rfl (hk _))⟩)
        | str s =>
          have m3 : mR W (cf X B G0) σ H2 G2 (yV (cf X B G0) H2 k.el Q) (match atI s.cps.toList j with | some c => .ok (.str ⟨#[c]⟩) | none => .bad) := m2
          cases e : atI s.cps.toList j with
          | none =>
            rw [e] at m3
            exact m3.elim
          | some c =>
            rw [e] at m3
            have ok := sOk_sign rd.2 e
            refine .inr (.inr ⟨s, j, c, rd.1, rfl, by rw [sizeLine_eq]; exact sOk_len rd.2, e, m3 H2 G2 (.refl st2.sH) _ [] ?_⟩)
            cases k <;> first | exact ⟨⟨rfl, ok⟩, rfl⟩ | exact absurd rfl (hk _)
        | _ => exact m2.elim
      | _ => cases hi
    | _ => cases d <;> exact m2.elim⟩
end
end Lw
namespace Lw
open PySem PySem.Spec PyProof.Rows L2
/-! ### what a def promises: its arguments as data, what f gives of them -/
def spF (K : PySem.W.Frag) (mg : Str → Option Value) (f : List D → R D) (pk : List PK) (rk : RK) : Sp := fun vs H Q E =>
  ∃ G ds, Same G H ∧ ArgsR K mg H G pk ds vs ∧ mR (fun cv xd _ H' => E cv xd H') ⟨K, mg, H, G⟩ [] H G (yV ⟨K, mg, H, G⟩ H rk Q) (f ds)
/-- a def of the module -/
def FD (P : Program) (w : World) (K : PySem.W.Frag) (mg : Str → Option Value) (base : Heap) (k : Nat) (x : Str) (f : List D → R D) (pk : List PK) (rk : RK) : Prop :=
  ∃ fa fd ps, mg x = some (.ref fa) ∧ PySem.W.keepIn K (.ref fa) = true ∧ Binds K fd ps [] ∧ FnOk P w K mg base (L2.CX P w) k fa fd ps (spF K mg f pk rk)
def RK.out : RK → Bool
  | .F => true
  | .O k => k.own
  | _ => false
section
variable {X : Cx} {W : WX} {B G0 : Hp} {κ : List Kd} {en : List D} {e o : Expr} {es : List Expr} {rk : RK} {rs : R (List D)} {f : List D → R D} {pk : List PK} {k : Nat} {x : Str} {p pos : Pos}
theorem RepK.cf {K : PySem.W.Frag} {mg : Str → Option Value} {B B' G0' H G : Hp} : ∀ {k : Kd} {d : D} {v : V} {S : List Addr}, RepK ⟨K, mg, B, G0⟩ H G k d v S → k.own = true → RepK ⟨K, mg, B', G0'⟩ H G k d v S
  | .N, _, _, _, h, _ => h.elim
  | .F, _, _, _, h, _ => h
  | .B, _, _, _, _, h => by cases h
  | .E, _, _, _, _, h => by cases h
  | .I _, _, _, _, h, _ => h
  | .T, _, _, _, h, _ => h
  | .K, _, _, _, h, _ => h
  | .Q, _, _, _, h, _ => h
  | .L k, _, _, _, ⟨p, vs, ds, S', e1, e2, hc, ha⟩, ho => ⟨p, vs, ds, S', e1, e2, hc, ha.imp fun _ _ _ _ h => RepK.cf h ho⟩
theorem RV.cf {K : PySem.W.Frag} {mg : Str → Option Value} {B B' G0' H0 H G : Hp} {d : D} {v : V} {S : List Addr} (h : RV ⟨K, mg, B, G0⟩ H0 H G rk d v S) (ho : rk.out = true) : RV ⟨K, mg, B', G0'⟩ H0 H G rk d v S := by
  cases rk with
  | F => exact h
  | O k => exact ⟨h.1.cf ho, h.2⟩
  | _ => cases ho
theorem mR.toSp {σ : L2.St} {H G : Hp} {Q : VK} {r : R D} (m : mR W (cf X B G0) σ H G (yV (cf X B G0) H rk Q) r) (ho : rk.out = true) : mR (fun cv xd _ H' => WE W σ cv xd H') ⟨X.K, X.mg, H, G⟩ [] H G (yV ⟨X.K, X.mg, H, G⟩ H rk Q) r := by
  cases r with
  | bad => exact m
  | exc x => exact m
  | ok d => exact fun H' G' a v S q => m H' G' a v S (q.cf ho)
theorem ev_call (F : FD X.prog X.w X.K X.mg X.base k x f pk rk) (hr : Room k X.A) (tk : Takes X W) (ha : EA X W B G0 κ en (e :: es) pk rs) (hg : Gl X x := by rfl) (ho : rk.out = true := by rfl) (hdb : (x == ("__debug__" : Str)) = false := by decide)
    (he : starEach (e :: es) X.env = (false, eval e X.env) :: starEach es X.env := by rfl) (hpl : (backTo pos (starEach es X.env)).any (·.1) = false := by rfl) : EV X W B G0 κ en (.Call (.Name x p) (e :: es) [] pos) rk (rs.bind f) := by
  obtain ⟨fa, fd, ps, gT, kp, hb, F⟩ := F
  exact ⟨PE.wk (pe_callS F hr hg gT kp hb (fun σ => passAt tk σ) ha.pa hdb he hpl) fun σ H Q ⟨G, Ss, st, m⟩ => ⟨G, Ss, st, m.thn fun ds H1 G1 a m vs args =>
    ⟨G1, ds, a.2.2.1, args, mR.toSp (X := X) (B := B) (G0 := G0) (m.imp fun d H' G' _ b y v S z => y v S (z.back a.1)) ho⟩⟩⟩
theorem ev_call0 (F : FD X.prog X.w X.K X.mg X.base k x f [] rk) (hr : Room k X.A) (tk : Takes X W) (hg : Gl X x := by rfl) (ho : rk.out = true := by rfl) (hdb : (x == ("__debug__" : Str)) = false := by decide) : EV X W B G0 κ en (.Call (.Name x p) [] [] pos) rk (f []) := by
  obtain ⟨fa, fd, ps, gT, kp, hb, F⟩ := F
  refine ⟨⟨fun pins s σ H Q I ⟨G, Ss, st, m⟩ => ?_⟩⟩
  refine wpAny_Call_Name_kw (ld_glob I hg gT ?_ hdb)
  exact PySem.W.callWith_K0 I.kIn kp (run_fnS (us := []) (vs := []) (E := WE W) F hr hb (passAt tk σ) I .nil ⟨G, [], st.sH, trivial, mR.toSp m ho⟩)
theorem EV.cast {k : RK} {r r' : R D} (h : EV X W B G0 κ en e k r) (q : r = r') : EV X W B G0 κ en e k r' := q ▸ h
end
/-! ### statements -/
structure DE (α : Type) where
  nx : List Kd → List D → α → Prop
  rt : RK → D → α → Prop
  ex : List Kd → List D → Prop
  bk : List Kd → List D → α → Prop
  ct : List Kd → List D → α → Prop
/-- a def's own: its value; falling off its end gives None -/
def dDef (rk : RK) : DE D := ⟨fun _ _ a => a = .non ∧ rk = .F, fun k d a => k = rk ∧ d = a, fun _ _ => True, fun _ _ _ => False, fun _ _ _ => False⟩
def mS {α : Type} (W : WX) (c : Cf) (δ : DE α) (Dn : Ends) : R α → Prop
  | .ok a => (∀ κ en σ H G Ss, St c κ en σ H G Ss → δ.nx κ en a → Dn.nx σ H) ∧ (∀ k d v H G S, Adv c.B c.G0 G H → RV c c.B H G k d v S → δ.rt k d a → Dn.rt v H) ∧
      (∀ κ en σ H G Ss, St c κ en σ H G Ss → δ.bk κ en a → Dn.bk σ H) ∧ ∀ κ en σ H G Ss, St c κ en σ H G Ss → δ.ct κ en a → Dn.ct σ H
  | .exc x => ∀ cv xd κ en σ H G Ss, St c κ en σ H G Ss → δ.ex κ en → ExV c H G x cv xd → W cv xd σ H
  | .bad => False
def tSV {α : Type} (W : WX) (c : Cf) (κ : List Kd) (en : List D) (δ : DE α) (s : R α) : TS := fun Dn σ H => ∃ G Ss, St c κ en σ H G Ss ∧ mS W c δ Dn s
structure SV {α : Type} (X : Cx) (W : WX) (B G0 : Hp) (κ : List Kd) (en : List D) (sts : List Stmt) (δ : DE α) (s : R α) : Prop where
  ps : PSs X sts (tSV W (cf X B G0) κ en δ s)
theorem PSs.wk {X : Cx} {sts : List Stmt} {t t' : TS} (h : PSs X sts t) (f : ∀ D σ H, t' D σ H → t D σ H) : PSs X sts t' := ⟨fun pins s σ H D I q => h.run pins s σ H D I (f D σ H q)⟩
theorem PSs.all {X : Cx} {sts : List Stmt} {ι : Type} {t : ι → TS} (h : ∀ i, PSs X sts (t i)) : PSs X sts (fun D σ H => ∃ i, t i D σ H) := ⟨fun pins s σ H D I ⟨i, q⟩ => (h i).run pins s σ H D I q⟩
section
variable {α β τ : Type} {X : Cx} {W : WX} {B G0 : Hp} {κ : List Kd} {en : List D} {e t : Expr} {k : RK} {r : R D} {rb : R Bool} {δ : DE α} {pos : Pos} {rest body orelse : List Stmt} {s s1 s2 : R α} {f : D → R α}
theorem SV.cast {sts : List Stmt} {s s' : R α} (h : SV X W B G0 κ en sts δ s) (q : s = s') : SV X W B G0 κ en sts δ s' := q ▸ h
/-- the exception of a statement's expression -/
theorem mS.toR {c : Cf} {σ : L2.St} {H G : Hp} {Ss : Nat → List Addr} {Dn : Ends} {r : R β} {f : β → R α} {Z : β → Hp → Hp → Prop} (st : St c κ en σ H G Ss) (m : mS W c δ Dn (r.bind f)) (hx : δ.ex κ en)
    (h : ∀ a H1 G1, Adv H G G1 H1 → St c κ en σ H1 G1 Ss → mS W c δ Dn (f a) → Z a H1 G1) : mR W c σ H G Z r := by
  cases r with
  | bad => exact m
  | exc x => exact fun cv xd H' G' a z => m cv xd κ en σ H' G' Ss (st.adv a) hx z
  | ok b => exact fun H' G' a => h b H' G' a (st.adv a) m
theorem sv_nil {a : α} (h : δ.nx κ en a) : SV X W B G0 κ en [] δ (.ok a) := ⟨PSs.wk pss_nil fun Dn σ H ⟨G, Ss, st, m⟩ => m.1 _ _ _ _ _ _ st h⟩
/-- a slot is frozen ahead of a statement | less is told -/
theorem sv_freeze {i : Nat} {q : Kd} {sts : List Stmt} (hk : κ[i]? = some q) (h : SV X W B G0 (κ.set i .F) en sts δ s) (hq : q.own = true := by rfl) : SV X W B G0 κ en sts δ s :=
  ⟨PSs.wk h.ps fun Dn σ H ⟨G, Ss, st, m⟩ => by
    obtain ⟨G', Ss', st', _⟩ := st.freeze hk hq
    exact ⟨G', Ss', st', m⟩⟩
theorem sv_weak {κ2 : List Kd} {en2 : List D} {sts : List Stmt} (w : Wk κ en κ2 en2) (h : SV X W B G0 κ2 en2 sts δ s) : SV X W B G0 κ en sts δ s :=
  ⟨PSs.wk h.ps fun Dn σ H ⟨G, Ss, st, m⟩ => ⟨G, Ss, st.weak w, m⟩⟩
/-- x = e -/
theorem sv_set {i : Nat} {x : Str} {pos' : Pos} (he : EV X W B G0 κ en e k r) (hr : ∀ d, SV X W B G0 (κ.set i (slotOf k)) (en.set i d) rest δ (f d)) (hN : X.N.Nodup) (hi : X.N[i]? = some x := by rfl) (hx : Loc X.env.scope x := by first | exact Or.inl rfl | exact Or.inr rfl)
    (hex : δ.ex κ en := by exact True.intro) (hκ : i < κ.length := by first | decide | simp) (hs : swapsWith e (some (.Name x pos')) pos.line X.env = pure false := by rfl) (hf : X.fn x = true ∨ X.env.scope.names.lookup x = some .local := by first | exact .inl rfl | exact .inr rfl | assumption) :
    SV X W B G0 κ en (.Assign [.Name x pos'] e pos :: rest) δ (r.bind f) :=
  ⟨PSs.wk (pss_cons (ps_set hN hi hx he.pe hs hf) (PSs.all fun d => (hr d).ps)) fun Dn σ H ⟨G, Ss, st, m⟩ => ⟨G, Ss, st, mS.toR st m hex fun d H1 G1 a st1 m1 v S rv => ⟨d, G1, _, st.set a rv hκ, m1⟩⟩⟩
/-- e, its value dropped -/
theorem sv_expr {f : D → R α} (he : EV X W B G0 κ en e k r) (hr : ∀ d, SV X W B G0 κ en rest δ (f d)) (hex : δ.ex κ en := by exact True.intro) (hs : swapsWith e none pos.line X.env = pure false := by rfl) : SV X W B G0 κ en (.Expr e pos :: rest) δ (r.bind f) :=
  ⟨PSs.wk (pss_cons (ps_expr he.pe hs) (PSs.all fun d => (hr d).ps)) fun Dn σ H ⟨G, Ss, st, m⟩ => ⟨G, Ss, st, mS.toR st m hex fun d H1 G1 a st1 m1 v S rv => ⟨d, G1, Ss, st1, m1⟩⟩⟩
/-- return e -/
theorem sv_ret {g : D → α} (he : EV X W B G0 κ en e k r) (hd : ∀ d, δ.rt k d (g d)) (hex : δ.ex κ en := by exact True.intro) : SV X W B G0 κ en (.Return (some e) pos :: rest) δ (r.bind fun d => .ok (g d)) :=
  ⟨PSs.wk (pss_cons (ps_ret he.pe) pss_never) fun Dn σ H ⟨G, Ss, st, m⟩ => ⟨G, Ss, st, mS.toR st m hex fun d H1 G1 a st1 m1 v S rv =>
    m1.2.1 k d v H1 G1 S st1.adv0 (by
      cases k with
      | O q => exact ⟨rv.1, rv.2.1, fun p hp => ⟨st.sB.free (rv.2.2 p hp).1, (rv.2.2 p hp).2⟩⟩
      | _ => exact rv) (hd d)⟩⟩
/-- .. of a def's body -/
theorem sv_retD {r : R D} (he : EV X W B G0 κ en e k r) : SV X W B G0 κ en (.Return (some e) pos :: rest) (dDef k) r :=
  (sv_ret (g := id) (δ := dDef k) he (fun d => ⟨rfl, rfl⟩)).cast (R.bind_pure r)
theorem sv_retN {a : α} (hd : δ.rt .F .non a) : SV X W B G0 κ en (.Return none pos :: rest) δ (.ok a) :=
  ⟨PSs.wk (pss_cons ps_retN pss_never) fun Dn σ H ⟨G, Ss, st, m⟩ => m.2.1 .F .non .non H G [] st.adv0 ⟨rfl, rfl⟩ hd⟩
/-- a list of our own is handed back -/
theorem sv_retO {i : Nat} {q : Kd} {d : D} {a : α} (p : PE X e (tVar i)) (hk : κ[i]? = some q) (he : en[i]? = some d) (hd : δ.rt (.O q) d a) (hq : q ≠ .N := by intro z; cases z) : SV X W B G0 κ en (.Return (some e) pos :: rest) δ (.ok a) :=
  ⟨PSs.wk (pss_cons (ps_ret p) pss_never) fun Dn σ H ⟨G, Ss, st, m⟩ => by
    obtain ⟨v, d', h1, h2, h3⟩ := st.slot i q hk hq
    rw [he] at h2; cases h2
    exact ⟨v, h1, m.2.1 (.O q) d v H G (Ss i) st.adv0 ⟨h3, st.nd i, fun p hp => ⟨(st.own i p hp).2.1, (st.own i p hp).1, (st.own i p hp).2.2⟩⟩ hd⟩⟩
def DE.stop (δ : DE α) : DE α := { δ with nx := fun _ _ _ => False }
theorem mS.stop {c : Cf} {Dn : Ends} {n : L2.St → Hp → Prop} (m : mS W c δ Dn s) : mS W c δ.stop { Dn with nx := n } s := by
  cases s with
  | bad => exact m
  | exc x => exact m
  | ok a => exact ⟨fun _ _ _ _ _ _ _ z => z.elim, m.2.1, m.2.2.1, m.2.2.2⟩
theorem mS.toT {c : Cf} {σ : L2.St} {H G : Hp} {Ss : Nat → List Addr} {Dn : Ends} {f : Bool → R α} {Z : Bool → Hp → Prop} (st : St c κ en σ H G Ss) (m : mS W c δ Dn (rb.bind f)) (hx : δ.ex κ en)
    (h : ∀ b H1 G1, St c κ en σ H1 G1 Ss → mS W c δ Dn (f b) → Z b H1) : tET W c κ en rb σ H Z := ⟨G, Ss, st, mS.toR st m hx fun b H1 G1 a st1 m1 => h b H1 G1 st1 m1⟩
/-- if t: a block that is left by return or raise -/
theorem sv_ifS (ht : ET X W B G0 κ en t rb) (hb : SV X W B G0 κ en body δ.stop s1) (hr : SV X W B G0 κ en rest δ s2) (hex : δ.ex κ en := by exact True.intro) : SV X W B G0 κ en (.If t body [] pos :: rest) δ (rb.bind fun b => if b = true then s1 else s2) :=
  ⟨PSs.wk (pss_cons (ps_if ht.pt hb.ps pss_nil) hr.ps) fun Dn σ H ⟨G, Ss, st, m⟩ => mS.toT st m hex fun b H1 G1 st1 m1 => by
    cases b with
    | true => exact ⟨G1, Ss, st1, mS.stop m1⟩
    | false => exact ⟨G1, Ss, st1, m1⟩⟩
/-- if t: .. else: .., at a block's end -/
theorem sv_ifE (ht : ET X W B G0 κ en t rb) (hb : SV X W B G0 κ en body δ s1) (hr : SV X W B G0 κ en orelse δ s2) (hex : δ.ex κ en := by exact True.intro) : SV X W B G0 κ en [.If t body orelse pos] δ (rb.bind fun b => if b = true then s1 else s2) :=
  ⟨PSs.wk (pss_one (ps_if ht.pt hb.ps hr.ps)) fun Dn σ H ⟨G, Ss, st, m⟩ => mS.toT st m hex fun b H1 G1 st1 m1 => by
    cases b with
    | true => exact ⟨G1, Ss, st1, m1⟩
    | false => exact ⟨G1, Ss, st1, m1⟩⟩
/-- both ways fall through: what they leave is t -/
def DE.join (δ : DE α) (κJ : List Kd) (vw : τ → List D) : DE τ := ⟨fun κ en t => Wk κ en κJ (vw t), fun _ _ _ => False, δ.ex, fun _ _ _ => False, fun _ _ _ => False⟩
theorem mS.join {c : Cf} {Dn : Ends} {κJ : List Kd} {vw : τ → List D} {s : R τ} {f : τ → R α} {u : TS} (m : mS W c δ Dn (s.bind f)) (hu : ∀ t σ H, tSV W c κJ (vw t) δ (f t) Dn σ H → u Dn σ H) : mS W c (δ.join κJ vw) { Dn with nx := u Dn } s := by
  cases s with
  | bad => exact m
  | exc x => exact m
  | ok t => exact ⟨fun κ en σ H G Ss st w => hu t σ H ⟨G, Ss, st.weak w, m⟩, fun _ _ _ _ _ _ _ _ z => z.elim, fun _ _ _ _ _ _ _ z => z.elim, fun _ _ _ _ _ _ _ z => z.elim⟩
theorem sv_ifJ {s1 s2 : R τ} {f : τ → R α} (κJ : List Kd) (vw : τ → List D) (ht : ET X W B G0 κ en t rb) (hb : SV X W B G0 κ en body (δ.join κJ vw) s1) (ho : SV X W B G0 κ en orelse (δ.join κJ vw) s2) (hr : ∀ t, SV X W B G0 κJ (vw t) rest δ (f t))
    (hex : δ.ex κ en := by exact True.intro) : SV X W B G0 κ en (.If t body orelse pos :: rest) δ ((rb.bind fun b => if b = true then s1 else s2).bind f) :=
  ⟨PSs.wk (pss_cons (ps_if ht.pt hb.ps ho.ps) (PSs.all fun t => (hr t).ps)) fun Dn σ H ⟨G, Ss, st, m⟩ => by
    rw [R.bind_assoc] at m
    refine mS.toT st m hex fun b H1 G1 st1 m1 => ?_
    cases b with
    | true => exact ⟨G1, Ss, st1, mS.join (u := fun D σ H => ∃ t, tSV W (cf X B G0) κJ (vw t) δ (f t) D σ H) m1 fun t σ H q => ⟨t, q⟩⟩
    | false => exact ⟨G1, Ss, st1, mS.join (u := fun D σ H => ∃ t, tSV W (cf X B G0) κJ (vw t) δ (f t) D σ H) m1 fun t σ H q => ⟨t, q⟩⟩⟩
/-- some ways are left: by return, break, continue -/
inductive Go (τ α : Type) where
  | go (t : τ) | out (a : α)
def Go.thn {τ α : Type} (f : τ → R α) : Go τ α → R α
  | .go t => f t
  | .out a => .ok a
def DE.joinX (δ : DE α) (κJ : List Kd) (vw : τ → List D) : DE (Go τ α) := ⟨fun κ en g => ∃ t, g = .go t ∧ Wk κ en κJ (vw t), fun k d g => ∃ a, g = .out a ∧ δ.rt k d a, δ.ex, fun κ en g => ∃ a, g = .out a ∧ δ.bk κ en a, fun κ en g => ∃ a, g = .out a ∧ δ.ct κ en a⟩
theorem mS.joinX {c : Cf} {Dn : Ends} {κJ : List Kd} {vw : τ → List D} {s : R (Go τ α)} {f : τ → R α} {u : TS} (m : mS W c δ Dn (s.bind (Go.thn f))) (hu : ∀ t σ H, tSV W c κJ (vw t) δ (f t) Dn σ H → u Dn σ H) : mS W c (δ.joinX κJ vw) { Dn with nx := u Dn } s := by
  cases s with
  | bad => exact m
  | exc x => exact m
  | ok g =>
    cases g with
    | go t =>
      refine ⟨fun κ en σ H G Ss st ⟨t', e, w⟩ => ?_, fun _ _ _ _ _ _ _ _ ⟨_, e, _⟩ => (nomatch e), fun _ _ _ _ _ _ _ ⟨_, e, _⟩ => (nomatch e), fun _ _ _ _ _ _ _ ⟨_, e, _⟩ => (nomatch e)⟩
      cases e
      exact hu t σ H ⟨G, Ss, st.weak w, m⟩
    | out a =>
      have m' : mS W c δ Dn (.ok a) := m
      refine ⟨fun _ _ _ _ _ _ _ ⟨_, e, _⟩ => (nomatch e), fun k d v H G S a1 rv ⟨a', e, z⟩ => ?_, fun κ en σ H G Ss st ⟨a', e, z⟩ => ?_, fun κ en σ H G Ss st ⟨a', e, z⟩ => ?_⟩
      · cases e; exact m'.2.1 k d v H G S a1 rv z
      · cases e; exact m'.2.2.1 κ en σ H G Ss st z
      · cases e; exact m'.2.2.2 κ en σ H G Ss st z
theorem sv_ifX {s1 s2 : R (Go τ α)} {f : τ → R α} (κJ : List Kd) (vw : τ → List D) (ht : ET X W B G0 κ en t rb) (hb : SV X W B G0 κ en body (δ.joinX κJ vw) s1) (ho : SV X W B G0 κ en orelse (δ.joinX κJ vw) s2) (hr : ∀ t, SV X W B G0 κJ (vw t) rest δ (f t))
    (hex : δ.ex κ en := by exact True.intro) : SV X W B G0 κ en (.If t body orelse pos :: rest) δ ((rb.bind fun b => if b = true then s1 else s2).bind (Go.thn f)) :=
  ⟨PSs.wk (pss_cons (ps_if ht.pt hb.ps ho.ps) (PSs.all fun t => (hr t).ps)) fun Dn σ H ⟨G, Ss, st, m⟩ => by
    rw [R.bind_assoc] at m
    refine mS.toT st m hex fun b H1 G1 st1 m1 => ?_
    cases b with
    | true => exact ⟨G1, Ss, st1, mS.joinX (u := fun D σ H => ∃ t, tSV W (cf X B G0) κJ (vw t) δ (f t) D σ H) m1 fun t σ H q => ⟨t, q⟩⟩
    | false => exact ⟨G1, Ss, st1, mS.joinX (u := fun D σ H => ∃ t, tSV W (cf X B G0) κJ (vw t) δ (f t) D σ H) m1 fun t σ H q => ⟨t, q⟩⟩⟩
end
end Lw
namespace Lw
open PySem PySem.Spec PyProof.Rows L2
/-! ### targets -/
def setL {α : Type} : List α → List Nat → List α → List α
  | en, j :: js, x :: xs => setL (en.set j x) js xs
  | en, _, _ => en
def setK (κ : List Kd) (js : List Nat) (k : Kd) : List Kd := js.foldl (fun κ j => κ.set j k) κ
/-- a target (js: its slots) takes what u tells of an item -/
def Tg (X : Cx) (tg : Expr) (k : RK) (ρ : Type) (u : D → R ρ) (js : List Nat) (vs : ρ → List D) (ke : Kd) : Prop :=
  (∀ d e, u d = .exc e → False) ∧ ∃ g, PG X tg g ∧ ∀ (B G0 : Hp) (κ : List Kd) (en : List D) (σ : L2.St) (H H0 G : Hp) (Ss : Nat → List Addr) (d : D) (w : V) (p : ρ) (Q : L2.St → Hp → Prop), St (cf X B G0) κ en σ H G Ss → RV (cf X B G0) H0 H G k d w [] → u d = .ok p →
    (∀ j ∈ js, j < κ.length) → (∀ σ' Ss', (∀ zs : List Nat, (∀ j ∈ js, j ∈ zs) → wipe σ' zs = wipe σ zs) → St (cf X B G0) (setK κ js ke) (setL en js (vs p)) σ' H G Ss' → Q σ' H) → g w σ H Q
theorem wipe_get {σ : L2.St} {i : Nat} : ∀ {vs : List Nat}, i ∈ vs → i < σ.length → (wipe σ vs)[i]? = some none
  | v :: vs, h, hl => by
    unfold wipe
    by_cases e : v = i
    · subst e
      rw [List.getElem?_set_self (by rw [wipe_length]; exact hl)]
    · rw [List.getElem?_set_ne e]
      exact wipe_get ((List.mem_cons.mp h).resolve_left fun z => e z.symm) hl
  | [], h, _ => by cases h
theorem wipe_set {σ : L2.St} {j : Nat} {y : Option V} {vs : List Nat} (h : j ∈ vs) : wipe (σ.set j y) vs = wipe σ vs := by
  apply List.ext_getElem?
  intro i
  by_cases hi : i ∈ vs
  · rcases Nat.lt_or_ge i σ.length with hl | hl
    · rw [wipe_get hi hl, wipe_get hi (by simpa using hl)]
    · rw [List.getElem?_eq_none (by rw [wipe_length]; simpa using hl), List.getElem?_eq_none (by rw [wipe_length]; exact hl)]
  · rw [L2.wipe_out hi, L2.wipe_out hi, List.getElem?_set_ne (fun e => hi (by rw [e] at h; exact h))]
def rig : RK → Bool
  | .F => true
  | .B => true
  | _ => false
theorem RV.refl {c : Cf} {H0 H1 H G : Hp} {k : RK} {d : D} {v : V} (h : RV c H0 H G k d v []) (hk : rig k = true) : RV c H1 H G k d v [] := by
  cases k with
  | F => exact h
  | B => exact h
  | _ => cases hk
theorem RV.g0 {K : PySem.W.Frag} {mg : Str → Option Value} {B G0 G1 H0 H G : Hp} {k : RK} {d : D} {v : V} {S : List Addr} (h : RV ⟨K, mg, B, G0⟩ H0 H G k d v S) (hk : rig k = true) : RV ⟨K, mg, B, G1⟩ H0 H G k d v S := by
  cases k with
  | F => exact h
  | B => exact h
  | _ => cases hk
section
variable {X : Cx} {k : RK} {pos : Pos} {tg : Expr}
theorem tg_name {i : Nat} {x : Str} (hN : X.N.Nodup) (hk : rig k = true := by rfl) (hi : X.N[i]? = some x := by rfl) (hx : Loc X.env.scope x := by first | exact Or.inl rfl | exact Or.inr rfl) (hf : X.fn x = true ∨ X.env.scope.names.lookup x = some .local := by first | exact .inl rfl | exact .inr rfl | assumption) :
    Tg X (.Name x pos) k D (fun d => .ok d) [i] (fun d => [d]) (slotOf k) :=
  ⟨fun _ _ h => (nomatch h), gName i, pg_name hN hi hx hf, fun B G0 κ en σ H H0 G Ss d w p Q st rv e hj q => by
    cases e
    exact q _ _ (fun zs hz => wipe_set (hz i List.mem_cons_self)) (st.set (.refl st.sH) (rv.refl hk) (hj i List.mem_cons_self))⟩
def gNames : List Nat → TGs
  | [] => gNil
  | j :: js => gCons (gName j) (gNames js)
theorem gNames_ok {c : Cf} {H G : Hp} (hk : rig k = true) : ∀ {js : List Nat} {κ : List Kd} {en : List D} {σ : L2.St} {H0 : Hp} {Ss : Nat → List Addr} {xs : List D} {ws : List V} {Q : L2.St → Hp → Prop}, St c κ en σ H G Ss → xs.length = js.length → ws.length = js.length →
    (∀ (i : Nat) (x : D) (w : V), xs[i]? = some x → ws[i]? = some w → RV c H0 H G k x w []) → (∀ j ∈ js, j < κ.length) → (∀ σ' Ss', (∀ zs : List Nat, (∀ j ∈ js, j ∈ zs) → wipe σ' zs = wipe σ zs) → St c (setK κ js (slotOf k)) (setL en js xs) σ' H G Ss' → Q σ' H) → gNames js ws σ H Q
  | [], κ, en, σ, H0, Ss, [], [], Q, st, _, _, _, _, q => ⟨rfl, q σ Ss (fun _ _ => rfl) st⟩
  | j :: js, κ, en, σ, H0, Ss, x :: xs, w :: ws, Q, st, h1, h2, r, hj, q => by
    refine ⟨w, ws, rfl, ?_⟩
    have st' := st.set (i := j) (.refl st.sH) ((r 0 x w rfl rfl).refl (H1 := H) hk) (hj j List.mem_cons_self)
    exact gNames_ok hk (H0 := H0) st' (by simpa using h1) (by simpa using h2) (fun i x w e1 e2 => r (i + 1) x w (by simpa using e1) (by simpa using e2)) (fun j hm => by
      rw [List.length_set]; exact hj _ (List.mem_cons_of_mem _ hm)) fun σ' Ss' hw => q σ' Ss' fun zs hz => (hw zs fun j hm => hz j (List.mem_cons_of_mem _ hm)).trans (wipe_set (hz j List.mem_cons_self))
  | [], _, _, _, _, _, _ :: _, _, _, _, h, _, _, _, _ => by simp at h
  | [], _, _, _, _, _, [], _ :: _, _, _, _, h, _, _, _ => by simp at h
  | _ :: _, _, _, _, _, _, [], _, _, _, h, _, _, _, _ => by simp at h
  | _ :: _, _, _, _, _, _, _ :: _, [], _, _, _, h, _, _, _ => by simp at h
theorem rig_el {k : RK} (hk : rig k = true) : k.el = k := by cases k <;> first | rfl | cases hk
theorem tg_tup {ρ : Type} {u : D → R ρ} {js : List Nat} {vs : ρ → List D} (h : PG X tg (gTup X.K js.length (gNames js))) (hu : ∀ d p, u d = .ok p → d = .tup (vs p) ∧ (vs p).length = js.length) (hx : ∀ d e, u d = .exc e → False) (hk : rig k = true := by rfl) :
    Tg X tg k ρ u js vs (slotOf k) :=
  ⟨hx, _, h, fun B G0 κ en σ H H0 G Ss d w p Q st rv e hj q => by
    obtain ⟨rfl, hl⟩ := hu d p e
    obtain ⟨a, ws, ew, sq, el, get⟩ := (rv.items st.sB st.sH (xs := vs p)).2 rfl
    rw [rig_el hk] at get
    refine ⟨a, ws, ew, sq, by rw [← el, hl], gNames_ok (k := k) hk (H0 := H0) st hl (by rw [← el, hl]) (fun i x w e1 e2 => ?_) hj q⟩
    obtain ⟨w', e3, r⟩ := get i x e1
    rw [e2] at e3
    cases e3
    exact r⟩
end
def un2 : D → R (D × D)
  | .tup [a, b] => .ok (a, b)
  | _ => .bad
def un3 : D → R (D × D × D)
  | .tup [a, b, c] => .ok (a, b, c)
  | _ => .bad
def un4 : D → R (D × D × D × D)
  | .tup [a, b, c, d] => .ok (a, b, c, d)
  | _ => .bad
def un5 : D → R (D × D × D × D × D)
  | .tup [a, b, c, d, e] => .ok (a, b, c, d, e)
  | _ => .bad
def un6 : D → R (D × D × D × D × D × D)
  | .tup [a, b, c, d, e, f] => .ok (a, b, c, d, e, f)
  | _ => .bad
theorem un2_nx (d : D) (e : Ex) (h : un2 d = .exc e) : False := by
  unfold un2 at h
  split at h <;> cases h
theorem un2_ok (d : D) (p : D × D) (h : un2 d = .ok p) : d = .tup [p.1, p.2] ∧ [p.1, p.2].length = 2 := by
  unfold un2 at h
  split at h
  · cases h; exact ⟨rfl, rfl⟩
  · cases h
theorem un3_nx (d : D) (e : Ex) (h : un3 d = .exc e) : False := by
  unfold un3 at h
  split at h <;> cases h
theorem un3_ok (d : D) (p : D × D × D) (h : un3 d = .ok p) : d = .tup [p.1, p.2.1, p.2.2] ∧ [p.1, p.2.1, p.2.2].length = 3 := by
  unfold un3 at h
  split at h
  · cases h; exact ⟨rfl, rfl⟩
  · cases h
theorem un4_nx (d : D) (e : Ex) (h : un4 d = .exc e) : False := by
  unfold un4 at h
  split at h <;> cases h
theorem un4_ok (d : D) (p : D × D × D × D) (h : un4 d = .ok p) : d = .tup [p.1, p.2.1, p.2.2.1, p.2.2.2] ∧ [p.1, p.2.1, p.2.2.1, p.2.2.2].length = 4 := by
  unfold un4 at h
  split at h
  · cases h; exact ⟨rfl, rfl⟩
  · cases h
theorem un5_nx (d : D) (e : Ex) (h : un5 d = .exc e) : False := by
  unfold un5 at h
  split at h <;> cases h
theorem un5_ok (d : D) (p : D × D × D × D × D) (h : un5 d = .ok p) : d = .tup [p.1, p.2.1, p.2.2.1, p.2.2.2.1, p.2.2.2.2] ∧ [p.1, p.2.1, p.2.2.1, p.2.2.2.1, p.2.2.2.2].length = 5 := by
  unfold un5 at h
  split at h
  · cases h; exact ⟨rfl, rfl⟩
  · cases h
theorem un6_nx (d : D) (e : Ex) (h : un6 d = .exc e) : False := by
  unfold un6 at h
  split at h <;> cases h
theorem un6_ok (d : D) (p : D × D × D × D × D × D) (h : un6 d = .ok p) : d = .tup [p.1, p.2.1, p.2.2.1, p.2.2.2.1, p.2.2.2.2.1, p.2.2.2.2.2] ∧ [p.1, p.2.1, p.2.2.1, p.2.2.2.1, p.2.2.2.2.1, p.2.2.2.2.2].length = 6 := by
  unfold un6 at h
  split at h
  · cases h; exact ⟨rfl, rfl⟩
  · cases h
/-! ### what is walked -/
/-- J yields xs, as long as what was frozen at (H1, G1) stands -/
def Walks (c : Cf) (k : RK) (xs : List D) (J : It) (G1 : Hp) : Prop := ∀ H G, Same G1 G → Same G H → Same c.B H → (∀ i, xs.length ≤ i → J.stop i H) ∧ ∀ i d, xs[i]? = some d → J.go i H ∧ ∀ x H', J.yld i H x H' → ∃ G', Adv H G G' H' ∧ RV c H H' G' k d x []
structure EI (X : Cx) (W : WX) (B G0 : Hp) (κ : List Kd) (en : List D) (tg iter : Expr) (k : RK) (r : R (List D)) : Prop where
  pi : PI X tg iter fun σ H Z => ∃ G Ss, St (cf X B G0) κ en σ H G Ss ∧ mR W (cf X B G0) σ H G (fun xs H' G' => ∀ J, Walks (cf X B G0) k xs J G' → Z J H') r
theorem PI.wk {X : Cx} {tg iter : Expr} {t t' : TI} (h : PI X tg iter t) (f : ∀ σ H Q, t' σ H Q → t σ H Q) : PI X tg iter t' := ⟨fun pins s σ H R I q => h.run pins s σ H R I (f σ H R q)⟩
def toSeq : D → R (List D)
  | .lst xs => .ok xs
  | .scr xs => .ok xs
  | .tup xs => .ok xs
  | _ => .bad
def rngL (lo : Int) (n : Nat) : List D := (List.range n).map fun (i : Nat) => D.int (lo + i)
def pRange1 : D → R (List D)
  | .int j => if -(2 ^ 62) ≤ j ∧ j < 2 ^ 62 then .ok (rngL 0 j.toNat) else .bad
  | _ => .bad
def pRange2 : D → D → R (List D)
  | .int i, .int j => if -(2 ^ 62) ≤ i ∧ i < 2 ^ 62 ∧ -(2 ^ 62) ≤ j ∧ j < 2 ^ 62 then .ok (rngL i (j - i).toNat) else .bad
  | _, _ => .bad
section
variable {X : Cx} {W : WX} {B G0 : Hp} {κ : List Kd} {en : List D} {e a b tg : Expr} {k ka kb : RK} {r ra rb : R D} {p pos : Pos}
/-- a list or a tuple, walked -/
theorem pi_seq {tl : TE} (hl : PE X e tl) : PI X tg e (fun σ H Z => tl σ H fun x H1 => ∃ a, x = .ref a ∧ (((∃ xs, SqL X.K H1 a xs) ∧ Z (Itl X.K a) H1) ∨ ((∃ xs, SqT X.K H1 a xs) ∧ Z (Itt X.K a) H1))) := by
  refine ⟨fun pins s σ H Z I h => ?_⟩
  refine thn (hl.run pins s σ H _ I h) fun v s1 ⟨x, H1, I1, r1, a, e, q⟩ => ?_
  subst e
  cases r1
  have fp : ∀ b ∈ [s1.heap.objs.size], FpOk X pins H1 b := fun b hb => by
    have e : b = s1.heap.objs.size := by simpa using hb
    subst e
    exact I1.fpOk (Nat.le_refl _) (I1.hok.fresh (Nat.le_refl _))
  rcases q with ⟨⟨xs, hq⟩, z⟩ | ⟨⟨xs, hq⟩, z⟩
  · obtain ⟨its, rv, pl, hz⟩ := I1.list hq
    exact wpAny_pyIter_list pl.isList ⟨s1.heap.objs.size, [s1.heap.objs.size], _, _, H1, rfl, I1.kept (t' := s1.toks) fun b o e => Heap.get?_push_of_some _ e, turn_list a _, ⟨_, Heap.get?_push_size _ rfl, rfl, rfl⟩, fp, z⟩
  · obtain ⟨its, rv, pl, hz⟩ := I1.tuple hq
    exact wpAny_pyIter_tuple (show s1.heap.IsTuple a its.toArray from pl) ⟨s1.heap.objs.size, [s1.heap.objs.size], _, _, H1, rfl, I1.kept (t' := s1.toks) fun b o e => Heap.get?_push_of_some _ e, turn_tuple a _, ⟨_, Heap.get?_push_size _ rfl, rfl, rfl⟩, fp, z⟩
theorem walks_list {c : Cf} {H1 G1 : Hp} {xs : List D} {v : V} {S : List Addr} (h : RV c H1 H1 G1 k (.lst xs) v S) (hk : rig k = true) : ∃ a, v = .ref a ∧ Walks c k xs (Itl c.K a) G1 := by
  obtain ⟨a, e⟩ : ∃ a, v = .ref a := by
    cases k with
    | F => obtain ⟨a, vs, e, _⟩ := h.1; exact ⟨a, e⟩
    | B => obtain ⟨a, vs, e, _⟩ := h.1; exact ⟨a, e⟩
    | _ => cases hk
  refine ⟨a, e, fun H G s1 s2 s3 => ?_⟩
  have h' : RV c H H G k (.lst xs) v S := by
    cases k with
    | F => exact ⟨h.1.mono s1, h.2⟩
    | B => exact h
    | _ => cases hk
  obtain ⟨a', ws, e', q, el, get⟩ := (h'.items s3 s2 (xs := xs)).1 (.inl rfl)
  rw [e] at e'; cases e'
  rw [rig_el hk] at get
  refine ⟨fun i hi => ⟨ws, q, by rw [← el]; exact hi⟩, fun i d hd => ?_⟩
  obtain ⟨w, ew, rw'⟩ := get i d hd
  refine ⟨⟨ws, w, q, ew⟩, fun x H' ⟨e1, hy⟩ => ?_⟩
  subst e1
  have z := hy ws q
  rw [ew] at z; cases z
  exact ⟨G, .refl s2, rw'⟩
theorem walks_scr {c : Cf} {H1 G1 : Hp} {xs : List D} {v : V} {S : List Addr} (h : RV c H1 H1 G1 k (.scr xs) v S) (hk : rig k = true) : ∃ a, v = .ref a ∧ Walks c k xs (Itl c.K a) G1 := by
  obtain ⟨a, e⟩ : ∃ a, v = .ref a := by
    cases k with
    | F => obtain ⟨a, vs, e, _⟩ := h.1; exact ⟨a, e⟩
    | B => obtain ⟨a, vs, e, _⟩ := h.1; exact ⟨a, e⟩
    | _ => cases hk
  refine ⟨a, e, fun H G s1 s2 s3 => ?_⟩
  have h' : RV c H H G k (.scr xs) v S := by
    cases k with
    | F => exact ⟨h.1.mono s1, h.2⟩
    | B => exact h
    | _ => cases hk
  obtain ⟨a', ws, e', q, el, get⟩ := (h'.items s3 s2 (xs := xs)).1 (.inr rfl)
  rw [e] at e'; cases e'
  rw [rig_el hk] at get
  refine ⟨fun i hi => ⟨ws, q, by rw [← el]; exact hi⟩, fun i d hd => ?_⟩
  obtain ⟨w, ew, rw'⟩ := get i d hd
  refine ⟨⟨ws, w, q, ew⟩, fun x H' ⟨e1, hy⟩ => ?_⟩
  subst e1
  have z := hy ws q
  rw [ew] at z; cases z
  exact ⟨G, .refl s2, rw'⟩
theorem walks_tup {c : Cf} {H1 G1 : Hp} {xs : List D} {v : V} {S : List Addr} (h : RV c H1 H1 G1 k (.tup xs) v S) (hk : rig k = true) : ∃ a, v = .ref a ∧ Walks c k xs (Itt c.K a) G1 := by
  obtain ⟨a, e⟩ : ∃ a, v = .ref a := by
    cases k with
    | F => obtain ⟨a, vs, e, _⟩ := h.1; exact ⟨a, e⟩
    | B => obtain ⟨a, vs, e, _⟩ := h.1; exact ⟨a, e⟩
    | _ => cases hk
  refine ⟨a, e, fun H G s1 s2 s3 => ?_⟩
  have h' : RV c H H G k (.tup xs) v S := by
    cases k with
    | F => exact ⟨h.1.mono s1, h.2⟩
    | B => exact h
    | _ => cases hk
  obtain ⟨a', ws, e', q, el, get⟩ := (h'.items s3 s2 (xs := xs)).2 rfl
  rw [e] at e'; cases e'
  rw [rig_el hk] at get
  refine ⟨fun i hi => ⟨ws, q, by rw [← el]; exact hi⟩, fun i d hd => ?_⟩
  obtain ⟨w, ew, rw'⟩ := get i d hd
  refine ⟨⟨ws, w, q, ew⟩, fun x H' ⟨e1, hy⟩ => ?_⟩
  subst e1
  have z := hy ws q
  rw [ew] at z; cases z
  exact ⟨G, .refl s2, rw'⟩
theorem RV.here {c : Cf} {H H1 G1 : Hp} {d : D} {v : V} {S : List Addr} (h : RV c H H1 G1 k d v S) (hk : rig k = true) : RV c H1 H1 G1 k d v S := by
  cases k with
  | F => exact h
  | B => exact h
  | _ => cases hk
theorem ei_seq (h : EV X W B G0 κ en e k r) (hk : rig k = true := by rfl) : EI X W B G0 κ en tg e k (r.bind toSeq) :=
  ⟨PI.wk (pi_seq h.pe) fun σ H Z ⟨G, Ss, st, m⟩ => tEXb st m _ fun d v H1 G1 S _ a st1 rv m1 => by
    have rv' := rv.here hk
    cases d with
    | lst xs =>
      obtain ⟨p, e, wk⟩ := walks_list rv' hk
      obtain ⟨p', ws, e', q, _⟩ := (rv'.items st1.sB st1.sH (xs := xs)).1 (.inl rfl)
      rw [e] at e'; cases e'
      exact ⟨p, e, .inl ⟨⟨ws, q⟩, m1 H1 G1 (.refl st1.sH) _ wk⟩⟩
    | scr xs =>
      obtain ⟨p, e, wk⟩ := walks_scr rv' hk
      obtain ⟨p', ws, e', q, _⟩ := (rv'.items st1.sB st1.sH (xs := xs)).1 (.inr rfl)
      rw [e] at e'; cases e'
      exact ⟨p, e, .inl ⟨⟨ws, q⟩, m1 H1 G1 (.refl st1.sH) _ wk⟩⟩
    | tup xs =>
      obtain ⟨p, e, wk⟩ := walks_tup rv' hk
      obtain ⟨p', ws, e', q, _⟩ := (rv'.items st1.sB st1.sH (xs := xs)).2 rfl
      rw [e] at e'; cases e'
      exact ⟨p, e, .inr ⟨⟨ws, q⟩, m1 H1 G1 (.refl st1.sH) _ wk⟩⟩
    | _ => exact m1.elim⟩
theorem rngL_get {lo : Int} {n i : Nat} {d : D} (h : (rngL lo n)[i]? = some d) : i < n ∧ d = .int (lo + i) := by
  unfold rngL at h
  rw [List.getElem?_map] at h
  rcases Nat.lt_or_ge i n with hi | hi
  · rw [List.getElem?_range hi] at h
    cases h
    exact ⟨hi, rfl⟩
  · rw [List.getElem?_eq_none (by simpa using hi)] at h
    cases h
theorem rngL_length {lo : Int} {n : Nat} : (rngL lo n).length = n := by simp [rngL]
theorem walks_rng {c : Cf} {G1 : Hp} {lo : Int} {n : Nat} : Walks c .F (rngL lo n) (Itr lo n) G1 := fun H G s1 s2 s3 =>
  ⟨fun i hi => by rw [rngL_length] at hi; exact hi, fun i d hd => by
    obtain ⟨hi, rfl⟩ := rngL_get hd
    exact ⟨hi, fun x H' ⟨e1, e2⟩ => by subst e1 e2; exact ⟨G, .refl s2, rfl, rfl⟩⟩⟩
theorem ei_range1 (h : EV X W B G0 κ en a k r) (hm : X.mg "range" = none) (hg : Gl X "range" := by rfl) (hs : starEach [a] X.env = [(false, eval a X.env)] := by rfl) : EI X W B G0 κ en tg (.Call (.Name "range" p) [a] [] pos) .F (r.bind pRange1) :=
  ⟨PI.wk (pi_range1 hg hm (pa_cons h.pe pa_nil (by rw [hs] <;> rfl)) hs) fun σ H Z ⟨G, Ss, st, m⟩ => tEXb st m _ fun d v H1 G1 S _ a st1 rv m1 => by
    have rd := st1.rd rv
    cases d with
    | int j =>
      have m2 : mR W (cf X B G0) σ H1 G1 (fun xs H' G' => ∀ J, Walks (cf X B G0) .F xs J G' → Z J H') (if -(2 ^ 62) ≤ j ∧ j < 2 ^ 62 then .ok (rngL 0 j.toNat) else .bad) := m1
      by_cases hj : -(2 ^ 62) ≤ j ∧ j < 2 ^ 62
      · rw [if_pos hj] at m2
        exact ⟨j, by rw [rd], hj.1, hj.2, m2 H1 G1 (.refl st1.sH) _ walks_rng⟩
      · rw [if_neg hj] at m2
        exact m2.elim
    | _ => exact m1.elim⟩
theorem ei_range2 (h : EV X W B G0 κ en a ka ra) (h2 : EV X W B G0 κ en b kb rb) (hm : X.mg "range" = none) (hg : Gl X "range" := by rfl) (hs : starEach [a, b] X.env = [(false, eval a X.env), (false, eval b X.env)] := by rfl) (hs2 : starEach [b] X.env = [(false, eval b X.env)] := by rfl) :
    EI X W B G0 κ en tg (.Call (.Name "range" p) [a, b] [] pos) .F (R.bin2 ra rb pRange2) :=
  ⟨PI.wk (pi_range2 hg hm (pa_cons h.pe (pa_cons h2.pe pa_nil (by rw [hs2] <;> rfl)) (by rw [hs, hs2])) hs hs2) fun σ H Z ⟨G, Ss, st, m⟩ => tEXb st m _ fun d v H1 G1 S _ a st1 rv m1 => tEXb st1 m1 _ fun d2 v2 H2 G2 S2 _ a2 st2 rv2 m2 => by
    have rd := (st1.rd rv).mono a2.1
    have rd2 := st2.rd rv2
    cases d with
    | int i =>
      cases d2 with
      | int j =>
        have m3 : mR W (cf X B G0) σ H2 G2 (fun xs H' G' => ∀ J, Walks (cf X B G0) .F xs J G' → Z J H') (if -(2 ^ 62) ≤ i ∧ i < 2 ^ 62 ∧ -(2 ^ 62) ≤ j ∧ j < 2 ^ 62 then .ok (rngL i (j - i).toNat) else .bad) := m2
        by_cases hj : -(2 ^ 62) ≤ i ∧ i < 2 ^ 62 ∧ -(2 ^ 62) ≤ j ∧ j < 2 ^ 62
        · rw [if_pos hj] at m3
          exact ⟨i, j, by rw [rd, rd2], hj, m3 H2 G2 (.refl st2.sH) _ walks_rng⟩
        · rw [if_neg hj] at m3
          exact m3.elim
      | _ => exact m2.elim
    | _ => cases d2 <;> exact m2.elim⟩
end
/-! ### for -/
def rFor {τ : Type} : List D → τ → (D → τ → R τ) → R τ
  | [], t, _ => .ok t
  | x :: xs, t, f => (f x t).bind fun t => rFor xs t f
inductive Lp (τ α : Type) where
  | nx (t : τ) | bk (t : τ) | out (a : α)
def Lp.on {τ α : Type} (k : τ → R (Go τ α)) : Lp τ α → R (Go τ α)
  | .nx t => k t
  | .bk t => .ok (.go t)
  | .out a => .ok (.out a)
def rForX {τ α : Type} : List D → τ → (D → τ → R (Lp τ α)) → R (Go τ α)
  | [], t, _ => .ok (.go t)
  | x :: xs, t, f => (f x t).bind (Lp.on fun t => rForX xs t f)
section
variable {α β τ : Type} {X : Cx} {W : WX} {B G0 : Hp} {κ : List Kd} {en : List D} {δ : DE α} {pos : Pos} {rest body : List Stmt} {s : R α}
def DE.loopX (δ : DE α) (κL : List Kd) (vw : τ → List D) : DE (Lp τ α) := ⟨fun κ en g => ∃ t, g = .nx t ∧ Wk κ en κL (vw t), fun k d g => ∃ a, g = .out a ∧ δ.rt k d a, δ.ex, fun κ en g => ∃ t, g = .bk t ∧ Wk κ en κL (vw t), fun κ en g => ∃ t, g = .nx t ∧ Wk κ en κL (vw t)⟩
/-- nothing but what a loop's turn may leave -/
def DE.loop (δ : DE α) (κL : List Kd) (vw : τ → List D) : DE τ := ⟨fun κ en t => Wk κ en κL (vw t), fun _ _ _ => False, δ.ex, fun _ _ _ => False, fun κ en t => Wk κ en κL (vw t)⟩
/-- a state over what was frozen at a loop's start -/
theorem St.reG {c : Cf} {σ : L2.St} {H G G1 : Hp} {Ss : Nat → List Addr} (st : St ⟨c.K, c.mg, c.B, G1⟩ κ en σ H G Ss) (s : Same c.G0 G1) (n : ∀ b o, G1 b = some o → c.G0 b = some o ∨ c.B b = none) : St c κ en σ H G Ss :=
  ⟨st.ln, fun i k h1 h2 => by
    obtain ⟨v, d, e1, e2, r⟩ := st.slot i k h1 h2
    refine ⟨v, d, e1, e2, ?_⟩
    have aux : ∀ {k : Kd} {d : D} {v : V} {S : List Addr}, RepK ⟨c.K, c.mg, c.B, G1⟩ H G k d v S → RepK c H G k d v S := by
      intro k
      induction k with
      | N => intro _ _ _ h; exact h
      | F => intro _ _ _ h; exact h
      | B => intro _ _ _ h; exact h
      | E => intro _ _ _ h; exact h
      | I p => intro _ _ _ h; exact h
      | T => intro _ _ _ h; exact h
      | K => intro _ _ _ h; exact h
      | Q => intro _ _ _ h; exact h
      | L k ih =>
        intro d v S ⟨p, vs, ds, S', e1, e2, hc, ha⟩
        exact ⟨p, vs, ds, S', e1, e2, hc, ha.imp fun _ _ _ _ h => ih h⟩
    exact aux r, st.own, st.nd, st.dis, st.sB, s.trans st.sG, st.sH, fun b o h => by
    rcases st.new b o h with z | z
    · exact n b o z
    · exact .inr z⟩
theorem St.toG {c : Cf} {σ : L2.St} {H G : Hp} {Ss : Nat → List Addr} (st : St c κ en σ H G Ss) : St ⟨c.K, c.mg, c.B, G⟩ κ en σ H G Ss :=
  ⟨st.ln, fun i k h1 h2 => by
    obtain ⟨v, d, e1, e2, r⟩ := st.slot i k h1 h2
    refine ⟨v, d, e1, e2, ?_⟩
    have aux : ∀ {k : Kd} {d : D} {v : V} {S : List Addr}, RepK c H G k d v S → RepK ⟨c.K, c.mg, c.B, G⟩ H G k d v S := by
      intro k
      induction k with
      | N => intro _ _ _ h; exact h
      | F => intro _ _ _ h; exact h
      | B => intro _ _ _ h; exact h
      | E => intro _ _ _ h; exact h
      | I p => intro _ _ _ h; exact h
      | T => intro _ _ _ h; exact h
      | K => intro _ _ _ h; exact h
      | Q => intro _ _ _ h; exact h
      | L k ih =>
        intro d v S ⟨p, vs, ds, S', e1, e2, hc, ha⟩
        exact ⟨p, vs, ds, S', e1, e2, hc, ha.imp fun _ _ _ _ h => ih h⟩
    exact aux r, st.own, st.nd, st.dis, st.sB, .refl _, st.sH, fun b o h => .inl h⟩
theorem mS.reG {c : Cf} {G1 : Hp} {Dn : Ends} (m : mS W c δ Dn s) (q : Same c.G0 G1) (n : ∀ b o, G1 b = some o → c.G0 b = some o ∨ c.B b = none) : mS W ⟨c.K, c.mg, c.B, G1⟩ δ Dn s := by
  have rvB : ∀ {H0 H G : Hp} {k : RK} {d : D} {v : V} {S : List Addr}, RV ⟨c.K, c.mg, c.B, G1⟩ H0 H G k d v S → RV c H0 H G k d v S := by
    intro H0 H G k d v S h
    have aux : ∀ {k : Kd} {d : D} {v : V} {S : List Addr}, RepK ⟨c.K, c.mg, c.B, G1⟩ H G k d v S → RepK c H G k d v S := by
      intro k
      induction k with
      | N => intro _ _ _ h; exact h
      | F => intro _ _ _ h; exact h
      | B => intro _ _ _ h; exact h
      | E => intro _ _ _ h; exact h
      | I p => intro _ _ _ h; exact h
      | T => intro _ _ _ h; exact h
      | K => intro _ _ _ h; exact h
      | Q => intro _ _ _ h; exact h
      | L k ih =>
        intro d v S ⟨p, vs, ds, S', e1, e2, hc, ha⟩
        exact ⟨p, vs, ds, S', e1, e2, hc, ha.imp fun _ _ _ _ h => ih h⟩
    cases k with
    | O q => exact ⟨aux h.1, h.2⟩
    | _ => exact h
  cases s with
  | bad => exact m
  | exc x => exact fun cv xd κ en σ H G Ss st he hv => m cv xd κ en σ H G Ss (st.reG q n) he hv
  | ok a =>
    refine ⟨fun κ en σ H G Ss st z => m.1 κ en σ H G Ss (st.reG q n) z, fun k d v H G S a1 rv z => m.2.1 k d v H G S ⟨a1.1, q.trans a1.2.1, a1.2.2.1, fun b o h => ?_⟩ (rvB rv) z, fun κ en σ H G Ss st z => m.2.2.1 κ en σ H G Ss (st.reG q n) z, fun κ en σ H G Ss st z => m.2.2.2 κ en σ H G Ss (st.reG q n) z⟩
    rcases a1.2.2.2 b o h with z | z
    · exact n b o z
    · exact .inr z
theorem sv_forX {tg iter : Expr} {k : RK} {ri : R (List D)} {ρ : Type} {u : D → R ρ} {js : List Nat} {vs : ρ → List D} {ke : Kd} {f : ρ → τ → R (Lp τ α)} {g : τ → R α} (κL : List Kd) (vw : τ → List D) (t0 : τ)
    (hi : EI X W B G0 κ en tg iter k ri) (ht : Tg X tg k ρ u js vs ke) (h0 : Wk κ en κL (vw t0)) (hb : ∀ G0 p t, SV X W B G0 (setK κL js ke) (setL (vw t) js (vs p)) body (δ.loopX κL vw) (f p t)) (hr : ∀ t, SV X W B G0 κL (vw t) rest δ (g t))
    (hp : PassesOwn (model X.prog X.w) X.A X.env X.xe) (hc : X.calm = true := by rfl) (hk : rig k = true := by rfl) (hj : ∀ j ∈ js, j < κL.length := by first | decide | simp) (hex : δ.ex κ en := by exact True.intro) (hexL : ∀ t, δ.ex κL (vw t) := by exact fun _ => True.intro)
    (hs : ∀ x, foldedSetIterable iter X.env x = pure x := by intro _; rfl) :
    SV X W B G0 κ en (.For tg iter body [] pos :: rest) δ (ri.bind fun xs => (rForX xs t0 fun x t => (u x).bind fun p => f p t).bind (Go.thn g)) := by
  obtain ⟨hux, gt, pg, hgt⟩ := ht
  have hbody : PSs X body (fun Dn σ H => ∃ q : Hp × ρ × τ, tSV W ⟨X.K, X.mg, B, q.1⟩ (setK κL js ke) (setL (vw q.2.2) js (vs q.2.1)) (δ.loopX κL vw) (f q.2.1 q.2.2) Dn σ H) := PSs.all fun q => (hb q.1 q.2.1 q.2.2).ps
  have hrest : PSs X rest (fun Dn σ H => ∃ t, tSV W (cf X B G0) κL (vw t) δ (g t) Dn σ H) := PSs.all fun t => (hr t).ps
  refine ⟨PSs.wk (pss_cons (ps_for hp hc hi.pi pg hbody hs) hrest) fun Dn σ H ⟨G, Ss, st, m⟩ => ⟨G, Ss, st, mS.toR st m hex fun xs H1 G1 a st1 m1 J wk => ?_⟩⟩
  have q1 : Same (cf X B G0).G0 G1 := st1.sG
  have n1 := st1.new
  refine ⟨fun i mm σ H => i ≤ xs.length ∧ mm = xs.length - i ∧ ∃ t G Ss, St ⟨X.K, X.mg, B, G1⟩ κL (vw t) σ H G Ss ∧ mS W (cf X B G0) δ Dn ((rForX (xs.drop i) t fun x t => (u x).bind fun p => f p t).bind (Go.thn g)),
    ⟨xs.length, Nat.zero_le _, by simp, t0, G1, Ss, (st1.toG).weak h0, by simpa using m1⟩, ?_⟩
  rintro i mm σ2 H2 ⟨hi2, rfl, t, G2, Ss2, st2, m2⟩
  obtain ⟨wstop, wgo⟩ := wk H2 G2 st2.sG st2.sH st2.sB
  rcases Nat.lt_or_ge i xs.length with hlt | hge
  · have hd : xs[i]? = some xs[i] := List.getElem?_eq_getElem hlt
    obtain ⟨jgo, jy⟩ := wgo i _ hd
    refine .inr ⟨jgo, fun σ' H' => i + 1 ≤ xs.length ∧ ∃ t G Ss, St ⟨X.K, X.mg, B, G1⟩ κL (vw t) σ' H' G Ss ∧ mS W (cf X B G0) δ Dn ((rForX (xs.drop (i + 1)) t fun x t => (u x).bind fun p => f p t).bind (Go.thn g)), fun σ' H' ⟨h1, z⟩ => ⟨xs.length - (i + 1), by omega, h1, rfl, z⟩, fun x H' y => ?_⟩
    obtain ⟨G3, a3, rv3⟩ := jy x H' y
    have st3 := st2.adv a3
    rw [List.drop_eq_getElem_cons hlt] at m2
    have m3 : mS W (cf X B G0) δ Dn ((((u xs[i]).bind fun p => f p t).bind (Lp.on fun t => rForX (xs.drop (i + 1)) t fun x t => (u x).bind fun p => f p t)).bind (Go.thn g)) := m2
    cases eu : u xs[i] with
    | bad => rw [eu] at m3; exact m3.elim
    | exc x => exact (hux _ _ eu).elim
    | ok p =>
      rw [eu] at m3
      have m4 : mS W (cf X B G0) δ Dn (((f p t).bind (Lp.on fun t => rForX (xs.drop (i + 1)) t fun x t => (u x).bind fun p => f p t)).bind (Go.thn g)) := m3
      rw [R.bind_assoc] at m4
      refine hgt B G1 κL (vw t) σ2 H' H2 G3 Ss2 xs[i] x p _ st3 (rv3.g0 hk) eu hj fun σ4 Ss4 _ st4 => ?_
      refine ⟨⟨G1, p, t⟩, G3, Ss4, st4, ?_⟩
      cases ef : f p t with
      | bad => rw [ef] at m4; exact m4.elim
      | exc x =>
        rw [ef] at m4
        exact fun cv xd κ en σ H G Ss st he hv => m4 cv xd κ en σ H G Ss (st.reG q1 n1) he hv
      | ok l =>
        rw [ef] at m4
        cases l with
        | nx t' =>
          have m5 : mS W (cf X B G0) δ Dn ((rForX (xs.drop (i + 1)) t' fun x t => (u x).bind fun p => f p t).bind (Go.thn g)) := m4
          refine ⟨fun κ en σ H G Ss st ⟨t'', e, w⟩ => ?_, fun _ _ _ _ _ _ _ _ ⟨_, e, _⟩ => (nomatch e), fun _ _ _ _ _ _ _ ⟨_, e, _⟩ => (nomatch e), fun κ en σ H G Ss st ⟨t'', e, w⟩ => ?_⟩
          · cases e
            exact ⟨hlt, t', G, Ss, st.weak w, m5⟩
          · cases e
            exact ⟨hlt, t', G, Ss, st.weak w, m5⟩
        | bk t' =>
          have m5 : mS W (cf X B G0) δ Dn (g t') := m4
          refine ⟨fun _ _ _ _ _ _ _ ⟨_, e, _⟩ => (nomatch e), fun _ _ _ _ _ _ _ _ ⟨_, e, _⟩ => (nomatch e), fun κ en σ H G Ss st ⟨t'', e, w⟩ => ?_, fun _ _ _ _ _ _ _ ⟨_, e, _⟩ => (nomatch e)⟩
          cases e
          exact ⟨t', G, Ss, (st.reG q1 n1).weak w, m5⟩
        | out a' =>
          have m5 : mS W ⟨X.K, X.mg, B, G1⟩ δ Dn (.ok a') := mS.reG (c := cf X B G0) (show mS W (cf X B G0) δ Dn (.ok a') from m4) q1 n1
          refine ⟨fun _ _ _ _ _ _ _ ⟨_, e, _⟩ => (nomatch e), fun k d v H G S a1 rv ⟨a'', e, z⟩ => ?_, fun _ _ _ _ _ _ _ ⟨_, e, _⟩ => (nomatch e), fun _ _ _ _ _ _ _ ⟨_, e, _⟩ => (nomatch e)⟩
          cases e
          exact m5.2.1 k d v H G S a1 rv z
  · have e : i = xs.length := by omega
    subst e
    refine .inl ⟨wstop _ (Nat.le_refl _), t, G2, Ss2, st2.reG q1 n1, ?_⟩
    rw [List.drop_length] at m2
    exact m2
/-- no turn leaves the loop -/
theorem SV.map {β : Type} {sts : List Stmt} {δ : DE α} {δ' : DE β} {s : R α} (h : SV X W B G0 κ en sts δ s) (f : α → β) (nx : ∀ κ en a, δ.nx κ en a → δ'.nx κ en (f a)) (rt : ∀ k d a, δ.rt k d a → δ'.rt k d (f a)) (ex : ∀ κ en, δ.ex κ en → δ'.ex κ en)
    (bk : ∀ κ en a, δ.bk κ en a → δ'.bk κ en (f a)) (ct : ∀ κ en a, δ.ct κ en a → δ'.ct κ en (f a)) : SV X W B G0 κ en sts δ' (s.bind fun a => .ok (f a)) :=
  ⟨PSs.wk h.ps fun Dn σ H ⟨G, Ss, st, m⟩ => ⟨G, Ss, st, by
    cases s with
    | bad => exact m
    | exc x => exact fun cv xd κ en σ H G Ss st he hv => m cv xd κ en σ H G Ss st (ex κ en he) hv
    | ok a =>
      have m' : mS W (cf X B G0) δ' Dn (.ok (f a)) := m
      exact ⟨fun κ en σ H G Ss st z => m'.1 κ en σ H G Ss st (nx _ _ _ z), fun k d v H G S a1 rv z => m'.2.1 k d v H G S a1 rv (rt _ _ _ z), fun κ en σ H G Ss st z => m'.2.2.1 κ en σ H G Ss st (bk _ _ _ z), fun κ en σ H G Ss st z => m'.2.2.2 κ en σ H G Ss st (ct _ _ _ z)⟩⟩⟩
theorem rForX_for {α : Type} {f : D → τ → R τ} {g : τ → R α} : ∀ {xs : List D} {t : τ}, (rForX xs t fun x t => (f x t).bind fun t => .ok (.nx t)).bind (Go.thn g) = (rFor xs t f).bind g
  | [], t => rfl
  | x :: xs, t => by
    show ((((f x t).bind fun t => .ok (.nx t)).bind (Lp.on fun t => rForX xs t fun x t => (f x t).bind fun t => .ok (.nx t))).bind (Go.thn g)) = ((f x t).bind fun t => rFor xs t f).bind g
    cases f x t with
    | bad => rfl
    | exc e => rfl
    | ok t' => exact rForX_for (xs := xs) (t := t')
theorem sv_for {tg iter : Expr} {k : RK} {ri : R (List D)} {ρ : Type} {u : D → R ρ} {js : List Nat} {vs : ρ → List D} {ke : Kd} {f : ρ → τ → R τ} {g : τ → R α} (κL : List Kd) (vw : τ → List D) (t0 : τ)
    (hi : EI X W B G0 κ en tg iter k ri) (ht : Tg X tg k ρ u js vs ke) (h0 : Wk κ en κL (vw t0)) (hb : ∀ G0 p t, SV X W B G0 (setK κL js ke) (setL (vw t) js (vs p)) body (δ.loop κL vw) (f p t)) (hr : ∀ t, SV X W B G0 κL (vw t) rest δ (g t))
    (hp : PassesOwn (model X.prog X.w) X.A X.env X.xe) (hc : X.calm = true := by rfl) (hk : rig k = true := by rfl) (hj : ∀ j ∈ js, j < κL.length := by first | decide | simp) (hex : δ.ex κ en := by exact True.intro) (hexL : ∀ t, δ.ex κL (vw t) := by exact fun _ => True.intro)
    (hs : ∀ x, foldedSetIterable iter X.env x = pure x := by intro _; rfl) :
    SV X W B G0 κ en (.For tg iter body [] pos :: rest) δ (ri.bind fun xs => (rFor xs t0 fun x t => (u x).bind fun p => f p t).bind g) := by
  have h := sv_forX (δ := δ) (pos := pos) (rest := rest) (f := fun p t => (f p t).bind fun t => .ok (.nx t)) (g := g) κL vw t0 hi ht h0 (fun G0 p t => (hb G0 p t).map Lp.nx (fun κ en a w => ⟨a, rfl, w⟩) (fun _ _ _ z => z.elim) (fun _ _ z => z) (fun _ _ _ z => z.elim) fun κ en a w => ⟨a, rfl, w⟩) hr hp hc hk hj hex hexL hs
  refine h.cast ?_
  congr 1
  funext xs
  rw [← rForX_for]
  congr 2
  funext x t
  rw [R.bind_assoc]
/-- the same with one name for a target -/
theorem sv_for1 {tg iter : Expr} {k : RK} {ri : R (List D)} {i : Nat} {f : D → τ → R τ} {g : τ → R α} (κL : List Kd) (vw : τ → List D) (t0 : τ)
    (hi : EI X W B G0 κ en tg iter k ri) (ht : Tg X tg k D (fun d => .ok d) [i] (fun d => [d]) (slotOf k)) (h0 : Wk κ en κL (vw t0)) (hb : ∀ G0 p t, SV X W B G0 (κL.set i (slotOf k)) ((vw t).set i p) body (δ.loop κL vw) (f p t)) (hr : ∀ t, SV X W B G0 κL (vw t) rest δ (g t))
    (hp : PassesOwn (model X.prog X.w) X.A X.env X.xe) (hc : X.calm = true := by rfl) (hk : rig k = true := by rfl) (hj : i < κL.length := by first | decide | simp) (hex : δ.ex κ en := by exact True.intro) (hexL : ∀ t, δ.ex κL (vw t) := by exact fun _ => True.intro)
    (hs : ∀ x, foldedSetIterable iter X.env x = pure x := by intro _; rfl) :
    SV X W B G0 κ en (.For tg iter body [] pos :: rest) δ (ri.bind fun xs => (rFor xs t0 f).bind g) :=
  sv_for κL vw t0 hi ht h0 hb hr hp hc hk (fun j h => by
    have e : j = i := by simpa using h
    subst e
    exact hj) hex hexL hs
theorem sv_forX1 {tg iter : Expr} {k : RK} {ri : R (List D)} {i : Nat} {f : D → τ → R (Lp τ α)} {g : τ → R α} (κL : List Kd) (vw : τ → List D) (t0 : τ)
    (hi : EI X W B G0 κ en tg iter k ri) (ht : Tg X tg k D (fun d => .ok d) [i] (fun d => [d]) (slotOf k)) (h0 : Wk κ en κL (vw t0)) (hb : ∀ G0 p t, SV X W B G0 (κL.set i (slotOf k)) ((vw t).set i p) body (δ.loopX κL vw) (f p t)) (hr : ∀ t, SV X W B G0 κL (vw t) rest δ (g t))
    (hp : PassesOwn (model X.prog X.w) X.A X.env X.xe) (hc : X.calm = true := by rfl) (hk : rig k = true := by rfl) (hj : i < κL.length := by first | decide | simp) (hex : δ.ex κ en := by exact True.intro) (hexL : ∀ t, δ.ex κL (vw t) := by exact fun _ => True.intro)
    (hs : ∀ x, foldedSetIterable iter X.env x = pure x := by intro _; rfl) :
    SV X W B G0 κ en (.For tg iter body [] pos :: rest) δ (ri.bind fun xs => (rForX xs t0 f).bind (Go.thn g)) :=
  sv_forX κL vw t0 hi ht h0 hb hr hp hc hk (fun j h => by
    have e : j = i := by simpa using h
    subst e
    exact hj) hex hexL hs
end
end Lw
namespace Lw
open PySem PySem.Spec PyProof.Rows L2
/-! ### changing what is our own -/
section
variable {c : Cf} {κ : List Kd} {en : List D} {σ : L2.St} {H G : Hp} {Ss : Nat → List Addr} {k : Kd} {i : Nat} {p : Addr} {o : HO} {d d' : D} {v : V}
theorem St.put (s : St c κ en σ H G Ss) (hk : κ[i]? = some k) (hn : k ≠ .N) (hp : p ∈ Ss i) (hv : σ[i]? = some (some v)) (h : RepK c (upd H p o) G k d' v (Ss i)) : St c κ (en.set i d') σ (upd H p o) G Ss := by
  obtain ⟨g0, b0, u, hu⟩ := s.own i p hp
  have hi : i < en.length := by rw [s.ln.2]; exact (List.getElem?_eq_some_iff.mp hk).1
  refine ⟨by simpa using s.ln, fun j q hj hq => ?_, fun j x hx => ?_, s.nd, s.dis, fun b w hb => ?_, s.sG, fun b w hb => ?_, s.new⟩
  · by_cases e : j = i
    · subst e
      rw [hk] at hj; cases hj
      exact ⟨v, d', hv, List.getElem?_set_self hi, h⟩
    · obtain ⟨v', e', h1, h2, h3⟩ := s.slot j q hj hq
      refine ⟨v', e', h1, by rw [List.getElem?_set_ne (Ne.symm e)]; exact h2, h3.at_ (fun x hx w hw => ?_) (.refl _)⟩
      rw [upd_ne (fun z => by rw [z] at hx; exact s.dis j i p e hx hp)]
      exact hw
  · obtain ⟨h1, h2, w, h3⟩ := s.own j x hx
    refine ⟨h1, h2, ?_⟩
    by_cases e : x = p
    · subst e; exact ⟨o, upd_same⟩
    · exact ⟨w, by rw [upd_ne e]; exact h3⟩
  · rw [upd_ne (fun z => by rw [z, b0] at hb; cases hb)]
    exact s.sB _ _ hb
  · rw [upd_ne (fun z => by rw [z, g0] at hb; cases hb)]
    exact s.sH _ _ hb
/-- what a list of our own is -/
theorem St.ownL (s : St c κ en σ H G Ss) (hk : κ[i]? = some (.L .F)) (he : en[i]? = some d) : ∃ p vs ds, σ[i]? = some (some (.ref p)) ∧ Ss i = [p] ∧ Cont H p d ds vs ∧ Reps c.K c.mg G ds vs := by
  obtain ⟨v, d1, h1, h2, p, vs, ds, S', e1, e2, hc, ha⟩ := s.slot i _ hk (by intro z; cases z)
  rw [he] at h2; cases h2
  subst e1
  have e3 : S' = [] := by
    have aux : ∀ {ds : List D} {vs : List V} {S : List Addr}, AllR (RepK c H G .F) ds vs S → S = [] := by
      intro ds
      induction ds with
      | nil => intro vs S h; exact h.2
      | cons d ds ih =>
        intro vs S ⟨v, r, S1, S2, q1, q2, q3, q4⟩
        rw [q2, q3.2, ih q4] <;> rfl
    exact aux ha
  exact ⟨p, vs, ds, h1, by rw [e2, e3], hc, ha.reps fun _ _ _ z => z.1⟩
theorem RepK.ofL {vs : List V} {ds : List D} (hc : Cont H p d ds vs) (r : Reps c.K c.mg G ds vs) : RepK c H G (.L .F) d (.ref p) [p] := ⟨p, vs, ds, [], rfl, rfl, hc, AllR.frozen r⟩
end
def toL : D → R (List D)
  | .lst xs => .ok xs
  | _ => .bad
def appL (xs : List D) (d : D) : R D := if xs.length < 16777216 then .ok (.lst (xs ++ [d])) else .bad
def pSetI : D → D → D → R D
  | .lst xs, .int i, d => match ixN xs.length i with
    | some j => .ok (.lst (xs.set j d))
    | none => .bad
  | _, _, _ => .bad
section
variable {α τ : Type} {X : Cx} {W : WX} {B G0 : Hp} {κ : List Kd} {en : List D} {e e2 : Expr} {k k2 : RK} {r r2 : R D} {δ : DE α} {pos : Pos} {rest : List Stmt} {d0 : D}
/-- what behind an expression the rest asks -/
theorem mS.thenR {c : Cf} {σ : L2.St} {H G : Hp} {Ss : Nat → List Addr} {Dn : Ends} {β : Type} {r : R β} {f : β → R α} {Z : β → Hp → Hp → Prop} (st : St c κ en σ H G Ss) (m : mS W c δ Dn (r.bind f)) (hx : δ.ex κ en)
    (h : ∀ a H1 G1, Adv H G G1 H1 → St c κ en σ H1 G1 Ss → mS W c δ Dn (f a) → Z a H1 G1) : mR W c σ H G Z r := mS.toR st m hx h
/-- x.append(e), x a list of our own -/
theorem sv_app {i : Nat} {x : Str} {px ap cp : Pos} {f : D → R α} (p : PE X (.Name x px) (tVar i)) (he : EV X W B G0 κ en e .F r) (hr : ∀ d, SV X W B G0 κ (en.set i d) rest δ (f d)) (hk : κ[i]? = some (.L .F) := by rfl) (hd : en[i]? = some d0 := by rfl)
    (hex : δ.ex κ en := by exact True.intro) (hs : swapsWith (.Call (.Attribute (.Name x px) "append" ap) [e] [] cp) none pos.line X.env = pure false := by rfl)
    (hbase : attributeBase (.Name x px) "append" X.env (eval (.Name x px) X.env) = eval (.Name x px) X.env := by rfl)
    (hfew : ((backTo cp (starEach [e] X.env)).all (fun x => !x.1) && (backToKw cp (keywordEach [] X.env)).all (fun x => x.1.isSome) && decide ([e].length + ([] : List Keyword).length + (if ([] : List Keyword).isEmpty then 0 else 1) < 30)) = true := by rfl)
    (hline : (ap.endLine == cp.line) = true := by rfl) (hst : starEach [e] X.env = (false, eval e X.env) :: starEach [] X.env := by rfl) (hpl : (backTo cp (starEach [] X.env)).any (·.1) = false := by rfl) :
    SV X W B G0 κ en (.Expr (.Call (.Attribute (.Name x px) "append" ap) [e] [] cp) pos :: rest) δ ((toL d0).bind fun xs => r.bind fun d => (appL xs d).bind f) :=
  ⟨PSs.wk (pss_cons (ps_expr (pe_bm PySem.F.plainAttrs_list PySem.F.slot_list_append PySem.F.type_list_append mt_append p (pa_cons he.pe pa_nil hst) hbase hfew hline hst hpl) hs) (PSs.all fun d => (hr d).ps)) fun Dn σ H ⟨G, Ss, st, m⟩ => by
    obtain ⟨p, vs, ds, hv, hS, hc, rs⟩ := st.ownL hk hd
    cases d0 with
    | lst xs =>
      cases hc with
      | lst hp =>
        refine ⟨_, hv, .inl ⟨rfl, vs, SqL.of hp⟩, G, Ss, st, mS.toR st m hex fun d H1 G1 a st1 m1 v S rv => ?_⟩
        have hp1 := a.1 _ _ hp
        have m2 : mS W (cf X B G0) δ Dn ((if ds.length < 16777216 then .ok (.lst (ds ++ [d])) else R.bad).bind f) := m1
        by_cases hl : ds.length < 16777216
        · rw [if_pos hl] at m2
          refine ⟨p, vs, v, rfl, rfl, hp1, by rw [sizeLine_eq, ← rs.length]; exact hl, .lst (ds ++ [d]), G1, Ss, ?_, m2⟩
          exact st1.put hk (by intro z; cases z) (by rw [hS]; exact List.mem_cons_self) hv (by
            rw [hS]
            exact RepK.ofL (.lst upd_same) ((rs.mono a.2.1).snoc rv.1))
        · rw [if_neg hl] at m2
          exact m2.elim
    | _ => exact m.elim⟩
/-- x[i] = e, x a list of our own: first e, then i -/
def setL1 (xs : List D) (i d : D) : R D := match i with
  | .int k => match ixN xs.length k with
    | some j => .ok (.lst (xs.set j d))
    | none => .bad
  | _ => .bad
theorem sv_setI {i : Nat} {x : Str} {px sp : Pos} {ei : Expr} {ri : R D} {ki : RK} {f : D → R α} (p : PE X (.Name x px) (tVar i)) (he : EV X W B G0 κ en e .F r) (hi : EV X W B G0 κ en ei ki ri) (hr : ∀ d, SV X W B G0 κ (en.set i d) rest δ (f d)) (hk : κ[i]? = some (.L .F) := by rfl) (hd : en[i]? = some d0 := by rfl)
    (hex : δ.ex κ en := by exact True.intro)
    (ha : ∀ v, assign (.Subscript (.Name x px) ei sp) X.env v = (do
      let ov ← holding [v] (eval (.Name x px) X.env)
      let iv ← holding [v, ov] (eval ei X.env)
      standAt sp
      holding [v, ov, iv] (setItem ov iv v)
      release [v, ov, iv] []) := by intro _; rfl)
    (hs : swapsWithSole [.Subscript (.Name x px) ei sp] e pos.line X.env = pure false := by rfl) (hw : swappedStores [.Subscript (.Name x px) ei sp] e X.env = pure none := by rfl) (h1 : (assignEach [.Subscript (.Name x px) ei sp] X.env).map (·.2) = [assign (.Subscript (.Name x px) ei sp) X.env] := by rfl) :
    SV X W B G0 κ en (.Assign [.Subscript (.Name x px) ei sp] e pos :: rest) δ (r.bind fun d => (toL d0).bind fun xs => ri.bind fun j => (setL1 xs j d).bind f) :=
  ⟨PSs.wk (pss_cons (ps_asg he.pe (pg_sub p hi.pe set_list ha) hs hw h1) (PSs.all fun d => (hr d).ps)) fun Dn σ H ⟨G, Ss, st, m⟩ => ⟨G, Ss, st, mS.toR st m hex fun d H1 G1 a st1 m1 v S rv => by
    obtain ⟨p, vs, ds, hv, hS, hc, rs⟩ := st1.ownL hk hd
    cases d0 with
    | lst xs =>
      cases hc with
      | lst hp =>
        refine ⟨_, hv, G1, Ss, st1, mS.toR st1 m1 hex fun j H2 G2 a2 st2 m2 w S2 rv2 => ?_⟩
        have hp2 := a2.1 _ _ hp
        have rj := st2.rd rv2
        cases j with
        | int q =>
          have m3 : mS W (cf X B G0) δ Dn ((match ixN ds.length q with
            | some j => (R.ok (.lst (ds.set j d)) : R D)
            | none => R.bad).bind f) := m2
          cases ej : ixN ds.length q with
          | none => rw [ej] at m3; exact m3.elim
          | some j =>
            rw [ej] at m3
            refine ⟨p, vs, q, j, rfl, rj, hp2, by rw [← rs.length]; exact ej, .lst (ds.set j d), G2, Ss, ?_, m3⟩
            exact st2.put hk (by intro z; cases z) (by rw [hS]; exact List.mem_cons_self) hv (by
              rw [hS]
              exact RepK.ofL (.lst upd_same) ((rs.mono a2.2.1).set j (rv.1.mono a2.2.1)))
        | _ => exact m2.elim
    | _ => exact m1.elim⟩⟩
/-- raise X(text), X a class over ValueError without an own __init__ -/
def ExD (K : PySem.W.Frag) (mg : Str → Option Value) (x : Str) : Prop :=
  ∃ C, mg x = some (.ref C) ∧ PySem.W.excIn K C [.type "ValueError", .type "Exception", .type "BaseException", .type "object"] "ValueError.__new__" = true ∧ PySem.W.keepIn K (.ref C) = true ∧ PySem.W.subIn K (.ref C) (.type "BaseException") = some true ∧ PySem.W.typeIn K (.ref C) = some (.type "type")
theorem sv_raise {x z : Str} {j : Nat} {zp px cp : Pos} (F : ExD X.K X.mg x) (tk : Takes X W) (hc : X.calm = true := by rfl) (hex : δ.ex κ en := by exact True.intro) (hg : Gl X x := by rfl) (hdb : (x == ("__debug__" : Str)) = false := by decide) :
    SV X W B G0 κ en (.Raise (some (.Call (.Name x px) [.Constant (.str z) j zp] [] cp)) none pos :: rest) δ (.exc ⟨x, [], []⟩) := by
  obtain ⟨C, gC, xC, kC, bC, tC⟩ := F
  exact ⟨PSs.wk (pss_cons (ps_raise hc tk (pmk_own PySem.F.excBase_ValueError xC gC kC (raises_own bC tC) hg (hdb := hdb))) pss_never) fun Dn σ H ⟨G, Ss, st, m⟩ => m _ _ κ en σ H G Ss st hex ⟨⟨C, gC, rfl⟩, .inl ⟨rfl, rfl, rfl⟩⟩⟩
end
/-! ### a def -/
section
variable {P : Program} {w : World} {K : PySem.W.Frag} {mg : Str → Option Value} {base : Heap}
def PK.kd : PK → Kd
  | .F => .F
  | .B => .B
  | .E => .E
def pkK : List PK → List Kd := List.map PK.kd
/-- the slots at a def's start -/
def kStart (pk : List PK) (n : Nat) : List Kd := pkK pk ++ List.replicate (n - pk.length) .N
def dStart (ds : List D) (n : Nat) : List D := ds ++ List.replicate (n - ds.length) .non
theorem ArgsR.length {H G : Hp} : ∀ {pk : List PK} {ds : List D} {vs : List V}, ArgsR K mg H G pk ds vs → pk.length = ds.length ∧ vs.length = ds.length
  | _ :: _, _ :: _, _ :: _, h => by
    obtain ⟨a, b⟩ := ArgsR.length h.2
    exact ⟨by simp [a], by simp [b]⟩
  | [], [], [], _ => ⟨rfl, rfl⟩
  | [], [], _ :: _, h => h.elim
  | [], _ :: _, _, h => h.elim
  | _ :: _, [], _, h => h.elim
  | _ :: _, _ :: _, [], h => h.elim
theorem ArgsR.get {H G : Hp} : ∀ {pk : List PK} {ds : List D} {vs : List V} {i : Nat} {b : PK}, ArgsR K mg H G pk ds vs → pk[i]? = some b → ∃ v d, vs[i]? = some v ∧ ds[i]? = some d ∧ ArgP K mg H G b d v
  | b :: bs, d :: ds, v :: vs, 0, b', h, e => by
    have e' : b = b' := by simpa using e
    subst e'
    exact ⟨v, d, rfl, rfl, h.1⟩
  | b :: bs, d :: ds, v :: vs, i + 1, b', h, e => by
    obtain ⟨v', d', h1, h2, h3⟩ := ArgsR.get (i := i) h.2 (by simpa using e)
    exact ⟨v', d', by simpa using h1, by simpa using h2, h3⟩
  | [], _, _, _, _, _, e => by simp at e
  | _ :: _, [], _, _, _, h, _ => h.elim
  | _ :: _, _ :: _, [], _, _, h, _ => h.elim
theorem St.start {H G : Hp} {pk : List PK} {ds : List D} {vs : List V} {N : List Str} (s : Same G H) (a : ArgsR K mg H G pk ds vs) (hl : pk.length ≤ N.length) : St ⟨K, mg, H, G⟩ (kStart pk N.length) (dStart ds N.length) (L2.start N vs) H G (fun _ => []) := by
  obtain ⟨l1, l2⟩ := a.length
  refine ⟨⟨?_, ?_⟩, fun i k hk hn => ?_, fun _ _ h => (by cases h), fun _ => List.Pairwise.nil, fun _ _ _ _ h => (by cases h), .refl _, .refl _, s, fun _ _ h => .inl h⟩
  · unfold L2.start kStart pkK
    simp
    omega
  · unfold dStart kStart pkK
    simp
    omega
  · rcases Nat.lt_or_ge i pk.length with hi | hi
    · unfold kStart at hk
      rw [List.getElem?_append_left (by unfold pkK; simpa using hi)] at hk
      unfold pkK at hk
      rw [List.getElem?_map] at hk
      cases e : pk[i]? with
      | none => rw [e] at hk; cases hk
      | some b =>
        rw [e] at hk
        obtain ⟨v, d, h1, h2, h3⟩ := a.get e
        refine ⟨v, d, ?_, ?_, ?_⟩
        · unfold L2.start
          rw [List.getElem?_append_left (by simp; omega), List.getElem?_map, h1] <;> rfl
        · unfold dStart
          rw [List.getElem?_append_left (by omega), h2]
        · have e2 : b.kd = k := by simpa using hk
          subst e2
          cases b with
          | F => exact ⟨h3, rfl⟩
          | B => exact ⟨h3, rfl⟩
          | E => exact ⟨h3, rfl⟩
    · unfold kStart at hk
      rw [List.getElem?_append_right (by unfold pkK; simpa using hi)] at hk
      have e := List.eq_of_mem_replicate (List.mem_of_getElem? hk)
      exact absurd e hn
/-- THE RULE for a def: its body gives what f tells -/
theorem fd_ok {x qual : Str} {params : Arguments} {body : List Stmt} {sc : Scope} {fa : Addr} {fd : FuncData} {N ps : List Str} {k : Nat} {f : List D → R D} {pk : List PK} {rk : RK} (F : FunD K x qual params body sc [] [] fa fd) (S : FnScope N ps sc) (hl : pk.length = ps.length) (hN : pk.length ≤ N.length)
    (hb : ∀ (cdv : Value) (A : Around) (outer : List Env) (s : Shared) (H : Hp) (E : XK) (G : Hp) (ds : List D), Room k (A.deeper (envOfC qual sc s.heap.objs.size fa cdv)) → ds.length = ps.length →
      SV (cxOf (L2.CX P w) P w K mg base N qual sc fa cdv A outer s H E) (fun cv xd _ H' => E cv xd H') H G (kStart pk N.length) (dStart ds N.length) body (dDef rk) (f ds)) :
    FnOk P w K mg base (L2.CX P w) (k + 1) fa fd ps (spF K mg f pk rk) := by
  refine F.ok S (fun vs H Q E ⟨G, ds, s, a, m⟩ => ?_) (fun cdv A outer s H vs Q E hr ⟨G, ds, sG, a, m⟩ => ?_)
  · obtain ⟨l1, l2⟩ := a.length
    omega
  · obtain ⟨l1, l2⟩ := a.length
    refine ⟨_, (hb cdv A outer s H E G ds hr (by omega)).ps, G, _, St.start sG a hN, ?_⟩
    cases hf : f ds with
    | bad => rw [hf] at m; exact m.elim
    | exc x =>
      rw [hf] at m
      exact fun cv xd κ en σ H' G' Ss st _ hv => m cv xd H' G' st.adv0 hv
    | ok d =>
      rw [hf] at m
      refine ⟨fun κ en σ H' G' Ss st ⟨e1, e2⟩ => ?_, fun k' d' v H' G' S a1 rv ⟨e1, e2⟩ => ?_, fun _ _ _ _ _ _ _ z => z.elim, fun _ _ _ _ _ _ _ z => z.elim⟩
      · subst e1 e2
        exact m H' G' st.adv0 .non [] ⟨rfl, rfl⟩
      · subst e1 e2
        exact m H' G' a1 v S rv
end
end Lw
namespace Lw
open PySem PySem.Spec PyProof.Rows L2
/-! ### methods of own classes -/
/-- a method of a class of the module -/
def FM (P : Program) (w : World) (K : PySem.W.Frag) (mg : Str → Option Value) (base : Heap) (k : Nat) (cl m : Str) (f : List D → R D) (pk : List PK) (rk : RK) : Prop :=
  ∃ C fa fd ps, mg cl = some (.ref C) ∧ Cls K C ∧ Meth K C m fa ∧ Binds K fd ps [] ∧ FnOk P w K mg base (L2.CX P w) k fa fd ps (spF K mg f pk rk)
/-- an object of the class cl that has no field m -/
def asObj (cl m : Str) : D → R D
  | .obj c ns xs => if c = cl ∧ ns.contains m = false then .ok (.obj c ns xs) else .bad
  | _ => .bad
theorem lookup_none {m : Str} : ∀ {fs : List (Str × V)}, (fs.map (·.1)).contains m = false → fs.lookup m = none
  | [], _ => rfl
  | (a, b) :: fs, h => by
    rw [List.map_cons, List.contains_cons] at h
    obtain ⟨h1, h2⟩ := Bool.or_eq_false_iff.mp h
    rw [List.lookup_cons, h1]
    exact lookup_none h2
def pMeth (cl m : Str) (ro : R D) (rs : R (List D)) (f : List D → R D) : R D := (ro.bind (asObj cl m)).bind fun d => rs.bind fun ds => f (d :: ds)
section
variable {X : Cx} {W : WX} {B G0 : Hp} {κ : List Kd} {en : List D} {e o : Expr} {es : List Expr} {ko rk : RK} {ro : R D} {rs : R (List D)} {f : List D → R D} {q : PK} {pk : List PK} {k : Nat} {cl m : Str} {p pos apos : Pos}
theorem asObj_ok {H : Hp} {d d' : D} {v : V} (r : Rep X.K X.mg H d v) (h : asObj cl m d = .ok d') : d' = d ∧ ∃ a C dx fs, v = .ref a ∧ H a = some (.ins C dx fs) ∧ X.mg cl = some (.ref C) ∧ fs.lookup m = none := by
  cases d with
  | obj c ns xs =>
    have h' : (if c = cl ∧ ns.contains m = false then R.ok (D.obj c ns xs) else .bad) = .ok d' := h
    by_cases z : c = cl ∧ ns.contains m = false
    · rw [if_pos z] at h'
      cases h'
      obtain ⟨a, C, dx, fs, e1, e2, e3, e4, e5⟩ := r
      subst e4
      exact ⟨rfl, a, C, dx, fs, e1, e2, by rw [← z.1]; exact e3, lookup_none z.2⟩
    · rw [if_neg z] at h'; cases h'
  | _ => cases h
/-- o.m(e, ..) -/
theorem ev_meth {pl : Sem Bool} (F : FM X.prog X.w X.K X.mg X.base k cl m f (q :: pk) rk) (hr : Room k X.A) (tk : Takes X W) (ho : EV X W B G0 κ en o ko ro) (ha : EA X W B G0 κ en (e :: es) pk rs) (hq : q = .B ∨ (q = .F ∧ ko = .F)) (hro : rk.out = true := by rfl) (hko : ∀ q, ko ≠ .O q := by intro _ z; cases z)
    (hst : starEach (e :: es) X.env = (false, eval e X.env) :: starEach es X.env := by rfl) (hpl : (backTo pos (starEach es X.env)).any (·.1) = false := by rfl)
    (ht : eval (.Call (.Attribute o m apos) (e :: es) [] pos) X.env = (do
      let ov ← eval o X.env
      standAt apos.atName
      let (f, first) ← holding [ov] (getMethod ov m pl)
      callWith pos f first (backTo pos (starEach (e :: es) X.env)) (backToKw pos (keywordEach [] X.env))) := by rfl) :
    EV X W B G0 κ en (.Call (.Attribute o m apos) (e :: es) [] pos) rk ((ro.bind (asObj cl m)).bind fun d => rs.bind fun ds => f (d :: ds)) := by
  obtain ⟨C, fa, fd, ps, gC, cC, hm, hb, F⟩ := F
  refine ⟨⟨fun pins s σ H Q I ⟨G, Ss, st, m0⟩ => ?_⟩⟩
  rw [R.bind_assoc] at m0
  refine PySem.W.methodCall_KW (pl := pl) (thn (ho.pe.run pins s σ H _ I (tEVb st m0 (fun x H1 => ∃ a dx fs, x = .ref a ∧ H1 a = some (.ins C dx fs) ∧ fs.lookup m = none ∧ tEA W (cf X B G0) κ en pk rs σ H1 fun vs H2 => spF X.K X.mg f (q :: pk) rk (x :: vs) H2 Q (WE W σ)) fun d v H1 G1 S _ a1 st1 rv m1 => ?_)) fun u s1 ⟨x, H1, I1, rx, a, dx, fs, ex, ea, l, z⟩ => ?_) ht
  · have rd := st1.rd rv
    cases hd : asObj cl m d with
    | bad => rw [hd] at m1; exact m1.elim
    | exc x =>
      exfalso
      cases d with
      | obj c ns xs =>
        have h' : (if c = cl ∧ ns.contains m = false then R.ok (D.obj c ns xs) else .bad) = .exc x := hd
        split at h' <;> cases h'
      | _ => cases hd
    | ok d' =>
      rw [hd] at m1
      obtain ⟨rfl, a, C', dx, fs, e1, e2, e3, e4⟩ := asObj_ok rd hd
      rw [gC] at e3; cases e3
      refine ⟨a, dx, fs, e1, e2, e4, G1, Ss, st1, ?_⟩
      have m2 : mR W (cf X B G0) σ H1 G1 (yV (cf X B G0) H1 rk Q) (rs.bind fun ds => f (d' :: ds)) := m1
      refine m2.thn fun ds H2 G2 a2 m3 vs args => ?_
      refine ⟨G2, d' :: ds, a2.2.2.1, ⟨?_, args⟩, mR.toSp (X := X) (B := B) (G0 := G0) (m3.imp fun d H' G' _ b y v S z => y v S (z.back a2.1)) hro⟩
      have rv2 := rv.adv a2 hko
      rcases hq with z | ⟨z, z2⟩
      · subst z
        exact rv2.rep (st1.sB.trans a2.1) a2.2.2.1
      · subst z z2
        exact rv2.1
  · subst ex
    obtain rfl : u = Value.ref a := rx
    refine getmeth_ok I1 ea cC hm l ?_
    refine PySem.W.callWith_K (first := [.ref a]) (h₀ := X.base) I.ok.mod.kin hm.kp (thn (ha.pa.run pos pins s1 σ H1 _ I1 z) fun us s2 ⟨vs, H2, I2, r, q2⟩ => ⟨I2.kIn, ?_⟩) hst hpl
    exact run_fnS (E := WE W) (us := .ref a :: us) (vs := .ref a :: vs) F hr hb (passAt tk σ) I2 (.cons rfl r) q2
/-- o.m() -/
theorem ev_meth0 {pl : Sem Bool} (F : FM X.prog X.w X.K X.mg X.base k cl m f [q] rk) (hr : Room k X.A) (tk : Takes X W) (ho : EV X W B G0 κ en o ko ro) (hq : q = .B ∨ (q = .F ∧ ko = .F)) (hro : rk.out = true := by rfl)
    (ht : eval (.Call (.Attribute o m apos) [] [] pos) X.env = (do
      let ov ← eval o X.env
      standAt apos.atName
      let (f, first) ← holding [ov] (getMethod ov m pl)
      callWith pos f first (backTo pos (starEach [] X.env)) (backToKw pos (keywordEach [] X.env))) := by rfl) :
    EV X W B G0 κ en (.Call (.Attribute o m apos) [] [] pos) rk ((ro.bind (asObj cl m)).bind fun d => f [d]) := by
  obtain ⟨C, fa, fd, ps, gC, cC, hm, hb, F⟩ := F
  refine ⟨⟨fun pins s σ H Q I ⟨G, Ss, st, m0⟩ => ?_⟩⟩
  rw [R.bind_assoc] at m0
  refine PySem.W.methodCall_KW (pl := pl) (thn (ho.pe.run pins s σ H _ I (tEVb st m0 (fun x H1 => ∃ a dx fs, x = .ref a ∧ H1 a = some (.ins C dx fs) ∧ fs.lookup m = none ∧ spF X.K X.mg f [q] rk [x] H1 Q (WE W σ)) fun d v H1 G1 S _ a1 st1 rv m1 => ?_)) fun u s1 ⟨x, H1, I1, rx, a, dx, fs, ex, ea, l, z⟩ => ?_) ht
  · have rd := st1.rd rv
    cases hd : asObj cl m d with
    | bad => rw [hd] at m1; exact m1.elim
    | exc x =>
      exfalso
      cases d with
      | obj c ns xs =>
        have h' : (if c = cl ∧ ns.contains m = false then R.ok (D.obj c ns xs) else .bad) = .exc x := hd
        split at h' <;> cases h'
      | _ => cases hd
    | ok d' =>
      rw [hd] at m1
      obtain ⟨rfl, a, C', dx, fs, e1, e2, e3, e4⟩ := asObj_ok rd hd
      rw [gC] at e3; cases e3
      refine ⟨a, dx, fs, e1, e2, e4, G1, [d'], st1.sH, ⟨?_, trivial⟩, mR.toSp (X := X) (B := B) (G0 := G0) m1 hro⟩
      rcases hq with z | ⟨z, z2⟩
      · subst z
        exact rv.rep st1.sB st1.sH
      · subst z z2
        exact rv.1
  · subst ex
    obtain rfl : u = Value.ref a := rx
    refine getmeth_ok I1 ea cC hm l ?_
    exact PySem.W.callWith_K0 (first := [.ref a]) I1.kIn hm.kp (run_fnS (E := WE W) (us := [.ref a]) (vs := [.ref a]) F hr hb (passAt tk σ) I1 (.cons rfl .nil) z)
/-! ### the class is told by the value -/
def clsOf : D → Str
  | .obj c _ _ => c
  | _ => Str.empty
/-- what T tells of an object's class -/
def dsp (T : List (Str × (List D → R D))) (m : Str) (d : D) : R (List D → R D) := match T.lookup (clsOf d) with
  | some f => (asObj (clsOf d) m d).bind fun _ => .ok f
  | none => .bad
theorem mem_of_lookup {α : Type} {c : Str} {f : α} : ∀ {T : List (Str × α)}, T.lookup c = some f → (c, f) ∈ T
  | [], h => by cases h
  | (a, b) :: T, h => by
    rw [List.lookup_cons] at h
    cases e : (c == a) with
    | true =>
      rw [e] at h
      have e2 : b = f := Option.some.inj h
      rw [beq_iff_eq.mp e, e2]
      exact List.mem_cons_self
    | false =>
      rw [e] at h
      exact List.mem_cons_of_mem _ (mem_of_lookup h)
theorem ev_methT {pl : Sem Bool} {T : List (Str × (List D → R D))} (F : ∀ t ∈ T, FM X.prog X.w X.K X.mg X.base k t.1 m t.2 (q :: pk) rk) (hT : T ≠ []) (hr : Room k X.A) (tk : Takes X W) (ho : EV X W B G0 κ en o ko ro) (ha : EA X W B G0 κ en (e :: es) pk rs) (hq : q = .B ∨ (q = .F ∧ ko = .F)) (hro : rk.out = true := by rfl) (hko : ∀ q, ko ≠ .O q := by intro _ z; cases z)
    (hst : starEach (e :: es) X.env = (false, eval e X.env) :: starEach es X.env := by rfl) (hpl : (backTo pos (starEach es X.env)).any (·.1) = false := by rfl)
    (ht : eval (.Call (.Attribute o m apos) (e :: es) [] pos) X.env = (do
      let ov ← eval o X.env
      standAt apos.atName
      let (f, first) ← holding [ov] (getMethod ov m pl)
      callWith pos f first (backTo pos (starEach (e :: es) X.env)) (backToKw pos (keywordEach [] X.env))) := by rfl) :
    EV X W B G0 κ en (.Call (.Attribute o m apos) (e :: es) [] pos) rk (ro.bind fun d => (dsp T m d).bind fun f => rs.bind fun ds => f (d :: ds)) := by
  have one : ∀ t ∈ T, EV X W B G0 κ en (.Call (.Attribute o m apos) (e :: es) [] pos) rk ((ro.bind (asObj t.1 m)).bind fun d => rs.bind fun ds => t.2 (d :: ds)) := fun t h => ev_meth (F t h) hr tk ho ha hq hro hko hst hpl ht
  cases ro with
  | bad =>
    obtain ⟨t, T', rfl⟩ := List.exists_cons_of_ne_nil hT
    exact one t List.mem_cons_self
  | exc x =>
    obtain ⟨t, T', rfl⟩ := List.exists_cons_of_ne_nil hT
    exact one t List.mem_cons_self
  | ok d =>
    cases hl : T.lookup (clsOf d) with
    | none =>
      obtain ⟨t, T', e⟩ := List.exists_cons_of_ne_nil hT
      have z := one t (by rw [e]; exact List.mem_cons_self)
      refine ⟨PE.wk z.pe fun σ H Q ⟨G, Ss, st, m0⟩ => ?_⟩
      have m' : mR W (cf X B G0) σ H G (yV (cf X B G0) H rk Q) ((dsp T m d).bind fun f => rs.bind fun ds => f (d :: ds)) := m0
      unfold dsp at m'
      rw [hl] at m'
      exact m'.elim
    | some f =>
      have z := one (clsOf d, f) (mem_of_lookup hl)
      refine z.cast ?_
      show ((asObj (clsOf d) m d).bind fun d => rs.bind fun ds => f (d :: ds)) = ((dsp T m d).bind fun f => rs.bind fun ds => f (d :: ds))
      unfold dsp
      rw [hl]
      show _ = (((asObj (clsOf d) m d).bind fun _ => .ok f).bind fun f => rs.bind fun ds => f (d :: ds))
      rw [R.bind_assoc]
      cases ha : asObj (clsOf d) m d with
      | bad => rfl
      | exc x => rfl
      | ok d' =>
        have e : d' = d := by
          cases d with
          | obj c ns xs =>
            have h' : (if c = c ∧ ns.contains m = false then R.ok (D.obj c ns xs) else .bad) = .ok d' := ha
            split at h'
            · cases h'; rfl
            · cases h'
          | _ => cases ha
        rw [e] <;> rfl
end
/-! ### C(), a class without an own __init__ -/
def MkD (K : PySem.W.Frag) (mg : Str → Option Value) (cl : Str) : Prop :=
  ∃ C, mg cl = some (.ref C) ∧ PySem.W.makesIn K C = true ∧ PySem.W.findIn K (.ref C) "__init__" = some (some (.builtin "object.__init__")) ∧ PySem.W.keepIn K (.ref C) = true
section
variable {X : Cx} {W : WX} {B G0 : Hp} {κ : List Kd} {en : List D} {cl : Str} {p pos : Pos}
theorem pe_mk0 {C : Addr} (gC : X.mg cl = some (.ref C)) (mk : PySem.W.makesIn X.K C = true) (hi : PySem.W.findIn X.K (.ref C) "__init__" = some (some (.builtin "object.__init__"))) (kp : PySem.W.keepIn X.K (.ref C) = true) (hg : Gl X cl) (hdb : (cl == ("__debug__" : Str)) = false := by decide) :
    PE X (.Call (.Name cl p) [] [] pos) (fun σ H Q => ∀ x dx, H x = none → H dx = none → dx ≠ x → Q (.ref x) (upd (upd H dx (.own x)) x (.ins C dx []))) := by
  refine ⟨fun pins s σ H Q I h => ?_⟩
  refine wpAny_Call_Name_kw (ld_glob I hg gC ?_ hdb)
  refine PySem.W.callWith_K0 I.kIn kp ?_
  have hq := h (s.heap.objs.size + 1) s.heap.objs.size (I.hok.fresh (Nat.le_succ _)) (I.hok.fresh (Nat.le_refl _)) (Nat.ne_of_lt (Nat.lt_succ_self _))
  have I2 := Inv.made (C := C) I
  have kp2 : ∀ b o, s.heap.get? b = some o → ((s.heap.push PySem.W.emptyDict).push (PySem.W.instObj C s.heap.objs.size)).get? b = some o := fun b o z => Heap.get?_push_of_some _ (Heap.get?_push_of_some _ z)
  have here : ((s.heap.push PySem.W.emptyDict).push (PySem.W.instObj C s.heap.objs.size)).get? (s.heap.objs.size + 1) = some (PySem.W.instObj C s.heap.objs.size) := by heap_get
  have tp : PySem.W.Looks (model X.prog X.w) ((s.heap.push PySem.W.emptyDict).push (PySem.W.instObj C s.heap.objs.size)) (typeOf (.ref (s.heap.objs.size + 1))) (.ref C) := (PySem.W.Looks.ld here).andThen .now
  have top := (PySem.W.makes_of (M := model X.prog X.w) I.kIn mk).top.keeps kp2
  refine wpAny_call (make_map0 I.kIn mk hi (fun self => PySem.W.Looks.of_pure (PySem.W.oi_bind self)) (codeAny_call_builtin PySem.W.oi_plain PySem.W.entry_oi (PySem.W.check_slot PySem.W.oi_kind PySem.W.oi_split (tp.andThen top) (PySem.W.oi_args _) ?_)))
  rw [PySem.W.oi_run]
  exact wpAny_pure ⟨rfl, ⟨.ref (s.heap.objs.size + 1), _, I2, rfl, hq⟩⟩
theorem ev_mk0 (F : MkD X.K X.mg cl) (hg : Gl X cl := by rfl) (hdb : (cl == ("__debug__" : Str)) = false := by decide) : EV X W B G0 κ en (.Call (.Name cl p) [] [] pos) .F (.ok (.obj cl [] [])) := by
  obtain ⟨C, gC, mk, hi, kp⟩ := F
  refine ⟨PE.wk (pe_mk0 gC mk hi kp hg hdb) fun σ H Q ⟨G, Ss, st, m⟩ x dx hx hdx ne => ?_⟩
  have hx1 : upd H dx (.own x) x = none := by rw [upd_ne (Ne.symm ne)]; exact hx
  have a1 : Adv H G G (upd H dx (.own x)) := Adv.newO st.sH hdx
  have a2 : Adv (upd H dx (.own x)) G (upd G x (.ins C dx [])) (upd (upd H dx (.own x)) x (.ins C dx [])) := Adv.newF a1.2.2.1 hx1
  exact m _ _ (a1.trans a2) (.ref x) [] ⟨⟨x, C, dx, [], rfl, upd_same, gC, rfl, .nil⟩, rfl⟩
end
end Lw
namespace Lw
open PySem PySem.Spec PyProof.Rows L2
/-! ### comprehensions whose elements raise nothing -/
def rMap {ρ : Type} (u : D → R ρ) (f : ρ → R D) : List D → R (List D)
  | [] => .ok []
  | x :: xs => ((u x).bind fun p => f p).bind fun y => (rMap u f xs).bind fun ys => .ok (y :: ys)
def rMapF {ρ : Type} (u : D → R ρ) (t : ρ → R Bool) (f : ρ → R D) : List D → R (List D)
  | [] => .ok []
  | x :: xs => (u x).bind fun p => (t p).bind fun b => if b = true then (f p).bind fun y => (rMapF u t f xs).bind fun ys => .ok (y :: ys) else rMapF u t f xs
def wipeK (κ : List Kd) : List Nat → List Kd
  | [] => κ
  | v :: vs => (wipeK κ vs).set v .N
theorem wipeK_length (κ : List Kd) : ∀ vs : List Nat, (wipeK κ vs).length = κ.length
  | [] => rfl
  | v :: vs => by unfold wipeK; rw [List.length_set, wipeK_length κ vs]
theorem wipeK_get {κ : List Kd} {k : Kd} {i : Nat} : ∀ {vs : List Nat}, (wipeK κ vs)[i]? = some k → k ≠ .N → κ[i]? = some k ∧ i ∉ vs
  | [], h, _ => ⟨h, by simp⟩
  | v :: vs, h, n => by
    unfold wipeK at h
    by_cases hi : v = i
    · subst hi
      rcases Nat.lt_or_ge v (wipeK κ vs).length with hl | hl
      · rw [List.getElem?_set_self hl] at h; cases h; exact absurd rfl n
      · rw [List.getElem?_eq_none (by simpa using hl)] at h; cases h
    · rw [List.getElem?_set_ne hi] at h
      obtain ⟨h1, h2⟩ := wipeK_get h n
      exact ⟨h1, by simp only [List.mem_cons, not_or]; exact ⟨fun e => hi e.symm, h2⟩⟩
theorem St.wipe {c : Cf} {κ : List Kd} {en : List D} {σ : L2.St} {H G : Hp} {Ss : Nat → List Addr} (s : St c κ en σ H G Ss) (vs : List Nat) : St c (wipeK κ vs) en (L2.wipe σ vs) H G Ss :=
  ⟨by rw [wipeK_length, L2.wipe_length]; exact s.ln, fun i k hk hn => by
    obtain ⟨h1, h2⟩ := wipeK_get hk hn
    obtain ⟨v, d, q1, q2, q3⟩ := s.slot i k h1 hn
    exact ⟨v, d, by rw [L2.wipe_out h2]; exact q1, q2, q3⟩, s.own, s.nd, s.dis, s.sB, s.sG, s.sH, s.new⟩
theorem wipe_wipe (σ : L2.St) (vs : List Nat) : wipe (wipe σ vs) vs = wipe σ vs := by
  apply List.ext_getElem?
  intro i
  by_cases hi : i ∈ vs
  · rcases Nat.lt_or_ge i σ.length with hl | hl
    · rw [wipe_get hi (by rw [wipe_length]; exact hl), wipe_get hi hl]
    · rw [List.getElem?_eq_none (by rw [wipe_length, wipe_length]; exact hl), List.getElem?_eq_none (by rw [wipe_length]; exact hl)]
  · rw [L2.wipe_out hi]
abbrev W0 : WX := fun _ _ _ _ => False
/-- the tests of a comprehension -/
structure ETs (X : Cx) (W : WX) (B G0 : Hp) (κ : List Kd) (en : List D) (ifs : List Expr) (r : R Bool) : Prop where
  pts : PTs X ifs (tET W (cf X B G0) κ en r)
section
variable {X : Cx} {W : WX} {B G0 : Hp} {κ : List Kd} {en : List D} {e : Expr} {r : R Bool}
theorem PTs.wk {X : Cx} {es : List Expr} {t t' : TT} (h : PTs X es t) (f : ∀ σ H Q, t' σ H Q → t σ H Q) : PTs X es t' := ⟨fun pins s σ H Q I q => h.run pins s σ H Q I (f σ H Q q)⟩
theorem ets_one (h : ET X W B G0 κ en e r) : ETs X W B G0 κ en [e] r := ⟨pts_one h.pt⟩
theorem ets_nil : ETs X W B G0 κ en [] (.ok true) := ⟨PTs.wk pts_nil fun σ H Q h => h.ret⟩
end
/-- behind a turn: nothing of the walk's frozen part is lost -/
theorem Adv.gone {H G G' H' : Hp} {p : Addr} {o : HO} (a : Adv H G G' H') (hp : H p = some o) (hg : G p = none) : G' p = none := by
  cases q : G' p with
  | none => rfl
  | some u =>
    rcases a.2.2.2 p u q with z | z
    · rw [hg] at z; cases z
    · rw [hp] at z; cases z
theorem Adv.put {H G G' H' : Hp} {p : Addr} {o : HO} (a : Adv H G G' H') (hp : H p = none) (hg : G' p = none) : Adv H G G' (upd H' p o) :=
  ⟨fun b u h => by rw [upd_ne (ne_of_none h hp)]; exact a.1 _ _ h, a.2.1, fun b u h => by rw [upd_ne (ne_of_none h hg)]; exact a.2.2.1 _ _ h, a.2.2.2⟩
section
variable {X : Cx} {W : WX} {B G0 : Hp} {κ : List Kd} {en : List D} {elt tg iter : Expr} {ifs : List Expr} {scope : Scope} {pos : Pos} {own : List (Str × Nat)} {k : RK} {ri : R (List D)} {ρ : Type} {u : D → R ρ} {js : List Nat} {vs : ρ → List D} {ke : Kd} {t : ρ → R Bool} {f : ρ → R D}
/-- a piece of code that raises nothing -/
def noX {α : Type} : R α → R α
  | .exc _ => .bad
  | r => r
theorem tLc_ev {wi : TI} {g : TG} {σ : L2.St} {H : Hp} {Q : VK} {tt : TT} {te : TE} {G : Hp} {Ss : Nat → List Addr} (st : St (cf X B G0) κ en σ H G Ss)
    (m : mR W (cf X B G0) σ H G (yV (cf X B G0) H (.O (.L .F)) Q) (ri.bind fun xs => (rMapF u (fun p => noX (t p)) (fun p => noX (f p)) xs).bind mkL))
    (hwi : ∀ Z : It → Hp → Prop, mR W (cf X B G0) σ H G (fun xs H' G' => ∀ J, Walks (cf X B G0) k xs J G' → Z J H') ri → wi σ H Z)
    (hux : ∀ d e, u d = .exc e → False) (hk : rig k = true)
    (hg : ∀ (B G0 : Hp) (κ : List Kd) (en : List D) (σ : L2.St) (H H0 G : Hp) (Ss : Nat → List Addr) (d : D) (w : V) (p : ρ) (Q : L2.St → Hp → Prop), St (cf X B G0) κ en σ H G Ss → RV (cf X B G0) H0 H G k d w [] → u d = .ok p →
      (∀ j ∈ js, j < κ.length) → (∀ σ' Ss', (∀ zs : List Nat, (∀ j ∈ js, j ∈ zs) → wipe σ' zs = wipe σ zs) → St (cf X B G0) (setK κ js ke) (setL en js (vs p)) σ' H G Ss' → Q σ' H) → g w σ H Q)
    (hjo : ∀ j ∈ js, j ∈ own.map (·.2)) (hj : ∀ j ∈ js, j < κ.length)
    (htt : ∀ G0 p σ H Q, tET W0 (cf X B G0) (setK (wipeK κ (own.map (·.2))) js ke) (setL en js (vs p)) (t p) σ H Q → ∀ q : ρ, q = p → tt σ H Q)
    (hte : ∀ G0 p σ H Q, tEV W0 (cf X B G0) (setK (wipeK κ (own.map (·.2))) js ke) (setL en js (vs p)) .F (f p) σ H Q → te σ H Q) : tLc wi g tt te (own.map (·.2)) σ H Q := by
  refine hwi _ (m.thn fun xs H1 G1 a m1 J wk D hD => ?_)
  have st1 := st.adv a
  have gD : G1 D = none := a.2.2.1.free hD
  refine ⟨fun i mm H2 => i ≤ xs.length ∧ mm = xs.length - i ∧ ∃ G2 acc ds, Adv H1 G1 G2 H2 ∧ G2 D = none ∧ H2 D = some (.lst acc) ∧ Reps X.K X.mg G2 ds acc ∧
      mR W (cf X B G0) σ H1 G1 (yV (cf X B G0) H (.O (.L .F)) Q) ((rMapF u (fun p => noX (t p)) (fun p => noX (f p)) (xs.drop i)).bind fun ys => mkL (ds ++ ys)),
    ⟨xs.length, Nat.zero_le _, by simp, G1, [], [], Adv.newO a.2.2.1 hD, gD, upd_same, .nil, by simpa using m1⟩, ?_⟩
  rintro i mm H2 ⟨hi, rfl, G2, acc, ds, a2, gD2, hD2, rs, m2⟩
  have st2 := st1.adv a2
  obtain ⟨wstop, wgo⟩ := wk H2 G2 a2.2.1 st2.sH st2.sB
  rcases Nat.lt_or_ge i xs.length with hlt | hge
  · have hd : xs[i]? = some xs[i] := List.getElem?_eq_getElem hlt
    obtain ⟨jgo, jy⟩ := wgo i _ hd
    refine .inr ⟨jgo, fun H3 => i + 1 ≤ xs.length ∧ ∃ G3 acc ds, Adv H1 G1 G3 H3 ∧ G3 D = none ∧ H3 D = some (.lst acc) ∧ Reps X.K X.mg G3 ds acc ∧
      mR W (cf X B G0) σ H1 G1 (yV (cf X B G0) H (.O (.L .F)) Q) ((rMapF u (fun p => noX (t p)) (fun p => noX (f p)) (xs.drop (i + 1))).bind fun ys => mkL (ds ++ ys)), fun H' ⟨h1, z⟩ => ⟨xs.length - (i + 1), by omega, h1, rfl, z⟩, fun x H3 y => ?_⟩
    obtain ⟨G3, a3, rv3⟩ := jy x H3 y
    have st3 := st2.adv a3
    rw [List.drop_eq_getElem_cons hlt] at m2
    have m3 : mR W (cf X B G0) σ H1 G1 (yV (cf X B G0) H (.O (.L .F)) Q) (((u xs[i]).bind fun p => (noX (t p)).bind fun b => if b = true then (noX (f p)).bind fun y => (rMapF u (fun p => noX (t p)) (fun p => noX (f p)) (xs.drop (i + 1))).bind fun ys => .ok (y :: ys) else rMapF u (fun p => noX (t p)) (fun p => noX (f p)) (xs.drop (i + 1))).bind fun ys => mkL (ds ++ ys)) := m2
    cases eu : u xs[i] with
    | bad => rw [eu] at m3; exact m3.elim
    | exc x => exact (hux _ _ eu).elim
    | ok p =>
      rw [eu] at m3
      have st3w := st3.wipe (own.map (·.2))
      have hD3 := a3.1 _ _ hD2
      have gD3 := a3.gone hD2 gD2
      refine hg B G0 _ en _ H3 H2 G3 Ss xs[i] x p _ st3w rv3 eu (fun j h => by rw [wipeK_length]; exact hj j h) fun σ4 Ss4 hw st4 => ⟨(hw _ hjo).trans (wipe_wipe σ _), ?_⟩
      have m4 : mR W (cf X B G0) σ H1 G1 (yV (cf X B G0) H (.O (.L .F)) Q) (((noX (t p)).bind fun b => if b = true then (noX (f p)).bind fun y => (rMapF u (fun p => noX (t p)) (fun p => noX (f p)) (xs.drop (i + 1))).bind fun ys => .ok (y :: ys) else rMapF u (fun p => noX (t p)) (fun p => noX (f p)) (xs.drop (i + 1))).bind fun ys => mkL (ds ++ ys)) := m3
      refine htt G0 p σ4 H3 _ ⟨G3, Ss4, st4, ?_⟩ p rfl
      cases et : t p with
      | bad => rw [et] at m4; exact m4.elim
      | exc x => rw [et] at m4; exact m4.elim
      | ok b =>
        rw [et] at m4
        intro H5 G5 a5
        have a15 : Adv H1 G1 G5 H5 := (a2.trans a3).trans a5
        have hD5 := a5.1 _ _ hD3
        have gD5 := a5.gone hD3 gD3
        cases b with
        | false =>
          exact ⟨hlt, G5, acc, ds, a15, gD5, hD5, rs.mono (a3.2.1.trans a5.2.1), m4⟩
        | true =>
          have m5 : mR W (cf X B G0) σ H1 G1 (yV (cf X B G0) H (.O (.L .F)) Q) (((noX (f p)).bind fun y => (rMapF u (fun p => noX (t p)) (fun p => noX (f p)) (xs.drop (i + 1))).bind fun ys => .ok (y :: ys)).bind fun ys => mkL (ds ++ ys)) := m4
          refine iteT ?_
          refine hte G0 p σ4 H5 _ ⟨G5, Ss4, st4.adv a5, ?_⟩
          cases ef : f p with
          | bad => rw [ef] at m5; exact m5.elim
          | exc x => rw [ef] at m5; exact m5.elim
          | ok yd =>
            rw [ef] at m5
            intro H6 G6 a6 yv S rv6
            have m6 : mR W (cf X B G0) σ H1 G1 (yV (cf X B G0) H (.O (.L .F)) Q) ((rMapF u (fun p => noX (t p)) (fun p => noX (f p)) (xs.drop (i + 1))).bind fun ys => mkL (ds ++ [yd] ++ ys)) := by
              have e : (((R.ok yd).bind fun y => (rMapF u (fun p => noX (t p)) (fun p => noX (f p)) (xs.drop (i + 1))).bind fun ys => .ok (y :: ys)).bind fun ys => mkL (ds ++ ys)) = ((rMapF u (fun p => noX (t p)) (fun p => noX (f p)) (xs.drop (i + 1))).bind fun ys => mkL (ds ++ [yd] ++ ys)) := by
                show ((rMapF u (fun p => noX (t p)) (fun p => noX (f p)) (xs.drop (i + 1))).bind fun ys => .ok (yd :: ys)).bind (fun ys => mkL (ds ++ ys)) = _
                rw [R.bind_assoc]
                congr 1
                funext ys
                simp
              rw [← e]
              exact m5
            have hD6 := a6.1 _ _ hD5
            have gD6 := a6.gone hD5 gD5
            have len : acc.length < sizeLine := by
              rw [← rs.length]
              cases er : rMapF u (fun p => noX (t p)) (fun p => noX (f p)) (xs.drop (i + 1)) with
              | bad => rw [er] at m6; exact m6.elim
              | exc x =>
                exfalso
                have nox : ∀ (zs : List Lw.D) (x : Ex), rMapF u (fun p => noX (t p)) (fun p => noX (f p)) zs = .exc x → False := by
                  intro zs
                  induction zs with
                  | nil => intro x h; cases h
                  | cons z zs ih =>
                    intro x h
                    unfold rMapF at h
                    cases e1 : u z with
                    | bad => rw [e1] at h; cases h
                    | exc y => exact hux _ _ e1
                    | ok p =>
                      rw [e1] at h
                      have h2 : ((noX (t p)).bind fun b => if b = true then (noX (f p)).bind fun y => (rMapF u (fun p => noX (t p)) (fun p => noX (f p)) zs).bind fun ys => .ok (y :: ys) else rMapF u (fun p => noX (t p)) (fun p => noX (f p)) zs) = .exc x := h
                      cases e2 : t p with
                      | bad => rw [e2] at h2; cases h2
                      | exc y => rw [e2] at h2; cases h2
                      | ok b =>
                        rw [e2] at h2
                        cases b with
                        | false => exact ih x h2
                        | true =>
                          have h3 : ((noX (f p)).bind fun y => (rMapF u (fun p => noX (t p)) (fun p => noX (f p)) zs).bind fun ys => .ok (y :: ys)) = .exc x := h2
                          cases e3 : f p with
                          | bad => rw [e3] at h3; cases h3
                          | exc y => rw [e3] at h3; cases h3
                          | ok y =>
                            rw [e3] at h3
                            cases e4 : rMapF u (fun p => noX (t p)) (fun p => noX (f p)) zs with
                            | bad => exact absurd h3 (by rw [show (noX (R.ok y)) = .ok y from rfl]; show ((rMapF u (fun p => noX (t p)) (fun p => noX (f p)) zs).bind fun ys => .ok (y :: ys)) = .exc x → False; rw [e4]; intro q; cases q)
                            | exc y' => exact ih y' e4
                            | ok ys => exact absurd h3 (by show ((rMapF u (fun p => noX (t p)) (fun p => noX (f p)) zs).bind fun ys => .ok (y :: ys)) = .exc x → False; rw [e4]; intro q; cases q)
                exact nox _ _ er
              | ok ys =>
                rw [er] at m6
                have m7 : mR W (cf X B G0) σ H1 G1 (yV (cf X B G0) H (.O (.L .F)) Q) (mkL (ds ++ [yd] ++ ys)) := m6
                unfold mkL at m7
                by_cases hl : (ds ++ [yd] ++ ys).length ≤ 16777216
                · rw [sizeLine_eq]
                  simp at hl
                  omega
                · rw [if_neg hl] at m7; exact m7.elim
            refine ⟨acc, hD6, len, hlt, G6, acc ++ [yv], ds ++ [yd], (a15.trans a6).put hD gD6, gD6, upd_same, ?_, m6⟩
            exact (rs.mono ((a3.2.1.trans a5.2.1).trans a6.2.1)).snoc rv6.1
  · have e : i = xs.length := by omega
    subst e
    refine .inl ⟨wstop _ (Nat.le_refl _), ?_⟩
    rw [List.drop_length] at m2
    have m3 : mR W (cf X B G0) σ H1 G1 (yV (cf X B G0) H (.O (.L .F)) Q) (mkL (ds ++ [])) := m2
    rw [List.append_nil] at m3
    unfold mkL at m3
    by_cases hl : ds.length ≤ 16777216
    · rw [if_pos hl] at m3
      refine m3 H2 G2 a2 (.ref D) [D] ⟨⟨D, acc, ds, [], rfl, rfl, .lst hD2, AllR.frozen rs⟩, by simp, fun q hq => ?_⟩
      have e : q = D := by simpa using hq
      subst e
      exact ⟨a.1.free hD, gD2, _, hD2⟩
    · rw [if_neg hl] at m3; exact m3.elim
def pComp {ρ : Type} (ri : R (List D)) (u : D → R ρ) (t : ρ → R Bool) (f : ρ → R D) : R D := ri.bind fun xs => (rMapF u (fun p => noX (t p)) (fun p => noX (f p)) xs).bind mkL
/-- a target within a comprehension -/
def TgB (X : Cx) (scope : Scope) (tg : Expr) (k : RK) (ρ : Type) (u : D → R ρ) (js : List Nat) (vs : ρ → List D) (ke : Kd) : Prop :=
  ∃ g, (∀ d e, u d = .exc e → False) ∧ (∀ (s : Shared) (H : Hp) (C : Addr) (cl : List (Str × Addr)) (fp : List Addr), PG (X.blk s H scope (compEnvC scope cl C X.env) fp) tg g) ∧
    ∀ (B G0 : Hp) (κ : List Kd) (en : List D) (σ : L2.St) (H H0 G : Hp) (Ss : Nat → List Addr) (d : D) (w : V) (p : ρ) (Q : L2.St → Hp → Prop), St (cf X B G0) κ en σ H G Ss → RV (cf X B G0) H0 H G k d w [] → u d = .ok p →
    (∀ j ∈ js, j < κ.length) → (∀ σ' Ss', (∀ zs : List Nat, (∀ j ∈ js, j ∈ zs) → wipe σ' zs = wipe σ zs) → St (cf X B G0) (setK κ js ke) (setL en js (vs p)) σ' H G Ss' → Q σ' H) → g w σ H Q
theorem tgb_name {i : Nat} (pg : ∀ (s : Shared) (H : Hp) (C : Addr) (cl : List (Str × Addr)) (fp : List Addr), PG (X.blk s H scope (compEnvC scope cl C X.env) fp) tg (gName i)) (hk : rig k = true := by rfl) : TgB X scope tg k D (fun d => .ok d) [i] (fun d => [d]) (slotOf k) :=
  ⟨gName i, fun _ _ h => (nomatch h), pg, fun B G0 κ en σ H H0 G Ss d w p Q st rv e hj q => by
    cases e
    exact q _ _ (fun zs hz => wipe_set (hz i List.mem_cons_self)) (st.set (.refl st.sH) (rv.refl hk) (hj i List.mem_cons_self))⟩
theorem tgb_tup (pg : ∀ (s : Shared) (H : Hp) (C : Addr) (cl : List (Str × Addr)) (fp : List Addr), PG (X.blk s H scope (compEnvC scope cl C X.env) fp) tg (gTup X.K js.length (gNames js))) (hu : ∀ d p, u d = .ok p → d = .tup (vs p) ∧ (vs p).length = js.length) (hx : ∀ d e, u d = .exc e → False) (hk : rig k = true := by rfl) : TgB X scope tg k ρ u js vs (slotOf k) :=
  ⟨_, hx, pg, fun B G0 κ en σ H H0 G Ss d w p Q st rv e hj q => by
    obtain ⟨rfl, hl⟩ := hu d p e
    obtain ⟨a, ws, ew, sq, el, get⟩ := (rv.items st.sB st.sH (xs := vs p)).2 rfl
    rw [rig_el hk] at get
    refine ⟨a, ws, ew, sq, by rw [← el, hl], gNames_ok (k := k) hk (H0 := H0) st hl (by rw [← el, hl]) (fun i x w e1 e2 => ?_) hj q⟩
    obtain ⟨w', e3, r⟩ := get i x e1
    rw [e2] at e3
    cases e3
    exact r⟩
theorem ev_comp (hc : X.calm = true) (hN : X.N.Nodup) (hi : EI X W B G0 κ en tg iter k ri) (ok : BlkOk X.N X.env.scope scope own)
    (hg : TgB X scope tg k ρ u js vs ke)
    (ht : ∀ (s : Shared) (H : Hp) (C : Addr) (cl : List (Str × Addr)) (fp : List Addr) (G0 : Hp) (p : ρ), ETs (X.blk s H scope (compEnvC scope cl C X.env) fp) W0 B G0 (setK (wipeK κ (own.map (·.2))) js ke) (setL en js (vs p)) ifs (t p))
    (he : ∀ (s : Shared) (H : Hp) (C : Addr) (cl : List (Str × Addr)) (fp : List Addr) (G0 : Hp) (p : ρ), EV (X.blk s H scope (compEnvC scope cl C X.env) fp) W0 B G0 (setK (wipeK κ (own.map (·.2))) js ke) (setL en js (vs p)) elt .F (f p))
    (hk : rig k = true := by rfl) (hjo : ∀ j ∈ js, j ∈ own.map (·.2) := by decide) (hj : ∀ j ∈ js, j < κ.length := by first | decide | simp) (hs : ∀ x, foldedSetIterable iter X.env x = pure x := by intro _; rfl) :
    EV X W B G0 κ en (.ListComp elt [⟨tg, iter, ifs, 0⟩] scope pos) (.O (.L .F)) (pComp ri u t f) := by
  obtain ⟨g, hux, pg, hg⟩ := hg
  have pt : ∀ (s : Shared) (H : Hp) (C : Addr) (cl : List (Str × Addr)) (fp : List Addr), PTs (X.blk s H scope (compEnvC scope cl C X.env) fp) ifs (fun σ H Q => ∃ q : Hp × ρ, tET W0 (cf X B q.1) (setK (wipeK κ (own.map (·.2))) js ke) (setL en js (vs q.2)) (t q.2) σ H Q) :=
    fun s H C cl fp => ⟨fun pins s' σ H' Q I ⟨q, z⟩ => (ht s H C cl fp q.1 q.2).pts.run pins s' σ H' Q I z⟩
  have pe : ∀ (s : Shared) (H : Hp) (C : Addr) (cl : List (Str × Addr)) (fp : List Addr), PE (X.blk s H scope (compEnvC scope cl C X.env) fp) elt (fun σ H Q => ∃ q : Hp × ρ, tEV W0 (cf X B q.1) (setK (wipeK κ (own.map (·.2))) js ke) (setL en js (vs q.2)) .F (f q.2) σ H Q) :=
    fun s H C cl fp => ⟨fun pins s' σ H' Q I ⟨q, z⟩ => (he s H C cl fp q.1 q.2).pe.run pins s' σ H' Q I z⟩
  refine ⟨PE.wk (pe_lc hc hN hi.pi ok pg pt pe hs) fun σ H Q ⟨G, Ss, st, m⟩ => ?_⟩
  exact tLc_ev st m (fun Z z => ⟨G, Ss, st, z⟩) hux hk hg hjo hj (fun G0 p σ H Q z q e => ⟨⟨G0, p⟩, z⟩) fun G0 p σ H Q z => ⟨⟨G0, p⟩, z⟩
/-- x = [.. for ..] -/
theorem sv_setC {α : Type} {δ : DE α} {rest : List Stmt} {i : Nat} {y : Str} {py spos : Pos} {fr : D → R α} (hN : X.N.Nodup) (hi : EI X W B G0 κ en tg iter k ri) (ok : BlkOk X.N X.env.scope scope own)
    (hg : TgB X scope tg k ρ u js vs ke)
    (ht : ∀ (s : Shared) (H : Hp) (C : Addr) (cl : List (Str × Addr)) (fp : List Addr) (G0 : Hp) (p : ρ), ETs (X.blk s H scope (compEnvC scope cl C X.env) fp) W0 B G0 (setK (wipeK κ (own.map (·.2))) js ke) (setL en js (vs p)) ifs (t p))
    (he : ∀ (s : Shared) (H : Hp) (C : Addr) (cl : List (Str × Addr)) (fp : List Addr) (G0 : Hp) (p : ρ), EV (X.blk s H scope (compEnvC scope cl C X.env) fp) W0 B G0 (setK (wipeK κ (own.map (·.2))) js ke) (setL en js (vs p)) elt .F (f p))
    (hr : ∀ d, SV X W B G0 (κ.set i (.L .F)) (en.set i d) rest δ (fr d))
    (hsw : swapsWith (.ListComp elt [⟨tg, iter, ifs, 0⟩] scope pos) (some (.Name y py)) spos.line X.env = pure true)
    (hc : X.calm = true := by rfl) (hy : X.N[i]? = some y := by rfl) (hyl : X.env.scope.names.lookup y = some .local := by rfl) (hκ : i < κ.length := by first | decide | simp) (hex : δ.ex κ en := by exact True.intro)
    (hk : rig k = true := by rfl) (hjo : ∀ j ∈ js, j ∈ own.map (·.2) := by decide) (hj : ∀ j ∈ js, j < κ.length := by first | decide | simp) (hs : ∀ x, foldedSetIterable iter X.env x = pure x := by intro _; rfl) :
    SV X W B G0 κ en (.Assign [.Name y py] (.ListComp elt [⟨tg, iter, ifs, 0⟩] scope pos) spos :: rest) δ ((pComp ri u t f).bind fr) := by
  obtain ⟨g, hux, pg, hg⟩ := hg
  have pt : ∀ (s : Shared) (H : Hp) (C : Addr) (cl : List (Str × Addr)) (fp : List Addr), PTs (X.blk s H scope (compEnvC scope cl C X.env) fp) ifs (fun σ H Q => ∃ q : Hp × ρ, tET W0 (cf X B q.1) (setK (wipeK κ (own.map (·.2))) js ke) (setL en js (vs q.2)) (t q.2) σ H Q) :=
    fun s H C cl fp => ⟨fun pins s' σ H' Q I ⟨q, z⟩ => (ht s H C cl fp q.1 q.2).pts.run pins s' σ H' Q I z⟩
  have pe : ∀ (s : Shared) (H : Hp) (C : Addr) (cl : List (Str × Addr)) (fp : List Addr), PE (X.blk s H scope (compEnvC scope cl C X.env) fp) elt (fun σ H Q => ∃ q : Hp × ρ, tEV W0 (cf X B q.1) (setK (wipeK κ (own.map (·.2))) js ke) (setL en js (vs q.2)) .F (f q.2) σ H Q) :=
    fun s H C cl fp => ⟨fun pins s' σ H' Q I ⟨q, z⟩ => (he s H C cl fp q.1 q.2).pe.run pins s' σ H' Q I z⟩
  refine ⟨PSs.wk (pss_cons (ps_setLc hc hN hy hyl hsw hi.pi ok pg pt pe hs) (PSs.all fun d => (hr d).ps)) fun Dn σ H ⟨G, Ss, st, m⟩ => ?_⟩
  have m' : mR W (cf X B G0) σ H G (yV (cf X B G0) H (.O (.L .F)) fun x H1 => ∃ d, tSV W (cf X B G0) (κ.set i (.L .F)) (en.set i d) δ (fr d) Dn (σ.set i (some x)) H1) (ri.bind fun xs => (rMapF u (fun p => noX (t p)) (fun p => noX (f p)) xs).bind mkL) :=
    mS.toR st m hex fun d H1 G1 a st1 m1 v S rv => ⟨d, G1, _, st.set a rv hκ, m1⟩
  unfold tSeq tAsg
  exact tLc_ev st m' (fun Z z => ⟨G, Ss, st, z⟩) hux hk hg hjo hj (fun G0 p σ H Q z q e => ⟨⟨G0, p⟩, z⟩) fun G0 p σ H Q z => ⟨⟨G0, p⟩, z⟩
end
end Lw
namespace Lw
open PySem PySem.Spec PyProof.Rows L2
/-! ### calls of built-ins, by values -/
def BfD (K : PySem.W.Frag) (mg : Str → Option Value) (r : List V → Hp → VK → Prop) (pk : List PK) (k : RK) (f : List D → R D) : Prop :=
  ∀ (W : WX) (B G0 : Hp) (κ : List Kd) (en : List D) (σ : L2.St) (H G : Hp) (Ss : Nat → List Addr) (Q : VK) (ds : List D) (vs : List V), St ⟨K, mg, B, G0⟩ κ en σ H G Ss → ArgsR K mg H G pk ds vs → mR W ⟨K, mg, B, G0⟩ σ H G (yV ⟨K, mg, B, G0⟩ H k Q) (f ds) → r vs H Q
section
variable {X : Cx} {W : WX} {B G0 : Hp} {κ : List Kd} {en : List D} {e : Expr} {es : List Expr} {k : RK} {rs : R (List D)} {f : List D → R D} {pk : List PK} {x : Str} {p pos : Pos} {r : List V → Hp → VK → Prop} {id T : String}
theorem tCB_ev {σ : L2.St} {H : Hp} {Q : VK} (hf : BfD X.K X.mg r pk k f) (h : tEV W (cf X B G0) κ en k (rs.bind f) σ H Q) : tCB r (tEA W (cf X B G0) κ en pk rs) σ H Q := by
  obtain ⟨G, Ss, st, m⟩ := h
  exact ⟨G, Ss, st, m.thn fun ds H1 G1 a m vs args => hf W B G0 κ en σ H1 G1 Ss Q ds vs (st.adv a) args (m.imp fun d H' G' _ b y v S z => y v S (z.back a.1))⟩
theorem ev_callB (hc : CallR X (.builtin id) r) (hf : BfD X.K X.mg r pk k f) (ha : EA X W B G0 κ en (e :: es) pk rs) (hm : X.mg x = none) (hv : bootBuiltins x = some (.builtin id)) (hg : Gl X x := by rfl) (hn : x ≠ "__name__" := by decide) (hdb : (x == ("__debug__" : Str)) = false := by decide)
    (he : starEach (e :: es) X.env = (false, eval e X.env) :: starEach es X.env := by rfl) (hpl : (backTo pos (starEach es X.env)).any (·.1) = false := by rfl) : EV X W B G0 κ en (.Call (.Name x p) (e :: es) [] pos) k (rs.bind f) :=
  ⟨PE.wk (pe_callB hc hg hm hv ha.pa hn hdb he hpl) fun σ H Q h => tCB_ev hf h⟩
theorem ev_callTy (hc : CallR X (.type T) r) (hf : BfD X.K X.mg r pk k f) (ha : EA X W B G0 κ en (e :: es) pk rs) (hm : X.mg x = none) (hv : bootBuiltins x = some (.type T)) (hg : Gl X x := by rfl) (hn : x ≠ "__name__" := by decide) (hdb : (x == ("__debug__" : Str)) = false := by decide)
    (he : starEach (e :: es) X.env = (false, eval e X.env) :: starEach es X.env := by rfl) (hpl : (backTo pos (starEach es X.env)).any (·.1) = false := by rfl) : EV X W B G0 κ en (.Call (.Name x p) (e :: es) [] pos) k (rs.bind f) :=
  ⟨PE.wk (pe_callTy hc hg hm hv ha.pa hn hdb he hpl) fun σ H Q h => tCB_ev hf h⟩
end
/-! ### what they give -/
def pLen : List D → R D
  | [.lst xs] => .ok (.int xs.length)
  | [.scr xs] => .ok (.int xs.length)
  | [.tup xs] => .ok (.int xs.length)
  | [.str s] => .ok (.int s.length)
  | _ => .bad
def pMax2 : List D → R D
  | [.int a, .int b] => .ok (.int (if b > a then b else a))
  | _ => .bad
def pMin2 : List D → R D
  | [.int a, .int b] => .ok (.int (if b < a then b else a))
  | _ => .bad
def toInts : List D → Option (List Int)
  | [] => some []
  | .int i :: xs => (toInts xs).map (i :: ·)
  | _ => none
def maxI (a : Int) (xs : List Int) : Int := xs.foldl max a
def minI (a : Int) (xs : List Int) : Int := xs.foldl min a
def pMax1 : List D → R D
  | [.lst xs] => match toInts xs with
    | some (a :: ns) => .ok (.int (maxI a ns))
    | _ => .bad
  | _ => .bad
def pMin1 : List D → R D
  | [.lst xs] => match toInts xs with
    | some (a :: ns) => .ok (.int (minI a ns))
    | _ => .bad
  | _ => .bad
def pSum : List D → R D
  | [.lst xs] => match toInts xs with
    | some ns => .ok (.int ns.sum)
    | _ => .bad
  | _ => .bad
def pInt : List D → R D
  | [.int a] => .ok (.int a)
  | [.bl b] => .ok (.int (if b then 1 else 0))
  | _ => .bad
def pStrI : List D → R D
  | [.int a] => if a.natAbs.log2 < 1920 then .ok (.str (toString a)) else .bad
  | _ => .bad
def pList : List D → R D
  | [.lst xs] => .ok (.lst xs)
  | [.tup xs] => .ok (.lst xs)
  | _ => .bad
def pTuple : List D → R D
  | [.lst xs] => .ok (.tup xs)
  | [.tup xs] => .ok (.tup xs)
  | _ => .bad
/-- the built-in type of a value -/
def tyOf : D → Option String
  | .non => some "NoneType"
  | .bl _ => some "bool"
  | .int _ => some "int"
  | .str _ => some "str"
  | .lst _ => some "list"
  | .scr _ => some "list"
  | .tup _ => some "tuple"
  | .dct _ _ => some "dict"
  | _ => none
def pIsTy (T : String) (d : D) : R D := match tyOf d with
  | some t => .ok (.bl (t == T || (t == "bool" && T == "int")))
  | none => .bad
theorem maxI_spec : ∀ (xs : List Int) (a : Int), (maxI a xs = a ∨ maxI a xs ∈ xs) ∧ a ≤ maxI a xs ∧ ∀ y ∈ xs, y ≤ maxI a xs
  | [], a => ⟨.inl rfl, by unfold maxI; simp, by simp⟩
  | x :: xs, a => by
    obtain ⟨h1, h2, h3⟩ := maxI_spec xs (max a x)
    have e : maxI a (x :: xs) = maxI (max a x) xs := rfl
    rw [e]
    refine ⟨?_, by omega, fun y hy => ?_⟩
    · rcases h1 with h | h
      · rw [h]
        rcases Int.le_total a x with z | z
        · right; rw [Int.max_eq_right z]; exact List.mem_cons_self
        · left; exact Int.max_eq_left z
      · right; exact List.mem_cons_of_mem _ h
    · rcases List.mem_cons.mp hy with z | z
      · subst z; omega
      · exact h3 y z
theorem minI_spec : ∀ (xs : List Int) (a : Int), (minI a xs = a ∨ minI a xs ∈ xs) ∧ minI a xs ≤ a ∧ ∀ y ∈ xs, minI a xs ≤ y
  | [], a => ⟨.inl rfl, by unfold minI; simp, by simp⟩
  | x :: xs, a => by
    obtain ⟨h1, h2, h3⟩ := minI_spec xs (min a x)
    have e : minI a (x :: xs) = minI (min a x) xs := rfl
    rw [e]
    refine ⟨?_, by omega, fun y hy => ?_⟩
    · rcases h1 with h | h
      · rw [h]
        rcases Int.le_total a x with z | z
        · left; exact Int.min_eq_left z
        · right; rw [Int.min_eq_right z]; exact List.mem_cons_self
      · right; exact List.mem_cons_of_mem _ h
    · rcases List.mem_cons.mp hy with z | z
      · subst z; omega
      · exact h3 y z
section
variable {K : PySem.W.Frag} {mg : Str → Option Value} {H G : Hp} {W : WX} {B G0 : Hp} {κ : List Kd} {en : List D} {σ : L2.St} {Q : VK}
theorem toInts_reps : ∀ {xs : List D} {vs : List V} {ns : List Int}, Reps K mg H xs vs → toInts xs = some ns → vs = ns.map V.int
  | [], vs, ns, r, h => by
    have e : vs = [] := r
    cases h
    exact e
  | x :: xs, _, ns, ⟨v, vs, e, r, rs⟩, h => by
    subst e
    cases x with
    | int i =>
      have h' : (toInts xs).map (i :: ·) = some ns := h
      cases q : toInts xs with
      | none => rw [q] at h'; cases h'
      | some ms =>
        rw [q] at h'
        cases h'
        rw [toInts_reps rs q, (show v = .int i from r)] <;> rfl
    | _ => cases h
theorem mR.int {i : Int} {c : Cf} (m : mR W c σ H G (yV c H .F Q) (.ok (.int i))) (s : Same G H) : Q (.int i) H := m H G (.refl s) (.int i) [] ⟨rfl, rfl⟩
theorem mR.sc {d : D} {v : V} {c : Cf} (m : mR W c σ H G (yV c H .F Q) (.ok d)) (s : Same G H) (r : Rep c.K c.mg H d v) (hs : d.sc = true) : Q v H := m H G (.refl s) v [] ⟨r.sc hs G, rfl⟩
theorem ArgsR.one {b : PK} {ds : List D} {vs : List V} (h : ArgsR K mg H G [b] ds vs) : ∃ d v, ds = [d] ∧ vs = [v] ∧ ArgP K mg H G b d v := by
  match ds, vs, h with
  | [d], [v], h => exact ⟨d, v, rfl, rfl, h.1⟩
  | [], [], h => exact h.elim
  | [], _ :: _, h => exact h.elim
  | _ :: _, [], h => exact h.elim
  | _ :: _ :: _, [_], h => exact h.2.elim
  | [_], _ :: _ :: _, h => exact h.2.elim
  | _ :: _ :: _, _ :: _ :: _, h => exact h.2.elim
theorem ArgsR.two {b c : PK} {ds : List D} {vs : List V} (h : ArgsR K mg H G [b, c] ds vs) : ∃ d v d2 v2, ds = [d, d2] ∧ vs = [v, v2] ∧ ArgP K mg H G b d v ∧ ArgP K mg H G c d2 v2 := by
  match ds, vs, h with
  | d :: ds, v :: vs, h =>
    obtain ⟨d2, v2, rfl, rfl, r⟩ := ArgsR.one h.2
    exact ⟨d, v, d2, v2, rfl, rfl, h.1, r⟩
  | [], [], h => exact h.elim
  | [], _ :: _, h => exact h.elim
  | _ :: _, [], h => exact h.elim
theorem bf_len : BfD K mg (fun xs H Q => ∃ x n, xs = [x] ∧ LenV K x H n ∧ Q (.int n) H) [.B] .F pLen := by
  intro W B G0 κ en σ H G Ss Q ds vs st args m
  obtain ⟨d, v, rfl, rfl, r⟩ := args.one
  cases d with
  | lst xs =>
    obtain ⟨a, ws, e, q, rs⟩ := r
    subst e
    exact ⟨_, _, rfl, .inl ⟨ws, SqL.of q, rs.length⟩, mR.int m st.sH⟩
  | scr xs =>
    obtain ⟨a, ws, e, q, rs⟩ := r
    subst e
    exact ⟨_, _, rfl, .inl ⟨ws, q, rs.length⟩, mR.int m st.sH⟩
  | tup xs =>
    obtain ⟨a, ws, e, q, rs⟩ := r
    subst e
    exact ⟨_, _, rfl, .inr ⟨ws, q, rs.length⟩, mR.int m st.sH⟩
  | str s =>
    obtain ⟨e, ok⟩ := r
    subst e
    exact ⟨_, _, rfl, ⟨by rw [sizeLine_eq]; exact sOk_len ok, rfl⟩, mR.int m st.sH⟩
  | _ => exact m.elim
theorem bf_max2 : BfD K mg (fun xs H Q => ∃ i j, xs = [.int i, .int j] ∧ Q (.int (if j > i then j else i)) H) [.B, .B] .F pMax2 := by
  intro W B G0 κ en σ H G Ss Q ds vs st args m
  obtain ⟨d, v, d2, v2, rfl, rfl, r, r2⟩ := args.two
  cases d with
  | int i =>
    cases d2 with
    | int j => exact ⟨i, j, by rw [(show v = .int i from r), (show v2 = .int j from r2)], mR.int m st.sH⟩
    | _ => exact m.elim
  | _ => cases d2 <;> exact m.elim
theorem bf_min2 : BfD K mg (fun xs H Q => ∃ i j, xs = [.int i, .int j] ∧ Q (.int (if j < i then j else i)) H) [.B, .B] .F pMin2 := by
  intro W B G0 κ en σ H G Ss Q ds vs st args m
  obtain ⟨d, v, d2, v2, rfl, rfl, r, r2⟩ := args.two
  cases d with
  | int i =>
    cases d2 with
    | int j => exact ⟨i, j, by rw [(show v = .int i from r), (show v2 = .int j from r2)], mR.int m st.sH⟩
    | _ => exact m.elim
  | _ => cases d2 <;> exact m.elim
theorem bf_max1 : BfD K mg (rMax K) [.B] .F pMax1 := by
  intro W B G0 κ en σ H G Ss Q ds vs st args m
  obtain ⟨d, v, rfl, rfl, r⟩ := args.one
  cases d with
  | lst xs =>
    obtain ⟨a, ws, e, q, rs⟩ := r
    subst e
    have m2 : mR W ⟨K, mg, B, G0⟩ σ H G (yV ⟨K, mg, B, G0⟩ H .F Q) (match toInts xs with
      | some (a :: ns) => .ok (.int (maxI a ns))
      | _ => .bad) := m
    cases ei : toInts xs with
    | none => rw [ei] at m2; exact m2.elim
    | some ns =>
      rw [ei] at m2
      cases ns with
      | nil => exact m2.elim
      | cons n ns =>
        have e2 := toInts_reps rs ei
        subst e2
        obtain ⟨h1, h2, h3⟩ := maxI_spec ns n
        refine ⟨a, n :: ns, rfl, SqL.of q, Nat.succ_pos _, fun x hx hall => ?_⟩
        have e3 : x = maxI n ns := by
          have a1 : x ≤ maxI n ns := by
            rcases List.mem_cons.mp hx with z | z
            · rw [z]; exact h2
            · exact h3 x z
          have a2 : maxI n ns ≤ x := by
            rcases h1 with z | z
            · rw [z]; exact hall n List.mem_cons_self
            · exact hall _ (List.mem_cons_of_mem _ z)
          omega
        subst e3
        exact mR.int m2 st.sH
  | _ => exact m.elim
theorem bf_min1 : BfD K mg (rMin K) [.B] .F pMin1 := by
  intro W B G0 κ en σ H G Ss Q ds vs st args m
  obtain ⟨d, v, rfl, rfl, r⟩ := args.one
  cases d with
  | lst xs =>
    obtain ⟨a, ws, e, q, rs⟩ := r
    subst e
    have m2 : mR W ⟨K, mg, B, G0⟩ σ H G (yV ⟨K, mg, B, G0⟩ H .F Q) (match toInts xs with
      | some (a :: ns) => .ok (.int (minI a ns))
      | _ => .bad) := m
    cases ei : toInts xs with
    | none => rw [ei] at m2; exact m2.elim
    | some ns =>
      rw [ei] at m2
      cases ns with
      | nil => exact m2.elim
      | cons n ns =>
        have e2 := toInts_reps rs ei
        subst e2
        obtain ⟨h1, h2, h3⟩ := minI_spec ns n
        refine ⟨a, n :: ns, rfl, SqL.of q, Nat.succ_pos _, fun x hx hall => ?_⟩
        have e3 : x = minI n ns := by
          have a1 : minI n ns ≤ x := by
            rcases List.mem_cons.mp hx with z | z
            · rw [z]; exact h2
            · exact h3 x z
          have a2 : x ≤ minI n ns := by
            rcases h1 with z | z
            · rw [z]; exact hall n List.mem_cons_self
            · exact hall _ (List.mem_cons_of_mem _ z)
          omega
        subst e3
        exact mR.int m2 st.sH
  | _ => exact m.elim
theorem bf_sum : BfD K mg (rSum K) [.B] .F pSum := by
  intro W B G0 κ en σ H G Ss Q ds vs st args m
  obtain ⟨d, v, rfl, rfl, r⟩ := args.one
  cases d with
  | lst xs =>
    obtain ⟨a, ws, e, q, rs⟩ := r
    subst e
    have m2 : mR W ⟨K, mg, B, G0⟩ σ H G (yV ⟨K, mg, B, G0⟩ H .F Q) (match toInts xs with
      | some ns => .ok (.int ns.sum)
      | _ => .bad) := m
    cases ei : toInts xs with
    | none => rw [ei] at m2; exact m2.elim
    | some ns =>
      rw [ei] at m2
      have e2 := toInts_reps rs ei
      subst e2
      exact ⟨a, ns, rfl, SqL.of q, mR.int m2 st.sH⟩
  | _ => exact m.elim
theorem bf_int : BfD K mg (fun xs H Q => (∃ i, xs = [.int i] ∧ Q (.int i) H) ∨ ∃ k, xs = [.bl k] ∧ Q (.int (if k then 1 else 0)) H) [.B] .F pInt := by
  intro W B G0 κ en σ H G Ss Q ds vs st args m
  obtain ⟨d, v, rfl, rfl, r⟩ := args.one
  cases d with
  | int i => exact .inl ⟨i, by rw [(show v = .int i from r)], mR.int m st.sH⟩
  | bl b => exact .inr ⟨b, by rw [(show v = .bl b from r)], mR.int m st.sH⟩
  | _ => exact m.elim
theorem bf_list : BfD K mg (fun xs H Q => ∃ p ys, xs = [.ref p] ∧ (SqL K H p ys ∨ SqT K H p ys) ∧ ∀ l, H l = none → Q (.ref l) (upd H l (.lst ys))) [.F] (.O (.L .F)) pList := by
  intro W B G0 κ en σ H G Ss Q ds vs st args m
  obtain ⟨d, v, rfl, rfl, r⟩ := args.one
  have fin : ∀ {xs : List D} {ws : List V}, Reps K mg G xs ws → mR W ⟨K, mg, B, G0⟩ σ H G (yV ⟨K, mg, B, G0⟩ H (.O (.L .F)) Q) (.ok (.lst xs)) → ∀ l, H l = none → Q (.ref l) (upd H l (.lst ws)) := fun {xs ws} rs m l hl =>
    m _ G (Adv.newO st.sH hl) (.ref l) [l] ⟨⟨l, ws, xs, [], rfl, rfl, .lst upd_same, AllR.frozen rs⟩, by simp, fun q hq => by
      have e : q = l := by simpa using hq
      subst e
      exact ⟨hl, st.sH.free hl, _, upd_same⟩⟩
  cases d with
  | lst xs =>
    obtain ⟨a, ws, e, q, rs⟩ := r
    subst e
    exact ⟨a, ws, rfl, .inl (SqL.of (st.sH _ _ q)), fin rs m⟩
  | tup xs =>
    obtain ⟨a, ws, e, q, rs⟩ := r
    subst e
    exact ⟨a, ws, rfl, .inr (sqT_mono st.sH q), fin rs m⟩
  | _ => exact m.elim
theorem bf_tuple : BfD K mg (fun xs H Q => ∃ p ys, xs = [.ref p] ∧ ((SqL K H p ys ∧ ∀ l, H l = none → Q (.ref l) (upd H l (.tup ys))) ∨ (SqT K H p ys ∧ Q (.ref p) H))) [.F] .F pTuple := by
  intro W B G0 κ en σ H G Ss Q ds vs st args m
  obtain ⟨d, v, rfl, rfl, r⟩ := args.one
  cases d with
  | lst xs =>
    obtain ⟨a, ws, e, q, rs⟩ := r
    subst e
    refine ⟨a, ws, rfl, .inl ⟨SqL.of (st.sH _ _ q), fun l hl => ?_⟩⟩
    have a1 := Adv.newF (o := .tup ws) st.sH hl
    exact m _ _ a1 (.ref l) [] ⟨⟨l, ws, rfl, SqT.of upd_same, rs.mono a1.2.1⟩, rfl⟩
  | tup xs =>
    obtain ⟨a, ws, e, q, rs⟩ := r
    subst e
    exact ⟨a, ws, rfl, .inr ⟨sqT_mono st.sH q, m H G (.refl st.sH) (.ref a) [] ⟨⟨a, ws, rfl, q, rs⟩, rfl⟩⟩⟩
  | _ => exact m.elim
theorem tyOf_ok {d : D} {v : V} {t : String} (r : Rep K mg H d v) (h : tyOf d = some t) : TyX K H v (.type t) := by
  cases d with
  | non => cases h; cases (show v = .non from r); exact .base .non
  | bl b => cases h; cases (show v = .bl b from r); exact .base (.bl b)
  | int i => cases h; cases (show v = .int i from r); exact .base (.int i)
  | str s => cases h; cases (show v = .str s from r.1); exact .base (.str s)
  | lst xs =>
    cases h
    obtain ⟨a, ws, e, q, rs⟩ := r
    subst e
    exact .base (.lst q)
  | scr xs =>
    cases h
    obtain ⟨a, ws, e, q, rs⟩ := r
    subst e
    rcases q with (q | ⟨o, q⟩) | ⟨o, its, n, q1, q2, _⟩
    · exact .base (.lst q)
    · exact .base (.frz q)
    · exact .kList q1 q2
  | tup xs =>
    cases h
    obtain ⟨a, ws, e, q, rs⟩ := r
    subst e
    rcases q with (q | ⟨o, q⟩) | ⟨o, its, n, q1, q2, _⟩
    · exact .base (.tup q)
    · exact .fTuple q
    · exact .kTuple q1 q2
  | dct ks xs =>
    cases h
    obtain ⟨a, e, kvs, q, _⟩ := r
    subst e
    rcases q with q | ⟨o, q⟩
    · exact .base (.dK q)
    · exact .fDict q
  | _ => cases h
end
/-- isinstance(e, T), T a built-in type -/
theorem kit_types : ∀ t ∈ ["NoneType", "bool", "int", "str", "list", "tuple", "dict"], ∀ T ∈ ["bool", "int", "str", "list", "tuple", "dict"], ∀ K : PySem.W.Frag, PySem.W.kitOne K (.type t) (.type T) = some (t == T || (t == "bool" && T == "int")) := by
  intro t ht T hT K
  simp only [List.mem_cons, List.not_mem_nil, or_false] at ht hT
  rcases ht with rfl | rfl | rfl | rfl | rfl | rfl | rfl <;> rcases hT with rfl | rfl | rfl | rfl | rfl | rfl <;> kernel_rfl
theorem tyOf_mem {d : D} {t : String} (h : tyOf d = some t) : t ∈ ["NoneType", "bool", "int", "str", "list", "tuple", "dict"] := by
  cases d <;> simp [tyOf] at h <;> subst h <;> simp
section
variable {X : Cx} {W : WX} {B G0 : Hp} {κ : List Kd} {en : List D} {e : Expr} {k : RK} {r : R D} {p p2 pos : Pos} {T : String} {y : Str}
theorem ev_isTy (h : EV X W B G0 κ en e k r) (hm : X.mg "isinstance" = none) (hmT : X.mg y = none) (hv : bootBuiltins y = some (.type T)) (hT : T ∈ ["bool", "int", "str", "list", "tuple", "dict"] := by simp) (hg : Gl X "isinstance" := by rfl) (hgT : Gl X y := by rfl) (hn : y ≠ "__name__" := by decide) (hdb : (y == ("__debug__" : Str)) = false := by decide)
    (he : starEach [e, .Name y p2] X.env = (false, eval e X.env) :: starEach [.Name y p2] X.env := by rfl) (he2 : starEach [.Name y p2] X.env = (false, eval (.Name y p2) X.env) :: starEach [] X.env := by rfl) (hpl : (backTo pos (starEach [.Name y p2] X.env)).any (·.1) = false := by rfl) :
    EV X W B G0 κ en (.Call (.Name "isinstance" p) [e, .Name y p2] [] pos) .F (r.bind (pIsTy T)) :=
  ⟨PE.wk (pe_callB call_isi hg hm (by decide +kernel) (pa_cons h.pe (pa_cons (pe_bltn (v := .ty T) hgT hmT hv rfl hn hdb) pa_nil he2) he) (he := he) (hpl := hpl)) fun σ H Q ⟨G, Ss, st, m⟩ => tEVb st m _ fun d v H1 G1 S _ a st1 rv m1 => by
    have rd := st1.rd rv
    have m2 : mR W (cf X B G0) σ H1 G1 (yV (cf X B G0) H1 .F Q) (match tyOf d with
      | some t => .ok (.bl (t == T || (t == "bool" && T == "int")))
      | none => .bad) := m1
    cases et : tyOf d with
    | none => rw [et] at m2; exact m2.elim
    | some t =>
      rw [et] at m2
      exact ⟨v, .ty T, .type t, .type T, _, rfl, .ty T, tyOf_ok rd et, kit_types t (tyOf_mem et) T hT _, m2 H1 G1 (.refl st1.sH) _ [] ⟨rfl, rfl⟩⟩⟩
end
end Lw
namespace Lw
open PySem PySem.Spec PyProof.Rows L2
theorem u65 {k : Nat} {A : Around} (r : Room k A) : A.units + 65 < cLine := by have := r.un; omega
theorem FM.mono {P : Program} {w : World} {K : PySem.W.Frag} {mg : Str → Option Value} {base : Heap} {j k : Nat} {cl m : Str} {f : List D → R D} {pk : List PK} {rk : RK} (F : FM P w K mg base j cl m f pk rk) (h : j ≤ k) : FM P w K mg base k cl m f pk rk := by
  obtain ⟨C, fa, fd, ps, h1, h2, h3, h4, h5⟩ := F
  exact ⟨C, fa, fd, ps, h1, h2, h3, h4, h5.mono h⟩
theorem FD.mono {P : Program} {w : World} {K : PySem.W.Frag} {mg : Str → Option Value} {base : Heap} {j k : Nat} {x : Str} {f : List D → R D} {pk : List PK} {rk : RK} (F : FD P w K mg base j x f pk rk) (h : j ≤ k) : FD P w K mg base k x f pk rk := by
  obtain ⟨fa, fd, ps, h1, h2, h3, h4⟩ := F
  exact ⟨fa, fd, ps, h1, h2, h3, h4.mono h⟩
section
variable {α : Type} {X : Cx} {W : WX} {B G0 : Hp} {κ : List Kd} {en : List D} {δ : DE α} {pos : Pos} {rest : List Stmt} {a : α}
/-- break | continue -/
theorem sv_brk (h : δ.bk κ en a) : SV X W B G0 κ en (.Break pos :: rest) δ (.ok a) := ⟨PSs.wk (pss_cons ps_break pss_never) fun Dn σ H ⟨G, Ss, st, m⟩ => m.2.2.1 _ _ _ _ _ _ st h⟩
theorem sv_cnt (h : δ.ct κ en a) : SV X W B G0 κ en (.Continue pos :: rest) δ (.ok a) := ⟨PSs.wk (pss_cons ps_continue pss_never) fun Dn σ H ⟨G, Ss, st, m⟩ => m.2.2.2 _ _ _ _ _ _ st h⟩
end
end Lw
namespace Lw
open PySem PySem.Spec PyProof.Rows L2
/-! ### more that is walked -/
def toLs : D → R (List D)
  | .lst xs => .ok xs
  | .scr xs => .ok xs
  | _ => .bad
def enumL (xs : List D) : List D := xs.mapIdx fun i x => D.tup [.int (i : Nat), x]
def zipL (xs ys : List D) : List D := List.zipWith (fun x y => D.tup [x, y]) xs ys
def chrL (s : Str) : List D := s.cps.toList.map fun c => D.str ⟨#[c]⟩
def rngC (lo c : Int) (n : Nat) : List D := (List.range n).map fun (i : Nat) => D.int (lo + (i : Nat) * c)
def toChr : D → R (List D)
  | .str s => .ok (chrL s)
  | _ => .bad
def pRange3 : D → D → D → R (List D)
  | .int i, .int j, .int c => if c ≠ 0 ∧ c.natAbs < 1073741824 ∧ Builtin.Range.small i j c = true ∧ 0 ≤ Builtin.Range.rangeSize i j c then .ok (rngC i c (Builtin.Range.rangeSize i j c).toNat) else .bad
  | _, _, _ => .bad
section
variable {X : Cx} {W : WX} {B G0 : Hp} {κ : List Kd} {en : List D} {e a b c tg : Expr} {k ka kb kc : RK} {r ra rb rc : R D} {p pos tpos : Pos} {elts : List Expr} {kk : Nat}
/-- a frozen list at hand -/
theorem RV.lsF {c : Cf} {H0 H G : Hp} {d : D} {v : V} {S : List Addr} {xs : List D} (h : RV c H0 H G .F d v S) (e : toLs d = .ok xs) : ∃ a vs, v = .ref a ∧ SqL c.K G a vs ∧ Reps c.K c.mg G xs vs := by
  cases d with
  | lst ys =>
    cases e
    obtain ⟨a, vs, e, q, r⟩ := h.1
    exact ⟨a, vs, e, SqL.of q, r⟩
  | scr ys =>
    cases e
    obtain ⟨a, vs, e, q, r⟩ := h.1
    exact ⟨a, vs, e, q, r⟩
  | _ => cases e
theorem sqL_uniq {K : PySem.W.Frag} {H : Hp} {a : Addr} {ys : List V} {i : Nat} {x y : V} (hx : ∀ zs, SqL K H a zs → zs[i]? = some x) (h : SqL K H a ys) (e : ys[i]? = some y) : x = y := by
  have z := hx ys h
  rw [e] at z
  cases z
  rfl
theorem walks_enum {c : Cf} {G1 : Hp} {xs : List D} {a : Addr} {vs : List V} (hq : SqL c.K G1 a vs) (rs : Reps c.K c.mg G1 xs vs) : Walks c .F (enumL xs) (Ite c.K a) G1 := fun H G s1 s2 s3 => by
  have hqH : SqL c.K H a vs := sqL_mono (s1.trans s2) hq
  have rG := rs.mono s1
  refine ⟨fun i hi => ⟨vs, hqH, by rw [← rs.length]; simpa [enumL] using hi⟩, fun i d hd => ?_⟩
  unfold enumL at hd
  rw [List.getElem?_mapIdx] at hd
  obtain ⟨x, hx, rfl⟩ := Option.map_eq_some_iff.mp hd
  obtain ⟨w, ew, rw'⟩ := rG.get hx
  refine ⟨⟨vs, w, hqH, ew⟩, fun v H' ⟨T, y, ev, hT, eH, hy⟩ => ?_⟩
  have e1 := sqL_uniq hy hqH ew
  subst e1 ev eH
  have a1 := Adv.newF (o := .tup [.int (i : Nat), y]) s2 hT
  exact ⟨_, a1, ⟨T, _, rfl, SqT.of upd_same, .cons rfl (.cons (rw'.mono a1.2.1) .nil)⟩, rfl⟩
theorem toLs_ok {d : D} {z : R (List D)} (e : toLs d = z) : (∃ xs, z = .ok xs) ∨ z = .bad := by
  cases d <;> first | exact .inl ⟨_, e.symm⟩ | exact .inr e.symm
theorem ei_enum (h : EV X W B G0 κ en a .F r) (hm : X.mg "enumerate" = none) (hg : Gl X "enumerate" := by rfl) (hs : starEach [a] X.env = [(false, eval a X.env)] := by rfl) :
    EI X W B G0 κ en (.Tuple elts kk tpos) (.Call (.Name "enumerate" p) [a] [] pos) .F (r.bind fun d => (toLs d).bind fun xs => .ok (enumL xs)) :=
  ⟨PI.wk (pi_enum hg hm (pa_cons h.pe pa_nil (by rw [hs] <;> rfl)) hs) fun σ H Z ⟨G, Ss, st, m⟩ => tEXb st m _ fun d v H1 G1 S _ a st1 rv m1 => by
    rcases toLs_ok (rfl : toLs d = toLs d) with ⟨xs, e⟩ | e
    · rw [e] at m1
      obtain ⟨p, vs, ev, q, rs⟩ := rv.lsF e
      subst ev
      exact ⟨p, vs, rfl, sqL_mono st1.sH q, m1 H1 G1 (.refl st1.sH) _ (walks_enum q rs)⟩
    · rw [e] at m1
      exact m1.elim⟩
theorem walks_zip {c : Cf} {G1 : Hp} {xs ys : List D} {a b : Addr} {vs ws : List V} (hq : SqL c.K G1 a vs) (rs : Reps c.K c.mg G1 xs vs) (hq2 : SqL c.K G1 b ws) (rs2 : Reps c.K c.mg G1 ys ws) : Walks c .F (zipL xs ys) (Itz c.K a b) G1 := fun H G s1 s2 s3 => by
  have hqH : SqL c.K H a vs := sqL_mono (s1.trans s2) hq
  have hqH2 : SqL c.K H b ws := sqL_mono (s1.trans s2) hq2
  have rG := rs.mono s1
  have rG2 := rs2.mono s1
  refine ⟨fun i hi => ⟨vs, ws, hqH, hqH2, ?_⟩, fun i d hd => ?_⟩
  · unfold zipL at hi
    rw [List.length_zipWith, rs.length, rs2.length] at hi
    omega
  unfold zipL at hd
  obtain ⟨x, y, hx, hy, rfl⟩ : ∃ x y, xs[i]? = some x ∧ ys[i]? = some y ∧ d = D.tup [x, y] := by
    rw [List.getElem?_zipWith] at hd
    cases e1 : xs[i]? with
    | none => rw [e1] at hd; cases hd
    | some x =>
      cases e2 : ys[i]? with
      | none => rw [e1, e2] at hd; cases hd
      | some y =>
        rw [e1, e2] at hd
        exact ⟨x, y, rfl, rfl, (Option.some.inj hd).symm⟩
  obtain ⟨w, ew, rw'⟩ := rG.get hx
  obtain ⟨w2, ew2, rw2⟩ := rG2.get hy
  refine ⟨⟨vs, ws, w, w2, hqH, hqH2, ew, ew2⟩, fun v H' ⟨T, y1, y2, ev, hT, eH, hy1, hy2⟩ => ?_⟩
  have e1 := sqL_uniq hy1 hqH ew
  have e2 := sqL_uniq hy2 hqH2 ew2
  subst e1 e2 ev eH
  have a1 := Adv.newF (o := .tup [y1, y2]) s2 hT
  exact ⟨_, a1, ⟨T, _, rfl, SqT.of upd_same, .cons (rw'.mono a1.2.1) (.cons (rw2.mono a1.2.1) .nil)⟩, rfl⟩
theorem ei_zip (h : EV X W B G0 κ en a .F ra) (h2 : EV X W B G0 κ en b .F rb) (hm : X.mg "zip" = none) (hg : Gl X "zip" := by rfl) (hs : starEach [a, b] X.env = (false, eval a X.env) :: starEach [b] X.env := by rfl) (hs2 : starEach [b] X.env = (false, eval b X.env) :: starEach [] X.env := by rfl) (hpl : (backTo pos (starEach [b] X.env)).any (·.1) = false := by rfl) :
    EI X W B G0 κ en (.Tuple elts kk tpos) (.Call (.Name "zip" p) [a, b] [] pos) .F (R.bin2 ra rb fun d d2 => (toLs d).bind fun xs => (toLs d2).bind fun ys => .ok (zipL xs ys)) :=
  ⟨PI.wk (pi_zip hg hm (pa_cons h.pe (pa_cons h2.pe pa_nil hs2) hs) hs hpl) fun σ H Z ⟨G, Ss, st, m⟩ => tEXb st m _ fun d v H1 G1 S _ a st1 rv m1 => tEXb st1 m1 _ fun d2 v2 H2 G2 S2 _ a2 st2 rv2 m2 => by
    rcases toLs_ok (rfl : toLs d = toLs d) with ⟨xs, e⟩ | e
    · rcases toLs_ok (rfl : toLs d2 = toLs d2) with ⟨ys, e2⟩ | e2
      · simp only [e, e2] at m2
        obtain ⟨p, vs, ev, q, rs⟩ := (rv.adv a2 (by intro _ z; cases z)).lsF e
        obtain ⟨p2, vs2, ev2, q2, rs2⟩ := rv2.lsF e2
        subst ev ev2
        exact ⟨p, p2, vs, vs2, rfl, sqL_mono st2.sH q, sqL_mono st2.sH q2, m2 H2 G2 (.refl st2.sH) _ (walks_zip q rs q2 rs2)⟩
      · simp only [e, e2] at m2
        exact m2.elim
    · simp only [e] at m2
      exact m2.elim⟩
theorem walks_rev {c : Cf} {G1 : Hp} {xs : List D} {a : Addr} {vs : List V} (hq : SqL c.K G1 a vs) (rs : Reps c.K c.mg G1 xs vs) : Walks c .F xs.reverse (Itv c.K a vs.length) G1 := fun H G s1 s2 s3 => by
  have hqH : SqL c.K H a vs := sqL_mono (s1.trans s2) hq
  have rG := rs.mono s1
  refine ⟨fun i hi => by rw [List.length_reverse, rs.length] at hi; exact hi, fun i d hd => ?_⟩
  have hi : i < xs.length := by
    have := (List.getElem?_eq_some_iff.mp hd).1
    simpa using this
  rw [List.getElem?_reverse hi] at hd
  obtain ⟨w, ew, rw'⟩ := rG.get hd
  rw [rs.length] at ew hi
  refine ⟨⟨hi, vs, w, hqH, ew⟩, fun v H' ⟨eH, hy⟩ => ?_⟩
  have e1 := hy vs hqH
  rw [ew] at e1
  cases e1
  subst eH
  exact ⟨G, .refl s2, rw', rfl⟩
theorem ei_rev (h : EV X W B G0 κ en a .F r) (hm : X.mg "reversed" = none) (hg : Gl X "reversed" := by rfl) (hs : starEach [a] X.env = [(false, eval a X.env)] := by rfl) :
    EI X W B G0 κ en tg (.Call (.Name "reversed" p) [a] [] pos) .F (r.bind fun d => (toLs d).bind fun xs => .ok xs.reverse) :=
  ⟨PI.wk (pi_reversed hg hm (pa_cons h.pe pa_nil (by rw [hs] <;> rfl)) hs) fun σ H Z ⟨G, Ss, st, m⟩ => tEXb st m _ fun d v H1 G1 S _ a st1 rv m1 => by
    rcases toLs_ok (rfl : toLs d = toLs d) with ⟨xs, e⟩ | e
    · rw [e] at m1
      obtain ⟨p, vs, ev, q, rs⟩ := rv.lsF e
      subst ev
      exact ⟨p, vs, rfl, sqL_mono st1.sH q, m1 H1 G1 (.refl st1.sH) _ (walks_rev q rs)⟩
    · rw [e] at m1
      exact m1.elim⟩
theorem walks_str {c : Cf} {G1 : Hp} {s : Str} (hs : sOk s = true) : Walks c .F (chrL s) (Its s) G1 := fun H G s1 s2 s3 => by
  refine ⟨fun i hi => (show s.cps.size ≤ i by simpa [chrL] using hi), fun i d hd => ?_⟩
  unfold chrL at hd
  rw [List.getElem?_map] at hd
  obtain ⟨x, hx, rfl⟩ := Option.map_eq_some_iff.mp hd
  have hi : i < s.cps.size := by
    have := (List.getElem?_eq_some_iff.mp hx).1
    simpa using this
  refine ⟨hi, fun v H' ⟨eH, y, hy, ev⟩ => ?_⟩
  have e1 : x = y := by
    rw [Array.getElem?_toList] at hx
    rw [hx] at hy
    exact Option.some.inj hy
  subst e1 ev eH
  have ok : sOk ⟨#[x]⟩ = true := sOk_sign (i := (i : Int)) hs (by
    unfold atI ixN
    have h0 : (0 : Int) ≤ i := by omega
    have h1 : (i : Int) < s.cps.toList.length := by simpa using hi
    rw [if_pos h0, if_pos h1]
    simpa using hx)
  exact ⟨G, .refl s2, ⟨rfl, ok⟩, rfl⟩
theorem ei_str (h : EV X W B G0 κ en a k r) : EI X W B G0 κ en tg a .F (r.bind toChr) :=
  ⟨PI.wk (pi_str h.pe) fun σ H Z ⟨G, Ss, st, m⟩ => tEXb st m _ fun d v H1 G1 S _ a st1 rv m1 => by
    have rd := st1.rd rv
    cases d with
    | str s => exact ⟨s, rd.1, m1 H1 G1 (.refl st1.sH) _ (walks_str rd.2)⟩
    | _ => exact m1.elim⟩
theorem walks_rngC {c : Cf} {G1 : Hp} {lo s : Int} {n : Nat} : Walks c .F (rngC lo s n) (Itc lo s n) G1 := fun H G s1 s2 s3 =>
  ⟨fun i hi => (show n ≤ i by simpa [rngC] using hi), fun i d hd => by
    unfold rngC at hd
    rw [List.getElem?_map] at hd
    obtain ⟨x, hx, rfl⟩ := Option.map_eq_some_iff.mp hd
    have hi : i < n := by
      have := (List.getElem?_eq_some_iff.mp hx).1
      simpa using this
    rw [List.getElem?_range hi] at hx
    cases hx
    exact ⟨hi, fun v H' ⟨e1, e2⟩ => by subst e1 e2; exact ⟨G, .refl s2, rfl, rfl⟩⟩⟩
theorem ei_range3 (h : EV X W B G0 κ en a ka ra) (h2 : EV X W B G0 κ en b kb rb) (h3 : EV X W B G0 κ en c kc rc) (hm : X.mg "range" = none) (hg : Gl X "range" := by rfl) (hs : starEach [a, b, c] X.env = (false, eval a X.env) :: starEach [b, c] X.env := by rfl)
    (hs2 : starEach [b, c] X.env = (false, eval b X.env) :: starEach [c] X.env := by rfl) (hs3 : starEach [c] X.env = (false, eval c X.env) :: starEach [] X.env := by rfl) (hpl : (backTo pos (starEach [b, c] X.env)).any (·.1) = false := by rfl) :
    EI X W B G0 κ en tg (.Call (.Name "range" p) [a, b, c] [] pos) .F (ra.bind fun x => rb.bind fun y => rc.bind fun z => pRange3 x y z) :=
  ⟨PI.wk (pi_range3 hg hm (pa_cons h.pe (pa_cons h2.pe (pa_cons h3.pe pa_nil hs3) hs2) hs) hs hpl) fun σ H Z ⟨G, Ss, st, m⟩ => tEXb st m _ fun d v H1 G1 S _ a st1 rv m1 => tEXb st1 m1 _ fun d2 v2 H2 G2 S2 _ a2 st2 rv2 m2 => tEXb st2 m2 _ fun d3 v3 H3 G3 S3 _ a3 st3 rv3 m3 => by
    have rd := ((st1.rd rv).mono a2.1).mono a3.1
    have rd2 := (st2.rd rv2).mono a3.1
    have rd3 := st3.rd rv3
    cases d with
    | int i =>
      cases d2 with
      | int j =>
        cases d3 with
        | int c =>
          have m4 : mR W (cf X B G0) σ H3 G3 (fun xs H' G' => ∀ J, Walks (cf X B G0) .F xs J G' → Z J H') (if c ≠ 0 ∧ c.natAbs < 1073741824 ∧ Builtin.Range.small i j c = true ∧ 0 ≤ Builtin.Range.rangeSize i j c then .ok (rngC i c (Builtin.Range.rangeSize i j c).toNat) else .bad) := m3
          by_cases hc : c ≠ 0 ∧ c.natAbs < 1073741824 ∧ Builtin.Range.small i j c = true ∧ 0 ≤ Builtin.Range.rangeSize i j c
          · rw [if_pos hc] at m4
            exact ⟨i, j, c, _, by rw [rd, rd2, rd3], ⟨hc.1, hc.2.1, hc.2.2.1, (Int.toNat_of_nonneg hc.2.2.2).symm⟩, m4 H3 G3 (.refl st3.sH) _ walks_rngC⟩
          · rw [if_neg hc] at m4
            exact m4.elim
        | _ => exact m3.elim
      | _ => cases d3 <;> exact m3.elim
    | _ => cases d2 <;> cases d3 <;> exact m3.elim⟩
/-! ### slices -/
def cutD {α : Type} (xs : List α) (lo hi : Option Int) : List α := (xs.drop (HT.sIx xs.length 0 lo)).take (HT.sIx xs.length xs.length hi - HT.sIx xs.length 0 lo)
def toI : D → R (Option Int)
  | .int i => .ok (some i)
  | _ => .bad
structure EO (X : Cx) (W : WX) (B G0 : Hp) (κ : List Kd) (en : List D) (e : Option Expr) (r : R (Option Int)) : Prop where
  po : PO X e fun σ H Q => ∃ G Ss, St (cf X B G0) κ en σ H G Ss ∧ mR W (cf X B G0) σ H G (fun o H' _ => Q o H') r
theorem PO.wk {X : Cx} {e : Option Expr} {t t' : TO} (h : PO X e t) (f : ∀ σ H Q, t' σ H Q → t σ H Q) : PO X e t' := ⟨fun pins s σ H Q I q => h.run pins s σ H Q I (f σ H Q q)⟩
theorem eo_none : EO X W B G0 κ en none (.ok none) := ⟨PO.wk po_none fun σ H Q ⟨G, Ss, st, m⟩ => m H G (.refl st.sH)⟩
theorem eo_some (h : EV X W B G0 κ en a k r) : EO X W B G0 κ en (some a) (r.bind toI) :=
  ⟨PO.wk (po_some h.pe) fun σ H Q ⟨G, Ss, st, m⟩ => tEXb st m _ fun d v H1 G1 S _ a st1 rv m1 => by
    have rd := st1.rd rv
    cases d with
    | int i => exact ⟨i, rd, m1 H1 G1 (.refl st1.sH)⟩
    | _ => exact m1.elim⟩
theorem Reps.cut {K : PySem.W.Frag} {mg : Str → Option Value} {G : Hp} {ds : List D} {vs : List V} {lo hi : Option Int} (h : Reps K mg G ds vs) : Reps K mg G (cutD ds lo hi) (cutV vs lo hi) := by
  unfold cutD cutV
  rw [h.length]
  exact (h.drop _).take _
def pSlL (d : D) (lo hi : Option Int) : R D := (toLs d).bind fun xs => .ok (.lst (cutD xs lo hi))
def pSlT : D → Option Int → Option Int → R D
  | .tup xs, lo, hi => .ok (.tup (cutD xs lo hi))
  | _, _, _ => .bad
def pSlS : D → Option Int → Option Int → R D
  | .str z, lo, hi => .ok (.str (cutS z lo hi))
  | _, _, _ => .bad
/-- first a value, then two parts -/
def sl3 (r : R D) (l h : R (Option Int)) (f : D → Option Int → Option Int → R D) : R D := r.bind fun d => l.bind fun lo => h.bind fun hi => f d lo hi
variable {lo hi : Option Expr} {rl rh : R (Option Int)} {p2 : Pos}
theorem mR_po {α : Type} {σ : L2.St} {H G : Hp} {Ss : Nat → List Addr} {ro : R (Option Int)} {f : Option Int → R α} {Y : α → Hp → Hp → Prop} {Z : Option Int → Hp → Prop} (st : St (cf X B G0) κ en σ H G Ss) (m : mR W (cf X B G0) σ H G Y (ro.bind f))
    (h : ∀ o H1 G1, Adv H G G1 H1 → St (cf X B G0) κ en σ H1 G1 Ss → mR W (cf X B G0) σ H1 G1 Y (f o) → Z o H1) : ∃ G Ss, St (cf X B G0) κ en σ H G Ss ∧ mR W (cf X B G0) σ H G (fun o H' _ => Z o H') ro :=
  ⟨G, Ss, st, m.bind.imp fun o H1 G1 _ a q => h o H1 G1 a (st.adv a) (q a)⟩
theorem ev_slL (he : EV X W B G0 κ en e .F r) (hl : EO X W B G0 κ en lo rl) (hh : EO X W B G0 κ en hi rh) : EV X W B G0 κ en (.Subscript e (.Slice lo hi none p2) pos) (.O (.L .F)) (sl3 r rl rh pSlL) :=
  ⟨PE.wk (pe_slice sl_list he.pe hl.po hh.po) fun σ H Q ⟨G, Ss, st, m⟩ => tEVb st m _ fun d v H1 G1 S _ a st1 rv m1 => mR_po st1 m1 fun o H2 G2 a2 st2 m2 => mR_po st2 m2 fun o2 H3 G3 a3 st3 m3 => by
    rcases toLs_ok (rfl : toLs d = toLs d) with ⟨xs, e⟩ | e
    · unfold pSlL at m3
      rw [e] at m3
      obtain ⟨p, vs, ev, q, rs⟩ := ((rv.adv a2 (by intro _ z; cases z)).adv a3 (by intro _ z; cases z)).lsF e
      subst ev
      refine ⟨p, vs, rfl, sqL_mono st3.sH q, fun l hl => ?_⟩
      have m4 : mR W (cf X B G0) σ H3 G3 (yV (cf X B G0) H1 (.O (.L .F)) Q) (.ok (.lst (cutD xs o o2))) := m3
      refine m4 _ G3 (Adv.newO st3.sH hl) (.ref l) [l] ⟨⟨l, cutV vs o o2, cutD xs o o2, [], rfl, rfl, .lst upd_same, AllR.frozen rs.cut⟩, by simp, fun q hq => ?_⟩
      have e : q = l := by simpa using hq
      subst e
      exact ⟨(a2.1.trans a3.1).free hl, st3.sH.free hl, _, upd_same⟩
    · unfold pSlL at m3
      rw [e] at m3
      exact m3.elim⟩
theorem ev_slT (he : EV X W B G0 κ en e .F r) (hl : EO X W B G0 κ en lo rl) (hh : EO X W B G0 κ en hi rh) : EV X W B G0 κ en (.Subscript e (.Slice lo hi none p2) pos) .F (sl3 r rl rh pSlT) :=
  ⟨PE.wk (pe_slice sl_tupA he.pe hl.po hh.po) fun σ H Q ⟨G, Ss, st, m⟩ => tEVb st m _ fun d v H1 G1 S _ a st1 rv m1 => mR_po st1 m1 fun o H2 G2 a2 st2 m2 => mR_po st2 m2 fun o2 H3 G3 a3 st3 m3 => by
    cases d with
    | tup xs =>
      obtain ⟨⟨p, vs, ev, q, rs⟩, _⟩ := (rv.adv a2 (by intro _ z; cases z)).adv a3 (by intro _ z; cases z)
      subst ev
      have m4 : mR W (cf X B G0) σ H3 G3 (yV (cf X B G0) H1 .F Q) (.ok (.tup (cutD xs o o2))) := m3
      refine ⟨p, vs, rfl, sqT_mono st3.sH q, fun hw => ?_, fun _ l hl => ?_⟩
      · refine m4 H3 G3 (.refl st3.sH) (.ref p) [] ⟨⟨p, vs, rfl, q, ?_⟩, rfl⟩
        have e : cutD xs o o2 = xs := by
          unfold cutD
          rw [rs.length, hw.1, hw.2]
          rw [List.drop_zero, Nat.sub_zero, List.take_of_length_le (by rw [rs.length]; exact Nat.le_refl _)]
        rw [e]
        exact rs
      · have a4 := Adv.newF (o := .tup (cutV vs o o2)) st3.sH hl
        exact m4 _ _ a4 (.ref l) [] ⟨⟨l, _, rfl, SqT.of upd_same, rs.cut.mono a4.2.1⟩, rfl⟩
    | _ => exact m3.elim⟩
theorem all_takeP {α : Type} {p : α → Bool} {l : List α} {n : Nat} (h : l.all p = true) : (l.take n).all p = true := List.all_eq_true.mpr fun x hx => List.all_eq_true.mp h x (List.mem_of_mem_take hx)
theorem all_dropP {α : Type} {p : α → Bool} {l : List α} {n : Nat} (h : l.all p = true) : (l.drop n).all p = true := List.all_eq_true.mpr fun x hx => List.all_eq_true.mp h x (List.mem_of_mem_drop hx)
theorem sOk_cut {z : Str} {o o2 : Option Int} (h : sOk z = true) : sOk (cutS z o o2) = true := by
  refine sOk_mk ?_ (Nat.le_trans (cutS_length z o o2) (sOk_len h))
  have q := sOk_cps h
  unfold PyData.strOk at *
  rw [← Array.all_toList] at *
  exact all_takeP (all_dropP q)
theorem ev_slS (he : EV X W B G0 κ en e k r) (hl : EO X W B G0 κ en lo rl) (hh : EO X W B G0 κ en hi rh) : EV X W B G0 κ en (.Subscript e (.Slice lo hi none p2) pos) .F (sl3 r rl rh pSlS) :=
  ⟨PE.wk (pe_slice sl_str he.pe hl.po hh.po) fun σ H Q ⟨G, Ss, st, m⟩ => tEVb st m _ fun d v H1 G1 S _ a st1 rv m1 => mR_po st1 m1 fun o H2 G2 a2 st2 m2 => mR_po st2 m2 fun o2 H3 G3 a3 st3 m3 => by
    have rd := st1.rd rv
    cases d with
    | str z => exact ⟨z, rd.1, by rw [sizeLine_eq]; exact sOk_len rd.2, m3 H3 G3 (.refl st3.sH) _ [] ⟨⟨rfl, sOk_cut rd.2⟩, rfl⟩⟩
    | _ => exact m3.elim⟩
end
end Lw
namespace Lw
open PySem PySem.Spec PyProof.Rows L2
/-! ### list + list, tuple + tuple, list * int -/
def pCatL : D → D → R D
  | .lst xs, .lst ys => if xs.length + ys.length ≤ 16777216 then .ok (.lst (xs ++ ys)) else .bad
  | _, _ => .bad
def pCatT : D → D → R D
  | .tup xs, .tup ys => if xs.length + ys.length ≤ 16777216 then .ok (.tup (xs ++ ys)) else .bad
  | _, _ => .bad
def pRepL : D → D → R D
  | .lst xs, .int k => if -(2 ^ 63) ≤ k ∧ k < 2 ^ 63 ∧ xs.length * k.toNat ≤ 16777216 then .ok (.lst (List.replicate k.toNat xs).flatten) else .bad
  | _, _ => .bad
section
variable {X : Cx} {W : WX} {B G0 : Hp} {κ : List Kd} {en : List D} {e a b c : Expr} {k ka kb kc : RK} {r ra rb rc : R D} {pos : Pos}
theorem mk_list {cc : Cf} {σ : L2.St} {H0 H G : Hp} {Q : VK} {ds : List D} {vs : List V} (m : mR W cc σ H G (yV cc H0 (.O (.L .F)) Q) (.ok (.lst ds))) (sG : Same G H) (s0 : Same H0 H) (r : Reps cc.K cc.mg G ds vs) : ∀ p, H p = none → Q (.ref p) (upd H p (.lst vs)) := fun p hp =>
  m _ G (Adv.newO sG hp) (.ref p) [p] ⟨⟨p, vs, ds, [], rfl, rfl, .lst upd_same, AllR.frozen r⟩, by simp, fun q hq => by
    have e : q = p := by simpa using hq
    subst e
    exact ⟨s0.free hp, sG.free hp, _, upd_same⟩⟩
theorem ev_catL (ha : EV X W B G0 κ en a .F ra) (hb : EV X W B G0 κ en b .F rb) : EV X W B G0 κ en (.BinOp a .Add b pos) (.O (.L .F)) (R.bin2 ra rb pCatL) :=
  ⟨PE.wk (pe_op op_cat ha.pe hb.pe) fun σ H Q ⟨G, Ss, st, m⟩ => tEVb st m _ fun d v H1 G1 S _ a1 st1 rv m1 => tEVb st1 m1 _ fun d2 v2 H2 G2 S2 _ a2 st2 rv2 m2 => by
    have rv' := rv.adv a2 (by intro _ z; cases z)
    cases d with
    | lst xs =>
      cases d2 with
      | lst ys =>
        obtain ⟨⟨p, vs, ev, q, rs⟩, _⟩ := rv'
        obtain ⟨⟨p2, vs2, ev2, q2, rs2⟩, _⟩ := rv2
        subst ev ev2
        have m3 : mR W (cf X B G0) σ H2 G2 (yV (cf X B G0) H2 (.O (.L .F)) Q) (if xs.length + ys.length ≤ 16777216 then .ok (.lst (xs ++ ys)) else .bad) := m2
        by_cases hl : xs.length + ys.length ≤ 16777216
        · rw [if_pos hl] at m3
          exact ⟨p, p2, vs, vs2, rfl, rfl, st2.sH _ _ q, st2.sH _ _ q2, by rw [sizeLine_eq, ← rs.length, ← rs2.length]; exact hl, mk_list m3 st2.sH (.refl _) (rs.append rs2)⟩
        · rw [if_neg hl] at m3
          exact m3.elim
      | _ => exact m2.elim
    | _ => cases d2 <;> exact m2.elim⟩
theorem ev_catT (ha : EV X W B G0 κ en a .F ra) (hb : EV X W B G0 κ en b .F rb) : EV X W B G0 κ en (.BinOp a .Add b pos) .F (R.bin2 ra rb pCatT) :=
  ⟨PE.wk (pe_op op_catA ha.pe hb.pe) fun σ H Q ⟨G, Ss, st, m⟩ => tEVb st m _ fun d v H1 G1 S _ a1 st1 rv m1 => tEVb st1 m1 _ fun d2 v2 H2 G2 S2 _ a2 st2 rv2 m2 => by
    have rv' := rv.adv a2 (by intro _ z; cases z)
    cases d with
    | tup xs =>
      cases d2 with
      | tup ys =>
        obtain ⟨⟨p, vs, ev, q, rs⟩, _⟩ := rv'
        obtain ⟨⟨p2, vs2, ev2, q2, rs2⟩, _⟩ := rv2
        subst ev ev2
        have m3 : mR W (cf X B G0) σ H2 G2 (yV (cf X B G0) H2 .F Q) (if xs.length + ys.length ≤ 16777216 then .ok (.tup (xs ++ ys)) else .bad) := m2
        by_cases hl : xs.length + ys.length ≤ 16777216
        · rw [if_pos hl] at m3
          refine ⟨p, p2, vs, vs2, rfl, rfl, sqT_mono st2.sH q, sqT_mono st2.sH q2, by rw [sizeLine_eq, ← rs.length, ← rs2.length]; exact hl, fun h0 => ?_, fun h0 h1 => ?_, fun h0 h1 l hl2 => ?_⟩
          · subst h0
            have e : xs = [] := by
              have := rs.length
              simpa using this
            subst e
            exact m3 H2 G2 (.refl st2.sH) (.ref p2) [] ⟨⟨p2, vs2, rfl, q2, rs2⟩, rfl⟩
          · subst h1
            have e : ys = [] := by
              have := rs2.length
              simpa using this
            subst e
            rw [List.append_nil] at m3
            exact m3 H2 G2 (.refl st2.sH) (.ref p) [] ⟨⟨p, vs, rfl, q, rs⟩, rfl⟩
          · have a4 := Adv.newF (o := .tup (vs ++ vs2)) st2.sH hl2
            exact m3 _ _ a4 (.ref l) [] ⟨⟨l, _, rfl, SqT.of upd_same, (rs.append rs2).mono a4.2.1⟩, rfl⟩
        · rw [if_neg hl] at m3
          exact m3.elim
      | _ => exact m2.elim
    | _ => cases d2 <;> exact m2.elim⟩
theorem Reps.rep {K : PySem.W.Frag} {mg : Str → Option Value} {G : Hp} {ds : List D} {vs : List V} (h : Reps K mg G ds vs) : ∀ n : Nat, Reps K mg G (List.replicate n ds).flatten (List.replicate n vs).flatten
  | 0 => rfl
  | n + 1 => by
    rw [List.replicate_succ, List.replicate_succ, List.flatten_cons, List.flatten_cons]
    exact h.append (Reps.rep h n)
theorem ev_repL (ha : EV X W B G0 κ en a .F ra) (hb : EV X W B G0 κ en b kb rb) : EV X W B G0 κ en (.BinOp a .Mult b pos) (.O (.L .F)) (R.bin2 ra rb pRepL) :=
  ⟨PE.wk (pe_op op_rep ha.pe hb.pe) fun σ H Q ⟨G, Ss, st, m⟩ => tEVb st m _ fun d v H1 G1 S _ a1 st1 rv m1 => tEVb st1 m1 _ fun d2 v2 H2 G2 S2 _ a2 st2 rv2 m2 => by
    have rv' := rv.adv a2 (by intro _ z; cases z)
    have rd2 := st2.rd rv2
    cases d with
    | lst xs =>
      cases d2 with
      | int j =>
        obtain ⟨⟨p, vs, ev, q, rs⟩, _⟩ := rv'
        subst ev
        have m3 : mR W (cf X B G0) σ H2 G2 (yV (cf X B G0) H2 (.O (.L .F)) Q) (if -(2 ^ 63) ≤ j ∧ j < 2 ^ 63 ∧ xs.length * j.toNat ≤ 16777216 then .ok (.lst (List.replicate j.toNat xs).flatten) else .bad) := m2
        by_cases hl : -(2 ^ 63) ≤ j ∧ j < 2 ^ 63 ∧ xs.length * j.toNat ≤ 16777216
        · rw [if_pos hl] at m3
          exact ⟨p, j, vs, rfl, rd2, st2.sH _ _ q, hl.1, hl.2.1, by rw [sizeLine_eq, ← rs.length]; exact hl.2.2, mk_list m3 st2.sH (.refl _) (rs.rep _)⟩
        · rw [if_neg hl] at m3
          exact m3.elim
      | _ => exact m2.elim
    | _ => cases d2 <;> exact m2.elim⟩
/-! ### is None, in -/
def isNon : D → Bool
  | .non => true
  | _ => false
def pIsN : D → D → R D
  | d, .non => .ok (.bl (isNon d))
  | _, _ => .bad
def pNotN : D → D → R D
  | d, .non => .ok (.bl (!isNon d))
  | _, _ => .bad
theorem isNon_ok {K : PySem.W.Frag} {mg : Str → Option Value} {H : Hp} {d : D} {v : V} (h : Rep K mg H d v) : decide (v = .non) = isNon d := by
  cases d with
  | non => cases (show v = .non from h); rfl
  | bl b => cases (show v = .bl b from h); rfl
  | int i => cases (show v = .int i from h); rfl
  | str s => cases (show v = .str s from h.1); rfl
  | lst xs => obtain ⟨a, vs, e, _⟩ := h; subst e; rfl
  | scr xs => obtain ⟨a, vs, e, _⟩ := h; subst e; rfl
  | tup xs => obtain ⟨a, vs, e, _⟩ := h; subst e; rfl
  | dct ks xs => obtain ⟨a, e, _⟩ := h; subst e; rfl
  | dcT ks xs => obtain ⟨a, e, _⟩ := h; subst e; rfl
  | obj c ns xs => obtain ⟨a, C, dx, fs, e, _⟩ := h; subst e; rfl
  | exc c ns xs => obtain ⟨a, C, xd, e, _⟩ := h; subst e; rfl
theorem od_isN {K : PySem.W.Frag} {mg : Str → Option Value} : OpD K mg rIsN .F pIsN := by
  intro W B G0 κ en σ H Q x y v w hx hy h
  cases y with
  | non =>
    have h' : tEV W ⟨K, mg, B, G0⟩ κ en .F (.ok (.bl (isNon x))) σ H Q := by cases x <;> exact h
    exact ⟨hy, by rw [isNon_ok hx]; exact h'.bl⟩
  | _ => exact tEV.bad (k := .F) (by cases x <;> exact h)
theorem od_notN {K : PySem.W.Frag} {mg : Str → Option Value} : OpD K mg rNotN .F pNotN := by
  intro W B G0 κ en σ H Q x y v w hx hy h
  cases y with
  | non =>
    have h' : tEV W ⟨K, mg, B, G0⟩ κ en .F (.ok (.bl (!isNon x))) σ H Q := by cases x <;> exact h
    exact ⟨hy, by rw [isNon_ok hx]; exact h'.bl⟩
  | _ => exact tEV.bad (k := .F) (by cases x <;> exact h)
def pInL : D → D → R D
  | d, .lst ds => if pl d 20 && pl (.lst ds) 20 then .ok (.bl (ds.any fun z => deq z d)) else .bad
  | _, _ => .bad
def pNotInL : D → D → R D
  | d, .lst ds => if pl d 20 && pl (.lst ds) 20 then .ok (.bl (!ds.any fun z => deq z d)) else .bad
  | _, _ => .bad
theorem any_py {d : D} : ∀ ds : List D, (pys ds).any (fun z => PyData.eqv z (py d)) = ds.any fun z => deq z d
  | [] => rfl
  | x :: ds => by simp [pys, deq_py, any_py ds]
theorem od_inL {K : PySem.W.Frag} {mg : Str → Option Value} : OpD K mg (rInD K) .F pInL := by
  intro W B G0 κ en σ H Q x y v w hx hy h
  cases y with
  | lst ds =>
    have h' : tEV W ⟨K, mg, B, G0⟩ κ en .F (if pl x 20 && pl (.lst ds) 20 then .ok (.bl (ds.any fun z => deq z x)) else .bad) σ H Q := by cases x <;> exact h
    cases e : pl x 20 && pl (.lst ds) 20 with
    | false => rw [e] at h'; exact tEV.bad (k := .F) h'
    | true =>
      obtain ⟨h1, h2⟩ := Bool.and_eq_true_iff.mp e
      rw [e, if_pos rfl] at h'
      have e2 : py (.lst ds) = .list (pys ds) := by simp [py]
      refine ⟨py x, pys ds, hx.dp h1, ?_, hx.shaped h1, ?_, ?_⟩
      · rw [← e2]; exact hy.dp h2
      · rw [← e2]; exact hy.shaped h2
      · rw [any_py]
        exact h'.bl
  | _ => exact tEV.bad (k := .F) (by cases x <;> exact h)
theorem od_notInL {K : PySem.W.Frag} {mg : Str → Option Value} : OpD K mg (rNotInD K) .F pNotInL := by
  intro W B G0 κ en σ H Q x y v w hx hy h
  cases y with
  | lst ds =>
    have h' : tEV W ⟨K, mg, B, G0⟩ κ en .F (if pl x 20 && pl (.lst ds) 20 then .ok (.bl (!ds.any fun z => deq z x)) else .bad) σ H Q := by cases x <;> exact h
    cases e : pl x 20 && pl (.lst ds) 20 with
    | false => rw [e] at h'; exact tEV.bad (k := .F) h'
    | true =>
      obtain ⟨h1, h2⟩ := Bool.and_eq_true_iff.mp e
      rw [e, if_pos rfl] at h'
      have e2 : py (.lst ds) = .list (pys ds) := by simp [py]
      refine ⟨py x, pys ds, hx.dp h1, ?_, hx.shaped h1, ?_, ?_⟩
      · rw [← e2]; exact hy.dp h2
      · rw [← e2]; exact hy.shaped h2
      · rw [any_py]
        exact h'.bl
  | _ => exact tEV.bad (k := .F) (by cases x <;> exact h)
/-- a sign in a text -/
def pInS : D → D → R D
  | .str x, .str z => if x.cps.size = 1 then .ok (.bl (decide (x.cps.getD 0 0 ∈ z.cps.toList))) else .bad
  | _, _ => .bad
def pNotInS : D → D → R D
  | .str x, .str z => if x.cps.size = 1 then .ok (.bl (!decide (x.cps.getD 0 0 ∈ z.cps.toList))) else .bad
  | _, _ => .bad
theorem one_sign {x : Str} (h : x.cps.size = 1) : x = ⟨#[x.cps.getD 0 0]⟩ := by
  obtain ⟨a⟩ := x
  obtain ⟨l⟩ := a
  match l, h with
  | [c], _ => rfl
theorem od_inS {K : PySem.W.Frag} {mg : Str → Option Value} : OpD K mg rInS .F pInS := by
  intro W B G0 κ en σ H Q x y v w hx hy h
  cases x with
  | str x =>
    cases y with
    | str z =>
      have h' : tEV W ⟨K, mg, B, G0⟩ κ en .F (if x.cps.size = 1 then .ok (.bl (decide (x.cps.getD 0 0 ∈ z.cps.toList))) else .bad) σ H Q := h
      by_cases e : x.cps.size = 1
      · rw [if_pos e] at h'
        exact ⟨_, z, by rw [hx.1, ← one_sign e], hy.1, h'.bl⟩
      · rw [if_neg e] at h'
        exact h'.bad
    | _ => exact tEV.bad (k := .F) h
  | _ => exact tEV.bad (k := .F) (by cases y <;> exact h)
theorem od_notInS {K : PySem.W.Frag} {mg : Str → Option Value} : OpD K mg rNotInS .F pNotInS := by
  intro W B G0 κ en σ H Q x y v w hx hy h
  cases x with
  | str x =>
    cases y with
    | str z =>
      have h' : tEV W ⟨K, mg, B, G0⟩ κ en .F (if x.cps.size = 1 then .ok (.bl (!decide (x.cps.getD 0 0 ∈ z.cps.toList))) else .bad) σ H Q := h
      by_cases e : x.cps.size = 1
      · rw [if_pos e] at h'
        exact ⟨_, z, by rw [hx.1, ← one_sign e], hy.1, h'.bl⟩
      · rw [if_neg e] at h'
        exact h'.bad
    | _ => exact tEV.bad (k := .F) h
  | _ => exact tEV.bad (k := .F) (by cases y <;> exact h)
/-! ### a < b < c -/
def chn (ra rb rc : R D) (f g : D → D → R D) : R D := ra.bind fun x => rb.bind fun y => (f x y).bind fun z => match z with
  | .bl true => rc.bind fun w => g y w
  | .bl false => .ok (.bl false)
  | _ => .bad
variable {op op' : CmpOp} {rr rr' : R2} {f g : D → D → R D}
theorem tChain_ev {σ : L2.St} {H : Hp} {Q : VK} (hf : OpD X.K X.mg rr .F f) (hg : OpD X.K X.mg rr' .F g) (h : tEV W (cf X B G0) κ en .F (chn ra rb rc f g) σ H Q) : tChain rr rr' (tEV W (cf X B G0) κ en ka ra) (tEV W (cf X B G0) κ en kb rb) (tEV W (cf X B G0) κ en kc rc) σ H Q :=
  tEV_bind h _ fun d v H1 G G1 S Ss _ a st rv h1 => tEV_bind ⟨G1, Ss, st, h1⟩ _ fun d2 v2 H2 G' G2 S2 Ss2 _ a2 st2 rv2 h2 => by
    have rd := (st.rd rv).mono a2.1
    have rd2 := st2.rd rv2
    refine hf W B G0 κ en σ H2 _ d d2 v v2 rd rd2 (tEVb (k := .F) st2 h2 _ fun z vz H3 G3 S3 _ a3 st3 rv3 m3 => ?_)
    have rz := st3.rd rv3
    cases z with
    | bl q =>
      refine ⟨q, rz, ?_⟩
      cases q with
      | true =>
        rw [if_pos rfl]
        exact tEVb st3 m3 _ fun d4 v4 H4 G4 S4 _ a4 st4 rv4 m4 => hg W B G0 κ en σ H4 Q d2 d4 v2 v4 ((rd2.mono a3.1).mono a4.1) (st4.rd rv4) ⟨G4, Ss2, st4, m4⟩
      | false =>
        rw [if_neg (by decide)]
        exact tEV.bl (en := en) (W := W) (κ := κ) ⟨G3, Ss2, st3, m3⟩
    | _ => exact m3.elim
theorem ev_chain (ho : OpR X (compareOp op) rr) (hf : OpD X.K X.mg rr .F f) (ho' : OpR X (compareOp op') rr') (hg : OpD X.K X.mg rr' .F g) (ha : EV X W B G0 κ en a ka ra) (hb : EV X W B G0 κ en b kb rb) (hc : EV X W B G0 κ en c kc rc)
    (hm : lastMarks [op, op'] [b, c] = false := by with_unfolding_all rfl) : EV X W B G0 κ en (.Compare a [op, op'] [b, c] pos) .F (chn ra rb rc f g) :=
  ⟨PE.wk (pe_chain ho ho' ha.pe hb.pe hc.pe hm) fun σ H Q h => tChain_ev hf hg h⟩
theorem et_chain (ho : OpR X (compareOp op) rr) (hf : OpD X.K X.mg rr .F f) (ho' : OpR X (compareOp op') rr') (hg : OpD X.K X.mg rr' .F g) (ha : EV X W B G0 κ en a ka ra) (hb : EV X W B G0 κ en b kb rb) (hc : EV X W B G0 κ en c kc rc)
    (hm : lastMarks [op, op'] [b, c] = false := by with_unfolding_all rfl) : ET X W B G0 κ en (.Compare a [op, op'] [b, c] pos) ((chn ra rb rc f g).bind toB) :=
  ⟨PT.wk (pt_chain ho ho' ha.pe hb.pe hc.pe hm) fun σ H Q h => tChain_ev hf hg (tB_ev (k := .F) h)⟩
end
/-! ### a, b = e | x += e -/
section
variable {α τ : Type} {X : Cx} {W : WX} {B G0 : Hp} {κ : List Kd} {en : List D} {e t tg : Expr} {k : RK} {r : R D} {rb : R Bool} {δ : DE α} {pos : Pos} {rest body : List Stmt}
theorem RV.rig0 {c : Cf} {H0 H G : Hp} {d : D} {v : V} {S : List Addr} (h : RV c H0 H G k d v S) (hk : rig k = true) : RV c H0 H G k d v [] := by
  cases k with
  | F =>
    have e := h.2
    subst e
    exact h
  | B =>
    have e := h.2
    subst e
    exact h
  | _ => cases hk
theorem sv_un {ρ : Type} {u : D → R ρ} {js : List Nat} {vs : ρ → List D} {ke : Kd} {f : ρ → R α} (he : EV X W B G0 κ en e k r) (ht : Tg X tg k ρ u js vs ke) (hr : ∀ p, SV X W B G0 (setK κ js ke) (setL en js (vs p)) rest δ (f p))
    (hex : δ.ex κ en := by exact True.intro) (hk : rig k = true := by rfl) (hj : ∀ j ∈ js, j < κ.length := by first | decide | simp) (hs : swapsWithSole [tg] e pos.line X.env = pure false := by rfl) (hw : swappedStores [tg] e X.env = pure none := by rfl)
    (h1 : (assignEach [tg] X.env).map (·.2) = [assign tg X.env] := by rfl) : SV X W B G0 κ en (.Assign [tg] e pos :: rest) δ (r.bind fun d => (u d).bind f) := by
  obtain ⟨hux, g, pg, hg⟩ := ht
  exact ⟨PSs.wk (pss_cons (ps_asg he.pe pg hs hw h1) (PSs.all fun p => (hr p).ps)) fun Dn σ H ⟨G, Ss, st, m⟩ => ⟨G, Ss, st, mS.toR st m hex fun d H1 G1 a st1 m1 v S rv => by
    cases eu : u d with
    | bad => rw [eu] at m1; exact m1.elim
    | exc x => exact (hux _ _ eu).elim
    | ok p =>
      rw [eu] at m1
      exact hg B G0 κ en σ H1 H G1 Ss d v p _ st1 (rv.rig0 hk) eu hj fun σ' Ss' _ st' => ⟨p, G1, Ss', st', m1⟩⟩⟩
theorem sv_aug {i : Nat} {x : Str} {pos' : Pos} {op : Operator} {rr : R2} {f : D → D → R D} {g : D → R α} {d0 : D} {q : Kd} (hop : InOp X op rr) (hf : OpD X.K X.mg rr .F f) (he : EV X W B G0 κ en e k r) (hr : ∀ d, SV X W B G0 (κ.set i .F) (en.set i d) rest δ (g d)) (hN : X.N.Nodup)
    (hq : κ[i]? = some q := by rfl) (hd : en[i]? = some d0 := by rfl) (hn : q ≠ .N := by intro z; cases z) (hi : X.N[i]? = some x := by rfl) (hx : Loc X.env.scope x := by first | exact Or.inl rfl | exact Or.inr rfl)
    (hex : δ.ex κ en := by exact True.intro) (hκ : i < κ.length := by first | decide | simp) (hfn : X.fn x = true ∨ X.env.scope.names.lookup x = some .local := by first | exact .inl rfl | exact .inr rfl | assumption) :
    SV X W B G0 κ en (.AugAssign (.Name x pos') op e pos :: rest) δ (r.bind fun y => (f d0 y).bind g) :=
  ⟨PSs.wk (pss_cons (ps_aug hN hi hx he.pe (fun pins s σ H x y v u Q I rx ry h => hop pins s σ H x y v u Q I rx ry h) hfn) (PSs.all fun d => (hr d).ps)) fun Dn σ H ⟨G, Ss, st, m⟩ => by
    obtain ⟨v0, d1, s1, s2, s3⟩ := st.slot i q hq hn
    rw [hd] at s2; cases s2
    refine ⟨v0, s1, G, Ss, st, mS.toR st m hex fun y H1 G1 a st1 m1 v S rv => ?_⟩
    have r0 : Rep X.K X.mg H1 d0 v0 := (s3.rep st.sB st.sH).mono a.1
    exact hf W B G0 κ en σ H1 _ d0 y v0 v r0 (st1.rd rv) ⟨G1, Ss, st1, mS.toR st1 m1 hex fun z H2 G2 a2 st2 m2 v2 S2 rv2 => ⟨z, G2, _, st1.set a2 rv2 hκ, m2⟩⟩⟩
/-- += of ints, of texts -/
abbrev rAddA : R2 := fun x y H Q => rI0 (fun i j => .int (i + j)) x y H Q ∨ (∃ i j, x = .str i ∧ y = .str j ∧ i.length + j.length ≤ sizeLine ∧ Q (.str (i ++ j)) H)
theorem io_add {X : Cx} : InOp X .Add rAddD := fun pins s σ H x y u v Q I rx ry h => by
  rcases h with h | h
  · exact in_add pins s σ H x y u v Q I rx ry h
  · exact in_addS pins s σ H x y u v Q I rx ry h
theorem io_sub {X : Cx} : InOp X .Sub (rI0 fun i j => .int (i - j)) := fun pins s σ H x y u v Q I rx ry h => in_sub pins s σ H x y u v Q I rx ry h
/-! ### while -/
def rWhX {τ α : Type} : Nat → τ → (τ → R Bool) → (τ → R (Lp τ α)) → R (Go τ α)
  | 0, _, _, _ => .bad
  | n + 1, t, c, f => (c t).bind fun b => if b = true then (f t).bind (Lp.on fun t => rWhX n t c f) else .ok (.go t)
def rWh {τ : Type} : Nat → τ → (τ → R Bool) → (τ → R τ) → R τ
  | 0, _, _, _ => .bad
  | n + 1, t, c, f => (c t).bind fun b => if b = true then (f t).bind fun t => rWh n t c f else .ok t
theorem sv_whX {c : τ → R Bool} {f : τ → R (Lp τ α)} {g : τ → R α} (n : Nat) (κL : List Kd) (vw : τ → List D) (t0 : τ) (h0 : Wk κ en κL (vw t0)) (hc : ∀ G0 t', ET X W B G0 κL (vw t') t (c t')) (hb : ∀ G0 t, SV X W B G0 κL (vw t) body (δ.loopX κL vw) (f t)) (hr : ∀ t, SV X W B G0 κL (vw t) rest δ (g t))
    (hp : PassesOwn (model X.prog X.w) X.A X.env X.xe) (hexL : ∀ t, δ.ex κL (vw t) := by exact fun _ => True.intro) :
    SV X W B G0 κ en (.While t body [] pos :: rest) δ ((rWhX n t0 c f).bind (Go.thn g)) := by
  have hbody : PSs X body (fun Dn σ H => ∃ t, tSV W (cf X B G0) κL (vw t) (δ.loopX κL vw) (f t) Dn σ H) := PSs.all fun t => (hb G0 t).ps
  have htest : PT X t (fun σ H Q => ∃ t', tET W (cf X B G0) κL (vw t') (c t') σ H Q) := ⟨fun pins s σ H Q I ⟨t', z⟩ => (hc G0 t').pt.run pins s σ H Q I z⟩
  have hrest : PSs X rest (fun Dn σ H => ∃ t, tSV W (cf X B G0) κL (vw t) δ (g t) Dn σ H) := PSs.all fun t => (hr t).ps
  refine ⟨PSs.wk (pss_cons (ps_while hp htest hbody) hrest) fun Dn σ H ⟨G, Ss, st, m⟩ => ?_⟩
  refine ⟨fun i σ H => ∃ t G Ss, St (cf X B G0) κL (vw t) σ H G Ss ∧ mS W (cf X B G0) δ Dn ((rWhX i t c f).bind (Go.thn g)), ⟨n, t0, G, Ss, st.weak h0, m⟩, ?_⟩
  rintro i σ2 H2 ⟨t, G2, Ss2, st2, m2⟩
  cases i with
  | zero => exact m2.elim
  | succ i =>
    have m3 : mS W (cf X B G0) δ Dn (((c t).bind fun b => if b = true then (f t).bind (Lp.on fun t => rWhX i t c f) else .ok (.go t)).bind (Go.thn g)) := m2
    rw [R.bind_assoc] at m3
    refine ⟨t, G2, Ss2, st2, mS.toR st2 m3 (hexL t) fun b H3 G3 a st3 m4 => ?_⟩
    cases b with
    | false => exact ⟨t, G3, Ss2, st3, m4⟩
    | true =>
      refine ⟨fun σ' H' => ∃ t G Ss, St (cf X B G0) κL (vw t) σ' H' G Ss ∧ mS W (cf X B G0) δ Dn ((rWhX i t c f).bind (Go.thn g)), fun σ' H' z => ⟨i, Nat.lt_succ_self i, z⟩, t, G3, Ss2, st3, ?_⟩
      have m5 : mS W (cf X B G0) δ Dn (((f t).bind (Lp.on fun t => rWhX i t c f)).bind (Go.thn g)) := m4
      rw [R.bind_assoc] at m5
      cases ef : f t with
      | bad => rw [ef] at m5; exact m5.elim
      | exc x =>
        rw [ef] at m5
        exact fun cv xd κ en σ H G Ss st he hv => m5 cv xd κ en σ H G Ss st he hv
      | ok l =>
        rw [ef] at m5
        cases l with
        | nx t' =>
          have m6 : mS W (cf X B G0) δ Dn ((rWhX i t' c f).bind (Go.thn g)) := m5
          refine ⟨fun κ en σ H G Ss st ⟨t'', e, w⟩ => ?_, fun _ _ _ _ _ _ _ _ ⟨_, e, _⟩ => (nomatch e), fun _ _ _ _ _ _ _ ⟨_, e, _⟩ => (nomatch e), fun κ en σ H G Ss st ⟨t'', e, w⟩ => ?_⟩
          · cases e
            exact ⟨t', G, Ss, st.weak w, m6⟩
          · cases e
            exact ⟨t', G, Ss, st.weak w, m6⟩
        | bk t' =>
          have m6 : mS W (cf X B G0) δ Dn (g t') := m5
          refine ⟨fun _ _ _ _ _ _ _ ⟨_, e, _⟩ => (nomatch e), fun _ _ _ _ _ _ _ _ ⟨_, e, _⟩ => (nomatch e), fun κ en σ H G Ss st ⟨t'', e, w⟩ => ?_, fun _ _ _ _ _ _ _ ⟨_, e, _⟩ => (nomatch e)⟩
          cases e
          exact ⟨t', G, Ss, st.weak w, m6⟩
        | out a' =>
          have m6 : mS W (cf X B G0) δ Dn (.ok a') := m5
          refine ⟨fun _ _ _ _ _ _ _ ⟨_, e, _⟩ => (nomatch e), fun k d v H G S a1 rv ⟨a'', e, z⟩ => ?_, fun _ _ _ _ _ _ _ ⟨_, e, _⟩ => (nomatch e), fun _ _ _ _ _ _ _ ⟨_, e, _⟩ => (nomatch e)⟩
          cases e
          exact m6.2.1 k d v H G S a1 rv z
theorem rWhX_wh {α : Type} {c : τ → R Bool} {f : τ → R τ} {g : τ → R α} : ∀ {n : Nat} {t : τ}, (rWhX n t c fun t => (f t).bind fun t => .ok (.nx t)).bind (Go.thn g) = (rWh n t c f).bind g
  | 0, t => rfl
  | n + 1, t => by
    show (((c t).bind fun b => if b = true then ((f t).bind fun t => .ok (.nx t)).bind (Lp.on fun t => rWhX n t c fun t => (f t).bind fun t => .ok (.nx t)) else .ok (.go t)).bind (Go.thn g)) = ((c t).bind fun b => if b = true then (f t).bind fun t => rWh n t c f else .ok t).bind g
    cases c t with
    | bad => rfl
    | exc e => rfl
    | ok b =>
      cases b with
      | false => rfl
      | true =>
        show (((f t).bind fun t => .ok (.nx t)).bind (Lp.on fun t => rWhX n t c fun t => (f t).bind fun t => .ok (.nx t))).bind (Go.thn g) = ((f t).bind fun t => rWh n t c f).bind g
        cases f t with
        | bad => rfl
        | exc e => rfl
        | ok t' => exact rWhX_wh (n := n) (t := t')
theorem sv_wh {c : τ → R Bool} {f : τ → R τ} {g : τ → R α} (n : Nat) (κL : List Kd) (vw : τ → List D) (t0 : τ) (h0 : Wk κ en κL (vw t0)) (hc : ∀ G0 t', ET X W B G0 κL (vw t') t (c t')) (hb : ∀ G0 t, SV X W B G0 κL (vw t) body (δ.loop κL vw) (f t)) (hr : ∀ t, SV X W B G0 κL (vw t) rest δ (g t))
    (hp : PassesOwn (model X.prog X.w) X.A X.env X.xe) (hexL : ∀ t, δ.ex κL (vw t) := by exact fun _ => True.intro) :
    SV X W B G0 κ en (.While t body [] pos :: rest) δ ((rWh n t0 c f).bind g) := by
  have h := sv_whX (δ := δ) (pos := pos) (rest := rest) (f := fun t => (f t).bind fun t => .ok (.nx t)) (g := g) n κL vw t0 h0 hc (fun G0 t => (hb G0 t).map Lp.nx (fun κ en a w => ⟨a, rfl, w⟩) (fun _ _ _ z => z.elim) (fun _ _ z => z) (fun _ _ _ z => z.elim) fun κ en a w => ⟨a, rfl, w⟩) hr hp hexL
  exact h.cast rWhX_wh
end
end Lw
namespace Lw
open PySem PySem.Spec PyProof.Rows L2
/-! ### try: .. except C as n: y = n -/
theorem exK_ok {P : Program} {w : World} {H : Hp} {h : Heap} {a : Addr} {cls : Value} {xd : Option Addr} {oe : Obj} {vs : Array Value} (e : h.get? a = some oe) (z : Zc cls xd oe) (d : oe.data = .fields vs) : ObjOk P w H h a (ExK cls xd a) :=
  ⟨⟨oe, vs, e, z, d⟩, ⟨oe, e⟩, fun _ _ ⟨o, v, q, r⟩ k => ⟨o, v, k o q, r⟩⟩
section
variable {X : Cx} {pins : List (Addr × Obj)} {σ : L2.St} {H : Hp} {s : Shared}
/-- an object that is not of the entry's, tracked from now on -/
theorem Inv.track {a : Addr} {o : HO} (I : Inv X pins σ H s) (n0 : X.s_0.heap.get? a = none) (ha : H a = none) (hok : ObjOk X.prog X.w (upd H a o) s.heap a o) (nL : a ≠ X.env.locals) (nC : ∀ x c, X.env.cells.lookup x = some c → c ≠ a) (np : ∀ p ∈ X.pn ++ pins, p.1 ≠ a) :
    Inv X pins σ (upd H a o) s := by
  have ne : ∀ b u, X.s_0.heap.get? b = some u → b ≠ a := fun b u q z => by rw [z, n0] at q; cases q
  have ne1 : ∀ b u, H b = some u → b ≠ a := fun b u q z => by rw [z, ha] at q; cases q
  refine ⟨I.ok, I.os, I.bare, ⟨I.base.keep, I.base.slot, fun b u q n hx => ?_, I.base.there, fun b xs q => ?_, fun b o2 u q => ?_, fun b ps q => ?_⟩, I.loc, I.cell, ?_, fun x c q => ?_, fun p hp => ?_, I.hok.laidN (fun _ _ z => z) ha hok, I.len⟩
  · rw [upd_ne (ne b u q)]
    exact I.base.free b u q n hx
  · have z := I.base.tups b xs q
    rw [upd_ne (ne1 b _ z)]
    exact z
  · have z := I.base.frzs b o2 u q
    rw [upd_ne (ne1 b _ z)]
    exact z
  · obtain ⟨more, z⟩ := I.base.tbls b ps q
    exact ⟨more, by rw [upd_ne (ne1 b _ z)]; exact z⟩
  · rw [upd_ne (Ne.symm nL)]
    exact I.free
  · rw [upd_ne (nC x c q)]
    exact I.freeC x c q
  · obtain ⟨e, n, r⟩ := I.pin p hp
    refine ⟨e, ?_, r⟩
    rw [upd_ne (np p hp)]
    exact n
end
/-- what the clause wishes of an exception of the body -/
def wKp (K : PySem.W.Frag) (c : Value) (i j : Nat) (D : Ends) : WX := fun cls d σ H =>
  PySem.W.exmOne K cls c = some true ∧ ∀ a, H a = none → D.nx (((σ.set i (some (.ref a))).set j (some (.ref a))).set i none) (upd H a (ExK cls d a))
section
variable {X : Cx} {x n y : Str} {c : Value} {i j : Nat} {body : List Stmt} {np np2 yp ap pos pos' : Pos} {tb : WX → TS}
theorem ps_try_keep (hs : X.stack = X.env :: X.outer) (hf : X.env.frame = some X.env.locals) (hx0 : X.ex = []) (hN : X.N.Nodup) (hi : X.N[i]? = some n) (hln : X.env.kindOf n = some .local) (hj : X.N[j]? = some y) (hly : X.env.kindOf y = some .local) (hc : Names X x c)
    (hb : ∀ (W : WX) (pn : List (Addr × Obj)) (xe : Value → Shared → Prop), Takes (X.tr pn xe) W → PassesOwn (model X.prog X.w) X.A X.env xe → PSs (X.tr pn xe) body (tb W))
    (hdb : (n == ("__debug__" : Str)) = false := by decide) (hcd : (n == ("__classdict__" : Str)) = false := by decide) (hsw : ∀ Z : Cx, Z.env = X.env → swapsWith (.Name n np2) (some (.Name y yp)) ap.line Z.env = pure false := by intro _ h; rw [h]; rfl) :
    PS X (.Try body [.ExceptHandler (some (.Name x np)) (some n) [.Assign [.Name y yp] (.Name n np2) ap] pos'] [] [] pos) (fun D σ H => (i ≠ j ∧ i < σ.length) ∧ tb (wKp X.K c i j D) D σ H) := by
  have hvs : Vis X.env.scope n := .inl hln
  have hsu : ∀ (a : Addr) (q : Addr × Obj) (pn : List (Addr × Obj)), PSs (X.suite a (q :: pn)) [.Assign [.Name y yp] (.Name n np2) ap] (tAsg (tVar i) (gName j)) := fun a q pn =>
    pss_one (ps_set (X := X.suite a (q :: pn)) hN hj (.inl hly) (pe_var (X := X.suite a (q :: pn)) hi hvs hdb hcd) (hsw _ rfl) (.inr hly))
  refine ⟨fun pins s σ H D I h => ?_⟩
  obtain ⟨⟨hij, hiσ⟩, h⟩ := h
  have ok := I.ok
  have hfr : X.A.frames = some (X.env :: X.outer) := by rw [ok.frames, hs]
  have hloc : Loc X.env.scope n := .inl hln
  refine wpAny_Try_except ?_
  refine wpAny_mono ((hb (wKp X.K c i j D) (X.pn ++ pins) (fun e s₁ => wpAny (model X.prog X.w) X.A (noteFrame e X.env) (fun _ s₂ => wpAny (model X.prog X.w) X.A (setFlight e none) (fun _ s₃ =>
    wpAny (model X.prog X.w) X.A (handleBy e X.env [.ExceptHandler (some (.Name x np)) (some n) [.Assign [.Name y yp] (.Name n np2) ap] pos']) (SP X pins D) X.xe s₃) X.xe s₂) X.xe s₁) (fun u s' xx => ?_) PassesOwn.looking).run [] s σ H D (I.toTry _) h) (fun f s1 hsp => ?_) (fun e s1 he => he)
  · obtain ⟨a, B, sI, pins', σ', H', cls, d, rfl, J', nb, up, sky, na, os, ag, hb1, hyes⟩ := xx
    have J : Inv X pins σ' H' sI := J'.ofTry ok
    have sky' : Sky B (X.env :: X.outer) a (Zc cls d) X.env.locals s'.heap := by rw [← hs]; exact sky
    show wpAny (model X.prog X.w) X.A (noteFrame (.ref a) X.env) _ _ _
    refine Sky.land Zc.steady hfr hf sky' fun h3 fl3 up3 => ?_
    have J3 : Inv X pins σ' H' { s' with heap := h3 } := J.landed nb fl3.1 (up.trans up3) os ag
    obtain ⟨oe3, vs3, he3, hz3, hd3⟩ := fl3.there
    have notFr : ∀ {h : Heap} {o : Obj} {vs : Array Value}, h.FunFrames B (X.env :: X.outer) → h.get? a = some o → o.data = .fields vs → a ∉ frs (X.env :: X.outer) := fun {h o vs} ff e dd hm => by
      obtain ⟨_, o', e', hnf⟩ := ff.mem hm
      rw [e] at e'; cases e'
      exact hnf _ dd
    have nfr := notFr fl3.2.2.1 he3 hd3
    have nL : a ≠ X.env.locals := fun z => nfr (List.mem_filterMap.mpr ⟨X.env, List.mem_cons_self, by rw [hf, z]⟩)
    have nF : a ∉ X.fs := fun hm => by
      obtain ⟨e, he, q⟩ := List.mem_filterMap.mp hm
      exact nfr (List.mem_filterMap.mpr ⟨e, List.mem_cons_of_mem _ he, q⟩)
    have hI : sI.heap.get? a = none := by
      cases q : sI.heap.get? a with
      | none => rfl
      | some o =>
        have z := nb a o q (by rw [hs]; exact nfr)
        rw [fl3.2.1] at z
        cases z
    have S3 := J3.suite he3 hd3 na nL nF
    refine wpAny_handleBy_cons (codeAny_handlers_test ?_) (by intro q; cases q)
    have LT : PySem.W.Looks (model X.prog X.w) h3 (typeOf (.ref a)) cls := fun A Q E s k q => wpAny_typeOf_ref (k _ _ he3) (by rw [hz3.1]; exact q)
    have LM := PySem.W.exm_one (M := model X.prog X.w) (J3.kIn) LT hb1
    have test : ∀ {Q : Value → Shared → Prop} {E : Value → Shared → Prop}, Q c { s' with heap := h3 } → wpAny (model X.prog X.w) (X.A.mark (some (.ref a))) (eval (.Name x np) X.env) Q E { s' with heap := h3 } := fun {Q E} q => by
      obtain ⟨hg, hdbg, hm | ⟨hm, hv, hnn⟩⟩ := hc
      · exact ld_glob (X := X.suite a ((a, oe3) :: (X.pn ++ pins))) S3 hg hm q hdbg
      · exact ld_blt (X := X.suite a ((a, oe3) :: (X.pn ++ pins))) S3 hg hm hv q hnn hdbg
    refine test (LM.here ?_)
    refine codeAny_handlers_suite_as ?_
    refine HandSPX.lands_againZ fl3 fun h4 fl4 up4 => ?_
    have J4 : Inv X pins σ' H' { s' with heap := h4 } := J.landed nb fl4.1 ((up.trans up3).trans up4) os ag
    obtain ⟨oe4, vs4, he4, hz4, hd4⟩ := fl4.there
    have S4 := J4.suite he4 hd4 na nL nF
    refine store_ok (X := X.suite a ((a, oe4) :: (X.pn ++ pins))) (v := .ref a) S4 hN hi hloc rfl (fun s5 S5 => ?_) (.inr hln)
    have hiσ' : i < σ'.length := by
      rw [J.len]
      exact (List.getElem?_eq_some_iff.mp hi).1
    refine wpAny_mono ((hsu a (a, oe4) (X.pn ++ pins)).run [] s5 _ H' { nx := fun σ6 H6 => H6 = H' ∧ σ6 = (σ'.set i (some (.ref a))).set j (some (.ref a)), rt := fun _ _ => False } S5 ⟨.ref a, List.getElem?_set_self hiσ', rfl, rfl⟩) (fun f s6 hsp => ?_) (fun _ _ z => False.elim z)
    cases f with
    | next =>
      obtain ⟨σ6, H6, S6, e6, e7⟩ := hsp
      subst e6 e7
      have J6 := S6.unsuite ok
      obtain ⟨pin4, _⟩ := S6.pin (a, oe4) (List.mem_append.mpr (.inl List.mem_cons_self))
      have J7 : Inv X pins ((σ'.set i (some (.ref a))).set j (some (.ref a))) (upd H6 a (ExK cls d a)) s6 := by
        have n0 : X.s_0.heap.get? a = none := by
          cases q : X.s_0.heap.get? a with
          | none => rfl
          | some o =>
            obtain ⟨o', z⟩ := J.base.there a o q (by rw [hx0]; exact fun z => nomatch z)
            rw [hI] at z
            cases z
        refine Inv.track J6 n0 na (exK_ok pin4 hz4 hd4) nL (fun x c q z => ?_) (fun p hp z => ?_)
        · obtain ⟨v, q2⟩ := J.cell x c q
          subst z
          obtain ⟨o, q3, _⟩ := q2
          rw [hI] at q3
          cases q3
        · obtain ⟨e, _⟩ := J.pin p hp
          rw [z, hI] at e
          cases e
      exact gone_ok J7 hN hi hln fun s7 J8 => ⟨_, _, J8, hyes a na⟩
    | brk =>
      obtain ⟨σ6, H6, S6, q6⟩ := hsp
      exact q6.elim
    | cont =>
      obtain ⟨σ6, H6, S6, q6⟩ := hsp
      exact q6.elim
    | ret u =>
      obtain ⟨v6, σ6, H6, S6, r6, q6⟩ := hsp
      exact q6.elim
  · cases f with
    | next =>
      obtain ⟨σ', H', J', q⟩ := hsp
      exact wpAny_execs_nil ⟨σ', H', J'.ofTry ok, q⟩
    | brk =>
      obtain ⟨σ', H', J', q⟩ := hsp
      exact ⟨σ', H', J'.ofTry ok, q⟩
    | cont =>
      obtain ⟨σ', H', J', q⟩ := hsp
      exact ⟨σ', H', J'.ofTry ok, q⟩
    | ret u =>
      obtain ⟨v, σ', H', J', r, q⟩ := hsp
      exact ⟨v, σ', H', J'.ofTry ok, r, q⟩
end
def rTry {τ : Type} (T : List Str) (s : R τ) (h : D → τ) : R τ := match s with
  | .ok t => .ok t
  | .exc x => if T.contains x.cls = true then .ok (h (.exc x.cls x.ns x.xs)) else .bad
  | .bad => .bad
/-- a class whose exceptions the clause of the class cB takes -/
def CatD (K : PySem.W.Frag) (mg : Str → Option Value) (cB : Value) (c : Str) : Prop := ∃ C, mg c = some (.ref C) ∧ PySem.W.exmOne K (.ref C) cB = some true
theorem St.forget {c : Cf} {κ : List Kd} {en : List D} {σ : L2.St} {H G : Hp} {Ss : Nat → List Addr} (s : St c κ en σ H G Ss) (i : Nat) (z : Option V) : St c (κ.set i .N) en (σ.set i z) H G Ss :=
  ⟨by simpa using s.ln, fun j k hk hn => by
    by_cases e : j = i
    · subst e
      by_cases hl : j < κ.length
      · rw [List.getElem?_set_self hl] at hk
        cases hk
        exact absurd rfl hn
      · rw [List.getElem?_eq_none (by simpa using hl)] at hk
        cases hk
    · rw [List.getElem?_set_ne (Ne.symm e)] at hk
      obtain ⟨v, d, h1, h2, h3⟩ := s.slot j k hk hn
      exact ⟨v, d, by rw [List.getElem?_set_ne (Ne.symm e)]; exact h1, h2, h3⟩, s.own, s.nd, s.dis, s.sB, s.sG, s.sH, s.new⟩
section
variable {α τ : Type} {X : Cx} {W : WX} {B G0 : Hp} {κ : List Kd} {en : List D} {δ : DE α} {rest body : List Stmt} {x n y : Str} {i j : Nat} {np np2 yp ap pos pos' : Pos} {s : R τ} {f : τ → R α} {cB : Value}
def DE.tryJ (δ : DE α) (κJ : List Kd) (vw : τ → List D) (κE : List Kd) (enE : List D) : DE τ := ⟨fun κ en t => Wk κ en κJ (vw t), fun _ _ _ => False, fun κ en => Wk κ en κE enE, fun _ _ _ => False, fun _ _ _ => False⟩
theorem sv_try (T : List Str) (κJ : List Kd) (vw : τ → List D) (κE : List Kd) (enE : List D) (hx : D → τ) (F : ∀ c ∈ T, CatD X.K X.mg cB c) (hc : Names X x cB)
    (hb : ∀ (W : WX) (pn : List (Addr × Obj)) (xe : Value → Shared → Prop), Takes (X.tr pn xe) W → PassesOwn (model X.prog X.w) X.A X.env xe → SV (X.tr pn xe) W B G0 κ en body (δ.tryJ κJ vw κE enE) s)
    (hw : ∀ d, Wk (((κE.set i .N).set j .F).set i .N) (enE.set j d) κJ (vw (hx d))) (hr : ∀ t, SV X W B G0 κJ (vw t) rest δ (f t)) (hN : X.N.Nodup)
    (hij : i ≠ j := by decide) (hjκ : j < κE.length := by first | decide | simp) (hi : X.N[i]? = some n := by rfl) (hj : X.N[j]? = some y := by rfl) (hln : X.env.kindOf n = some .local := by rfl) (hly : X.env.kindOf y = some .local := by rfl)
    (hs : X.stack = X.env :: X.outer := by rfl) (hf : X.env.frame = some X.env.locals := by rfl) (hx0 : X.ex = [] := by rfl)
    (hdb : (n == ("__debug__" : Str)) = false := by decide) (hcd : (n == ("__classdict__" : Str)) = false := by decide) (hsw : ∀ Z : Cx, Z.env = X.env → swapsWith (.Name n np2) (some (.Name y yp)) ap.line Z.env = pure false := by intro _ h; rw [h]; rfl)
    (hiκ : i < κ.length := by first | decide | simp) :
    SV X W B G0 κ en (.Try body [.ExceptHandler (some (.Name x np)) (some n) [.Assign [.Name y yp] (.Name n np2) ap] pos'] [] [] pos :: rest) δ ((rTry T s hx).bind f) := by
  have hbody : ∀ (W : WX) (pn : List (Addr × Obj)) (xe : Value → Shared → Prop), Takes (X.tr pn xe) W → PassesOwn (model X.prog X.w) X.A X.env xe → PSs (X.tr pn xe) body (tSV W (cf X B G0) κ en (δ.tryJ κJ vw κE enE) s) := fun W pn xe t p => (hb W pn xe t p).ps
  have hrest : PSs X rest (fun Dn σ H => ∃ t, tSV W (cf X B G0) κJ (vw t) δ (f t) Dn σ H) := PSs.all fun t => (hr t).ps
  refine ⟨PSs.wk (pss_cons (ps_try_keep hs hf hx0 hN hi hln hj hly hc hbody hdb hcd hsw) hrest) fun Dn σ H ⟨G, Ss, st, m⟩ => ⟨⟨hij, by rw [st.ln.1]; exact hiκ⟩, G, Ss, st, ?_⟩⟩
  cases es : s with
  | bad => rw [es] at m; exact m.elim
  | ok t =>
    rw [es] at m
    have m' : mS W (cf X B G0) δ Dn (f t) := m
    exact ⟨fun κ en σ H G Ss st w => ⟨t, G, Ss, st.weak w, m'⟩, fun _ _ _ _ _ _ _ _ z => z.elim, fun _ _ _ _ _ _ _ z => z.elim, fun _ _ _ _ _ _ _ z => z.elim⟩
  | exc e =>
    rw [es] at m
    have m1 : mS W (cf X B G0) δ Dn ((if T.contains e.cls = true then R.ok (hx (.exc e.cls e.ns e.xs)) else R.bad).bind f) := m
    by_cases hT : T.contains e.cls = true
    · rw [if_pos hT] at m1
      have m2 : mS W (cf X B G0) δ Dn (f (hx (.exc e.cls e.ns e.xs))) := m1
      intro cv xd κ' en' σ' H' G' Ss' st' w hv
      obtain ⟨⟨C, gC, eC⟩, hd⟩ := hv
      subst eC
      obtain ⟨C2, gC2, hx2⟩ := F e.cls (by simpa using hT)
      have eC : C2 = C := by
        have z := gC2.symm.trans gC
        injection z with z
        injection z
      subst eC
      refine ⟨hx2, fun a ha => ⟨hx (.exc e.cls e.ns e.xs), ?_⟩⟩
      have st1 := st'.weak w
      have a1 : Adv H' G' (upd G' a (ExK (.ref C2) xd a)) (upd H' a (ExK (.ref C2) xd a)) := Adv.newF st1.sH ha
      have st2 := (st1.forget i (some (.ref a))).set (i := j) (rk := .F) (d := .exc e.cls e.ns e.xs) (v := .ref a) (S := []) a1 ⟨⟨a, C2, xd, rfl, upd_same, gC, by
        rcases hd with ⟨z1, z2, z3⟩ | ⟨dx, fs, z0, z1, z2, z3, z4⟩
        · exact .inl ⟨z1, z2, z3⟩
        · exact .inr ⟨dx, fs, z0, z1, a1.2.1 _ _ z2, z3, z4.mono a1.2.1⟩⟩, rfl⟩ (by simpa using hjκ)
      exact ⟨_, _, (st2.forget i none).weak (hw _), m2⟩
    · rw [if_neg hT] at m1
      exact m1.elim
end
/-! ### isinstance(e, C), C a class of ours or one that is built in -/
/-- what is asked of an instance's class -/
structure InsC (K : PySem.W.Frag) (C : Addr) : Prop where
  cl : Cls K C
  ha : PySem.W.findIn K (.ref C) "__class__" = some (some (.builtin "object.__class__"))
  hn : PySem.W.specialIn K (.builtin "object.__class__") "__get__" = some (some (.builtin "getset_descriptor.__get__"))
  ht : PySem.W.takesIn K (.builtin "object.__class__") = some true
  hm : PySem.W.mroIn K C (.type "object") = some true
/-- a class's name: its answer for the class u; an instance's, an exception's -/
def IsI (K : PySem.W.Frag) (mg : Str → Option Value) (u : Value) (c : Str) (b : Bool) : Prop := ∃ C, mg c = some (.ref C) ∧ PySem.W.kitOne K (.ref C) u = some b ∧ InsC K C
def IsE (K : PySem.W.Frag) (mg : Str → Option Value) (u : Value) (c : Str) (b : Bool) : Prop := ∃ C, mg c = some (.ref C) ∧ PySem.W.kitOne K (.ref C) u = some b ∧ ExcC K C
def rIsX (K : PySem.W.Frag) : List V → Hp → VK → Prop := fun xs H Q => ∃ (x c : V) (t u : Value) (b : Bool), xs = [x, c] ∧ ClsV c u ∧ (TyX K H x t ∨ ∃ a D, x = .ref a ∧ t = .ref D ∧ ExcC K D ∧ ∃ xd, H a = some (ExK (.ref D) xd a) ∧ ∀ dx, xd = some dx → ∃ fs, H dx = some (.xd fs)) ∧ PySem.W.kitOne K t u = some b ∧ Q (.bl b) H
theorem call_isX {X : Cx} : CallR X (.builtin "isinstance") (rIsX X.K) := by
  intro pins s σ H xs us Q I r h
  obtain ⟨x, c, t, u, b, rfl, k, ty | ⟨a, D, rfl, rfl, E, xd, hE, hX⟩, e, q⟩ := h
  · exact call_isi pins s σ H _ us Q I r ⟨x, c, t, u, b, rfl, k, ty, e, q⟩
  · obtain ⟨u1, u2, rfl, r1, r2⟩ := vals2 r
    have e2 := k.eq r2
    subst e2
    cases r1
    obtain ⟨⟨oe, vs, hget, hz, hd⟩, _⟩ := (show ObjOk X.prog X.w H s.heap a (ExK (.ref D) xd a) from I.hok a _ hE)
    have hcl : (PySem.W.clsIn X.K D).isSome = true := by
      obtain ⟨cd, hc, _⟩ := PySem.W.any_some E.hd
      rw [hc]
      rfl
    have hn : PySem.W.notCls oe = true := by unfold PySem.W.notCls; rw [hd] <;> rfl
    obtain ⟨od, J⟩ : ∃ od, PySem.W.InstAt s.heap a oe D od := by
      cases xd with
      | none => exact ⟨none, hget, hz.1, hn, by rw [hz.2]; trivial⟩
      | some dx =>
        obtain ⟨fs, hf⟩ := hX dx rfl
        obtain ⟨mA, hns, _⟩ := (show ObjOk X.prog X.w H s.heap dx (.xd fs) from I.hok dx _ hf)
        obtain ⟨od, ho, _⟩ := lookIn_ns hns
        exact ⟨some od, hget, hz.1, hn, by rw [hz.2]; exact ho⟩
    exact PySem.W.kia_one (PySem.W.kitx_exc hcl E.hg E.hk E.hs E.ha E.hn E.ht E.hm) I.kIn J e (fun z => nomatch z) fun tk => ⟨.bl b, H, I.kept (t' := tk) fun _ _ z => z, rfl, q⟩
def pIsI (T : List (Str × Bool)) : D → R D
  | .obj c _ _ => match T.lookup c with
    | some b => .ok (.bl b)
    | none => .bad
  | _ => .bad
def pIsE (T : List (Str × Bool)) : D → R D
  | .exc c _ _ => match T.lookup c with
    | some b => .ok (.bl b)
    | none => .bad
  | _ => .bad
section
variable {X : Cx} {W : WX} {B G0 : Hp} {κ : List Kd} {en : List D} {e ec : Expr} {k : RK} {r : R D} {p pos : Pos} {T : List (Str × Bool)} {u : Value} {c : V}
theorem ev_isI (F : ∀ t ∈ T, IsI X.K X.mg u t.1 t.2) (h : EV X W B G0 κ en e k r) (hc : PE X ec (tC c)) (hu : ClsV c u) (hm : X.mg "isinstance" = none) (hg : Gl X "isinstance" := by rfl)
    (he : starEach [e, ec] X.env = (false, eval e X.env) :: starEach [ec] X.env := by rfl) (he2 : starEach [ec] X.env = (false, eval ec X.env) :: starEach [] X.env := by rfl) (hpl : (backTo pos (starEach [ec] X.env)).any (·.1) = false := by rfl) :
    EV X W B G0 κ en (.Call (.Name "isinstance" p) [e, ec] [] pos) .F (r.bind (pIsI T)) :=
  ⟨PE.wk (pe_callB call_isX hg hm (by decide +kernel) (pa_cons h.pe (pa_cons hc pa_nil he2) he) (he := he) (hpl := hpl)) fun σ H Q ⟨G, Ss, st, m⟩ => tEVb st m _ fun d v H1 G1 S _ a st1 rv m1 => by
    have rd := st1.rd rv
    cases d with
    | obj cl ns xs =>
      have m2 : mR W (cf X B G0) σ H1 G1 (yV (cf X B G0) H1 .F Q) (match T.lookup cl with
        | some b => .ok (.bl b)
        | none => .bad) := m1
      cases ht : T.lookup cl with
      | none => rw [ht] at m2; exact m2.elim
      | some b =>
        rw [ht] at m2
        obtain ⟨C, gC, hk, hi⟩ := F (cl, b) (mem_of_lookup ht)
        obtain ⟨a, C', dx, fs, ev, hH, gC', _⟩ := rd
        have eC : C' = C := by
          have z := gC'.symm.trans gC
          injection z with z
          injection z
        subst eC ev
        exact ⟨.ref a, c, .ref C', u, b, rfl, hu, .inl (.base (.ins hH hi.cl hi.ha hi.hn hi.ht hi.hm)), hk, m2 H1 G1 (.refl st1.sH) _ [] ⟨rfl, rfl⟩⟩
    | _ => exact m1.elim⟩
theorem ev_isE (F : ∀ t ∈ T, IsE X.K X.mg u t.1 t.2) (h : EV X W B G0 κ en e k r) (hc : PE X ec (tC c)) (hu : ClsV c u) (hm : X.mg "isinstance" = none) (hg : Gl X "isinstance" := by rfl)
    (he : starEach [e, ec] X.env = (false, eval e X.env) :: starEach [ec] X.env := by rfl) (he2 : starEach [ec] X.env = (false, eval ec X.env) :: starEach [] X.env := by rfl) (hpl : (backTo pos (starEach [ec] X.env)).any (·.1) = false := by rfl) :
    EV X W B G0 κ en (.Call (.Name "isinstance" p) [e, ec] [] pos) .F (r.bind (pIsE T)) :=
  ⟨PE.wk (pe_callB call_isX hg hm (by decide +kernel) (pa_cons h.pe (pa_cons hc pa_nil he2) he) (he := he) (hpl := hpl)) fun σ H Q ⟨G, Ss, st, m⟩ => tEVb st m _ fun d v H1 G1 S _ a st1 rv m1 => by
    have rd := st1.rd rv
    cases d with
    | exc cl ns xs =>
      have m2 : mR W (cf X B G0) σ H1 G1 (yV (cf X B G0) H1 .F Q) (match T.lookup cl with
        | some b => .ok (.bl b)
        | none => .bad) := m1
      cases ht : T.lookup cl with
      | none => rw [ht] at m2; exact m2.elim
      | some b =>
        rw [ht] at m2
        obtain ⟨C, gC, hk, hi⟩ := F (cl, b) (mem_of_lookup ht)
        obtain ⟨a, C', xd, ev, hH, gC', hd⟩ := rd
        have eC : C' = C := by
          have z := gC'.symm.trans gC
          injection z with z
          injection z
        subst eC ev
        refine ⟨.ref a, c, .ref C', u, b, rfl, hu, .inr ⟨a, C', rfl, rfl, hi, xd, hH, fun dx ex => ?_⟩, hk, m2 H1 G1 (.refl st1.sH) _ [] ⟨rfl, rfl⟩⟩
        rcases hd with ⟨_, _, z3⟩ | ⟨dy, fs, _, z1, z2, _⟩
        · rw [z3] at ex
          cases ex
        · rw [z1] at ex
          cases ex
          exact ⟨fs, z2⟩
    | _ => exact m1.elim⟩
/-- a class's name as a value -/
theorem pe_clsO {x : Str} {C : Addr} (hm : X.mg x = some (.ref C)) (hg : Gl X x := by rfl) (hdb : (x == ("__debug__" : Str)) = false := by decide) : PE X (.Name x p) (tC (.ref C)) := pe_glob (v := .ref C) hg hm rfl hdb
end
end Lw
namespace Lw
open PySem PySem.Spec PyProof.Rows L2
/-! ### methods of texts and lists -/
def pUpper : D → R D
  | .str a => if a.length ≤ 5592405 ∧ sOk (Txt.upper a) = true then .ok (.str (Txt.upper a)) else .bad
  | _ => .bad
def toStrs : List D → Option (List Str)
  | [] => some []
  | .str s :: xs => (toStrs xs).map (s :: ·)
  | _ => none
def pJoin : D → D → R D
  | .str a, .lst xs => match toStrs xs with
    | some ys => if (ys.map (·.length)).sum + ys.length * a.length ≤ 16777216 ∧ sOk (Txt.join a ys) = true then .ok (.str (Txt.join a ys)) else .bad
    | none => .bad
  | _, _ => .bad
def pSplit : D → D → R D
  | .str a, .str b => if (b.length == 0) = false ∧ a.length + 2 ≤ 16777216 ∧ (Txt.split a b).all sOk = true then .ok (.lst ((Txt.split a b).map D.str)) else .bad
  | _, _ => .bad
def pPart : D → D → R D
  | .str a, .str b => if (b.length == 0) = false ∧ sOk (Txt.partition a b).1 = true ∧ sOk (Txt.partition a b).2.1 = true ∧ sOk (Txt.partition a b).2.2 = true then .ok (.tup [.str (Txt.partition a b).1, .str (Txt.partition a b).2.1, .str (Txt.partition a b).2.2]) else .bad
  | _, _ => .bad
def idxD (d : D) : List D → Option Nat
  | [] => none
  | x :: xs => if deq x d = true then some 0 else (idxD d xs).map (· + 1)
def pIndex : D → D → R D
  | .lst xs, d => if pl (.lst xs) 20 && pl d 20 then (match idxD d xs with
    | some j => .ok (.int j)
    | none => .bad) else .bad
  | _, _ => .bad
section
variable {X : Cx} {W : WX} {B G0 : Hp} {κ : List Kd} {en : List D} {o e : Expr} {k ko : RK} {r ro : R D} {apos pos : Pos}
theorem ev_upper (h : EV X W B G0 κ en o k r) (hbase : attributeBase o "upper" X.env (eval o X.env) = eval o X.env := by rfl) (hline : (apos.endLine == pos.line) = true := by rfl) : EV X W B G0 κ en (.Call (.Attribute o "upper" apos) [] [] pos) .F (r.bind pUpper) :=
  ⟨PE.wk (pe_upper h.pe hbase hline) fun σ H Q ⟨G, Ss, st, m⟩ => tEVb st m _ fun d v H1 G1 S _ a st1 rv m1 => by
    have rd := st1.rd rv
    cases d with
    | str s =>
      have m2 : mR W (cf X B G0) σ H1 G1 (yV (cf X B G0) H1 .F Q) (if s.length ≤ 5592405 ∧ sOk (Txt.upper s) = true then .ok (.str (Txt.upper s)) else .bad) := m1
      by_cases hc : s.length ≤ 5592405 ∧ sOk (Txt.upper s) = true
      · rw [if_pos hc] at m2
        exact ⟨⟨s, rd.1⟩, s, rd.1, rfl, hc.1, m2 H1 G1 (.refl st1.sH) _ [] ⟨⟨rfl, hc.2⟩, rfl⟩⟩
      · rw [if_neg hc] at m2
        exact m2.elim
    | _ => exact m1.elim⟩
theorem toStrs_reps {K : PySem.W.Frag} {mg : Str → Option Value} {H : Hp} : ∀ {xs : List D} {vs : List V} {ys : List Str}, Reps K mg H xs vs → toStrs xs = some ys → vs = ys.map V.str
  | [], vs, ys, r, h => by
    have e : vs = [] := r
    cases h
    exact e
  | x :: xs, _, ys, ⟨v, vs, e, r, rs⟩, h => by
    subst e
    cases x with
    | str i =>
      have h' : (toStrs xs).map (i :: ·) = some ys := h
      cases q : toStrs xs with
      | none => rw [q] at h'; cases h'
      | some ms =>
        rw [q] at h'
        cases h'
        rw [toStrs_reps rs q, (show v = .str i from r.1)] <;> rfl
    | _ => cases h
def stOnly : D → R D
  | .str s => .ok (.str s)
  | _ => .bad
def lsOnly : D → R D
  | .lst s => .ok (.lst s)
  | _ => .bad
theorem bin2_only {α : Type} {ro r : R D} {g : D → R D} {f : D → D → R α} : R.bin2 (R.bind ro g) r f = ro.bind fun d => (g d).bind fun x => r.bind fun y => f x y := by
  unfold R.bin2
  rw [R.bind_assoc]
theorem ev_join (ho : EV X W B G0 κ en o ko ro) (h : EV X W B G0 κ en e k r) (hs : starEach [e] X.env = [(false, eval e X.env)] := by rfl) (hbase : attributeBase o "join" X.env (eval o X.env) = eval o X.env := by rfl) (hline : (apos.endLine == pos.line) = true := by rfl) :
    EV X W B G0 κ en (.Call (.Attribute o "join" apos) [e] [] pos) .F (R.bin2 (R.bind ro stOnly) r pJoin) :=
  ⟨PE.wk (pe_join ho.pe h.pe hs hbase hline) fun σ H Q ⟨G, Ss, st, m⟩ => tEVb st (by rw [bin2_only] at m; exact m) _ fun d v H1 G1 S _ a1 st1 rv m1 => by
    have rd := st1.rd rv
    cases d with
    | str s =>
      have m1' : mR W (cf X B G0) σ H1 G1 (yV (cf X B G0) H1 .F Q) (r.bind fun y => pJoin (.str s) y) := m1
      refine ⟨⟨s, rd.1⟩, tEVb st1 m1' _ fun d2 v2 H2 G2 S2 _ a2 st2 rv2 m2 => ?_⟩
      have rd2 := st2.rd rv2
      cases d2 with
      | lst xs =>
        have m3 : mR W (cf X B G0) σ H2 G2 (yV (cf X B G0) H2 .F Q) (match toStrs xs with
          | some ys => if (ys.map (·.length)).sum + ys.length * s.length ≤ 16777216 ∧ sOk (Txt.join s ys) = true then .ok (.str (Txt.join s ys)) else .bad
          | none => .bad) := m2
        cases et : toStrs xs with
        | none => rw [et] at m3; exact m3.elim
        | some ys =>
          rw [et] at m3
          have m4 : mR W (cf X B G0) σ H2 G2 (yV (cf X B G0) H2 .F Q) (if (ys.map (·.length)).sum + ys.length * s.length ≤ 16777216 ∧ sOk (Txt.join s ys) = true then .ok (.str (Txt.join s ys)) else .bad) := m3
          by_cases hc : (ys.map (·.length)).sum + ys.length * s.length ≤ 16777216 ∧ sOk (Txt.join s ys) = true
          · rw [if_pos hc] at m4
            obtain ⟨p, vs, ev, q, rs⟩ := rd2
            have e2 := toStrs_reps rs et
            subst e2 ev
            exact ⟨s, p, ys, rd.1, rfl, .inl (SqL.of q), hc.1, m4 H2 G2 (.refl st2.sH) _ [] ⟨⟨rfl, hc.2⟩, rfl⟩⟩
          · rw [if_neg hc] at m4
            exact m4.elim
      | _ => exact m2.elim
    | _ => exact m1.elim⟩
theorem ev_split (ho : EV X W B G0 κ en o ko ro) (h : EV X W B G0 κ en e k r) (hs : starEach [e] X.env = [(false, eval e X.env)] := by rfl) (hbase : attributeBase o "split" X.env (eval o X.env) = eval o X.env := by rfl) (hline : (apos.endLine == pos.line) = true := by rfl) :
    EV X W B G0 κ en (.Call (.Attribute o "split" apos) [e] [] pos) (.O (.L .F)) (R.bin2 (R.bind ro stOnly) r pSplit) :=
  ⟨PE.wk (pe_split ho.pe h.pe hs hbase hline) fun σ H Q ⟨G, Ss, st, m⟩ => tEVb st (by rw [bin2_only] at m; exact m) _ fun d v H1 G1 S _ a1 st1 rv m1 => by
    have rd := st1.rd rv
    cases d with
    | str s =>
      have m1' : mR W (cf X B G0) σ H1 G1 (yV (cf X B G0) H1 (.O (.L .F)) Q) (r.bind fun y => pSplit (.str s) y) := m1
      refine ⟨⟨s, rd.1⟩, tEVb st1 m1' _ fun d2 v2 H2 G2 S2 _ a2 st2 rv2 m2 => ?_⟩
      have rd2 := st2.rd rv2
      cases d2 with
      | str b =>
        have m3 : mR W (cf X B G0) σ H2 G2 (yV (cf X B G0) H2 (.O (.L .F)) Q) (if (b.length == 0) = false ∧ s.length + 2 ≤ 16777216 ∧ (Txt.split s b).all sOk = true then .ok (.lst ((Txt.split s b).map D.str)) else .bad) := m2
        by_cases hc : (b.length == 0) = false ∧ s.length + 2 ≤ 16777216 ∧ (Txt.split s b).all sOk = true
        · rw [if_pos hc] at m3
          have rs : ∀ l : List Str, l.all sOk = true → Reps X.K X.mg G2 (l.map D.str) (l.map V.str) := by
            intro l
            induction l with
            | nil => intro _; exact .nil
            | cons x l ih =>
              intro hl
              obtain ⟨h1, h2⟩ := Bool.and_eq_true_iff.mp (show (sOk x && l.all sOk) = true by simpa using hl)
              exact .cons (d := .str x) (v := .str x) ⟨rfl, h1⟩ (ih h2)
          exact ⟨s, b, rd.1, by rw [rd2.1], hc.1, by rw [sizeLine_eq]; exact hc.2.1, mk_list m3 st2.sH (.refl _) (rs _ hc.2.2)⟩
        · rw [if_neg hc] at m3
          exact m3.elim
      | _ => exact m2.elim
    | _ => exact m1.elim⟩
theorem ev_part (ho : EV X W B G0 κ en o ko ro) (h : EV X W B G0 κ en e k r) (hs : starEach [e] X.env = [(false, eval e X.env)] := by rfl) (hbase : attributeBase o "partition" X.env (eval o X.env) = eval o X.env := by rfl) (hline : (apos.endLine == pos.line) = true := by rfl) :
    EV X W B G0 κ en (.Call (.Attribute o "partition" apos) [e] [] pos) .F (R.bin2 (R.bind ro stOnly) r pPart) :=
  ⟨PE.wk (pe_partition ho.pe h.pe hs hbase hline) fun σ H Q ⟨G, Ss, st, m⟩ => tEVb st (by rw [bin2_only] at m; exact m) _ fun d v H1 G1 S _ a1 st1 rv m1 => by
    have rd := st1.rd rv
    cases d with
    | str s =>
      have m1' : mR W (cf X B G0) σ H1 G1 (yV (cf X B G0) H1 .F Q) (r.bind fun y => pPart (.str s) y) := m1
      refine ⟨⟨s, rd.1⟩, tEVb st1 m1' _ fun d2 v2 H2 G2 S2 _ a2 st2 rv2 m2 => ?_⟩
      have rd2 := st2.rd rv2
      cases d2 with
      | str b =>
        have m3 : mR W (cf X B G0) σ H2 G2 (yV (cf X B G0) H2 .F Q) (if (b.length == 0) = false ∧ sOk (Txt.partition s b).1 = true ∧ sOk (Txt.partition s b).2.1 = true ∧ sOk (Txt.partition s b).2.2 = true then .ok (.tup [.str (Txt.partition s b).1, .str (Txt.partition s b).2.1, .str (Txt.partition s b).2.2]) else .bad) := m2
        by_cases hc : (b.length == 0) = false ∧ sOk (Txt.partition s b).1 = true ∧ sOk (Txt.partition s b).2.1 = true ∧ sOk (Txt.partition s b).2.2 = true
        · rw [if_pos hc] at m3
          refine ⟨s, b, rd.1, by rw [rd2.1], hc.1, by rw [sizeLine_eq]; exact sOk_len rd.2, fun p hp => ?_⟩
          have a4 := Adv.newF (o := .tup [.str (Txt.partition s b).1, .str (Txt.partition s b).2.1, .str (Txt.partition s b).2.2]) st2.sH hp
          exact m3 _ _ a4 (.ref p) [] ⟨⟨p, _, rfl, SqT.of upd_same, .cons ⟨rfl, hc.2.1⟩ (.cons ⟨rfl, hc.2.2.1⟩ (.cons ⟨rfl, hc.2.2.2⟩ .nil))⟩, rfl⟩
        · rw [if_neg hc] at m3
          exact m3.elim
      | _ => exact m2.elim
    | _ => exact m1.elim⟩
theorem idxD_spec {d : D} : ∀ {xs : List D} {j : Nat}, idxD d xs = some j → (∃ z, xs[j]? = some z ∧ deq z d = true) ∧ ∀ m z, m < j → xs[m]? = some z → deq z d = false
  | [], j, h => by cases h
  | x :: xs, j, h => by
    unfold idxD at h
    by_cases e : deq x d = true
    · rw [if_pos e] at h
      cases h
      exact ⟨⟨x, rfl, e⟩, fun m z hm => absurd hm (Nat.not_lt_zero m)⟩
    · rw [if_neg e] at h
      obtain ⟨j', h1, rfl⟩ := Option.map_eq_some_iff.mp h
      obtain ⟨⟨z, z1, z2⟩, z3⟩ := idxD_spec h1
      refine ⟨⟨z, by simpa using z1, z2⟩, fun m z hm hz => ?_⟩
      cases m with
      | zero =>
        have e2 : x = z := by simpa using hz
        subst e2
        simpa using e
      | succ m => exact z3 m z (by omega) (by simpa using hz)
theorem pys_get : ∀ {xs : List D} {m : Nat} {z' : PyData}, (pys xs)[m]? = some z' → ∃ z, xs[m]? = some z ∧ z' = py z
  | [], m, z', h => by simp [pys] at h
  | x :: xs, 0, z', h => by
    have e : py x = z' := by simpa [pys] using h
    exact ⟨x, rfl, e.symm⟩
  | x :: xs, m + 1, z', h => by
    obtain ⟨z, h1, h2⟩ := pys_get (xs := xs) (m := m) (by simpa [pys] using h)
    exact ⟨z, by simpa using h1, h2⟩
theorem pys_get' : ∀ {xs : List D} {m : Nat} {z : D}, xs[m]? = some z → (pys xs)[m]? = some (py z)
  | [], m, z, h => by simp at h
  | x :: xs, 0, z, h => by
    have e : x = z := by simpa using h
    subst e
    simp [pys]
  | x :: xs, m + 1, z, h => by simpa [pys] using pys_get' (xs := xs) (m := m) (by simpa using h)
theorem ev_index (hu : X.A.units + 65 < cLine) (ho : EV X W B G0 κ en o ko ro) (h : EV X W B G0 κ en e k r) (hs : starEach [e] X.env = (false, eval e X.env) :: starEach [] X.env := by rfl) (hbase : attributeBase o "index" X.env (eval o X.env) = eval o X.env := by rfl) (hline : (apos.endLine == pos.line) = true := by rfl)
    (hfew : ((backTo pos (starEach [e] X.env)).all (fun x => !x.1) && (backToKw pos (keywordEach [] X.env)).all (fun x => x.1.isSome) && decide ([e].length + ([] : List Keyword).length + (if ([] : List Keyword).isEmpty then 0 else 1) < 30)) = true := by rfl)
    (hpl : (backTo pos (starEach [] X.env)).any (·.1) = false := by rfl) :
    EV X W B G0 κ en (.Call (.Attribute o "index" apos) [e] [] pos) .F (R.bin2 (R.bind ro lsOnly) r pIndex) :=
  ⟨PE.wk (pe_bm PySem.F.plainAttrs_list PySem.F.slot_list_index PySem.F.type_list_index (mt_indexD hu) ho.pe (pa_cons h.pe pa_nil hs) hbase hfew hline hs hpl) fun σ H Q ⟨G, Ss, st, m⟩ => tEVb st (by rw [bin2_only] at m; exact m) _ fun d v H1 G1 S _ a1 st1 rv m1 => by
    have rd := st1.rd rv
    cases d with
    | lst xs =>
      have m1' : mR W (cf X B G0) σ H1 G1 (yV (cf X B G0) H1 .F Q) (r.bind fun y => pIndex (.lst xs) y) := m1
      obtain ⟨p, vs, ev, q, rs⟩ := id rd
      subst ev
      refine ⟨.inl ⟨rfl, vs, SqL.of q⟩, tEVb st1 m1' _ fun d2 v2 H2 G2 S2 _ a2 st2 rv2 m2 => ?_⟩
      have rd1 := rd.mono a2.1
      have rd2 := st2.rd rv2
      have m3 : mR W (cf X B G0) σ H2 G2 (yV (cf X B G0) H2 .F Q) (if pl (.lst xs) 20 && pl d2 20 then (match idxD d2 xs with
        | some j => .ok (.int j)
        | none => .bad) else .bad) := m2
      cases e1 : pl (.lst xs) 20 && pl d2 20 with
      | false => rw [e1] at m3; exact m3.elim
      | true =>
        rw [e1, if_pos rfl] at m3
        obtain ⟨h1, h2⟩ := Bool.and_eq_true_iff.mp e1
        cases ei : idxD d2 xs with
        | none => rw [ei] at m3; exact m3.elim
        | some j =>
          rw [ei] at m3
          obtain ⟨⟨z, z1, z2⟩, z3⟩ := idxD_spec ei
          have e2 : py (.lst xs) = .list (pys xs) := by simp [py]
          refine ⟨p, v2, py d2, pys xs, j, py z, rfl, rfl, by rw [← e2]; exact rd1.dp h1, rd2.dp h2, by rw [← e2]; exact rd1.shaped h1, rd2.shaped h2, pys_get' z1, by rw [deq_py]; exact z2, fun m z' hm hz => ?_, m3 H2 G2 (.refl st2.sH) _ [] ⟨rfl, rfl⟩⟩
          obtain ⟨w, w1, w2⟩ := pys_get hz
          subst w2
          rw [deq_py]
          exact z3 m w hm w1
    | _ => exact m1.elim⟩
end
/-! ### o.m(), the class told by the value -/
section
variable {X : Cx} {W : WX} {B G0 : Hp} {κ : List Kd} {en : List D} {e o : Expr} {ko rk : RK} {ro : R D} {q : PK} {k : Nat} {m : Str} {apos pos : Pos}
theorem ev_methT0 {pl : Sem Bool} {T : List (Str × (List D → R D))} (F : ∀ t ∈ T, FM X.prog X.w X.K X.mg X.base k t.1 m t.2 [q] rk) (hT : T ≠ []) (hr : Room k X.A) (tk : Takes X W) (ho : EV X W B G0 κ en o ko ro) (hq : q = .B ∨ (q = .F ∧ ko = .F)) (hro : rk.out = true := by rfl)
    (ht : eval (.Call (.Attribute o m apos) [] [] pos) X.env = (do
      let ov ← eval o X.env
      standAt apos.atName
      let (f, first) ← holding [ov] (getMethod ov m pl)
      callWith pos f first (backTo pos (starEach [] X.env)) (backToKw pos (keywordEach [] X.env))) := by rfl) :
    EV X W B G0 κ en (.Call (.Attribute o m apos) [] [] pos) rk (ro.bind fun d => (dsp T m d).bind fun f => f [d]) := by
  have one : ∀ t ∈ T, EV X W B G0 κ en (.Call (.Attribute o m apos) [] [] pos) rk ((ro.bind (asObj t.1 m)).bind fun d => t.2 [d]) := fun t h => ev_meth0 (F t h) hr tk ho hq hro ht
  cases ro with
  | bad =>
    obtain ⟨t, T', rfl⟩ := List.exists_cons_of_ne_nil hT
    exact one t List.mem_cons_self
  | exc x =>
    obtain ⟨t, T', rfl⟩ := List.exists_cons_of_ne_nil hT
    exact one t List.mem_cons_self
  | ok d =>
    cases hl : T.lookup (clsOf d) with
    | none =>
      obtain ⟨t, T', e⟩ := List.exists_cons_of_ne_nil hT
      have z := one t (by rw [e]; exact List.mem_cons_self)
      refine ⟨PE.wk z.pe fun σ H Q ⟨G, Ss, st, m0⟩ => ?_⟩
      have m' : mR W (cf X B G0) σ H G (yV (cf X B G0) H rk Q) ((dsp T m d).bind fun f => f [d]) := m0
      unfold dsp at m'
      rw [hl] at m'
      exact m'.elim
    | some f =>
      have z := one (clsOf d, f) (mem_of_lookup hl)
      refine z.cast ?_
      show ((asObj (clsOf d) m d).bind fun d => f [d]) = ((dsp T m d).bind fun f => f [d])
      unfold dsp
      rw [hl]
      show _ = (((asObj (clsOf d) m d).bind fun _ => .ok f).bind fun f => f [d])
      rw [R.bind_assoc]
      cases ha : asObj (clsOf d) m d with
      | bad => rfl
      | exc x => rfl
      | ok d' =>
        have e : d' = d := by
          cases d with
          | obj c ns xs =>
            have h' : (if c = c ∧ ns.contains m = false then R.ok (D.obj c ns xs) else .bad) = .ok d' := ha
            split at h'
            · cases h'; rfl
            · cases h'
          | _ => cases ha
        rw [e] <;> rfl
end
end Lw
namespace Lw
open PySem PySem.Spec PyProof.Rows L2
/-! ### the same with the class told by its name -/
def IsIO (K : PySem.W.Frag) (mg : Str → Option Value) (y : Str) (T : List (Str × Bool)) : Prop := ∃ C, mg y = some (.ref C) ∧ ∀ t ∈ T, IsI K mg (.ref C) t.1 t.2
def IsEO (K : PySem.W.Frag) (mg : Str → Option Value) (y : Str) (T : List (Str × Bool)) : Prop := ∃ C, mg y = some (.ref C) ∧ ∀ t ∈ T, IsE K mg (.ref C) t.1 t.2
def IsEB (K : PySem.W.Frag) (mg : Str → Option Value) (y : String) (T : List (Str × Bool)) : Prop := ∀ t ∈ T, IsE K mg (.type y) t.1 t.2
def CatO (K : PySem.W.Frag) (mg : Str → Option Value) (y : Str) (T : List Str) : Prop := ∃ C, mg y = some (.ref C) ∧ ∀ c ∈ T, CatD K mg (.ref C) c
section
variable {X : Cx} {W : WX} {B G0 : Hp} {κ : List Kd} {en : List D} {e : Expr} {k : RK} {r : R D} {p p2 pos : Pos} {T : List (Str × Bool)} {y : Str} {ty : String}
theorem ev_isIO (F : IsIO X.K X.mg y T) (h : EV X W B G0 κ en e k r) (hm : X.mg "isinstance" = none) (hg : Gl X "isinstance" := by rfl) (hgy : Gl X y := by rfl) (hdb : (y == ("__debug__" : Str)) = false := by decide)
    (he : starEach [e, .Name y p2] X.env = (false, eval e X.env) :: starEach [.Name y p2] X.env := by rfl) (he2 : starEach [.Name y p2] X.env = (false, eval (.Name y p2) X.env) :: starEach [] X.env := by rfl) (hpl : (backTo pos (starEach [.Name y p2] X.env)).any (·.1) = false := by rfl) :
    EV X W B G0 κ en (.Call (.Name "isinstance" p) [e, .Name y p2] [] pos) .F (r.bind (pIsI T)) := by
  obtain ⟨C, gC, F⟩ := F
  exact ev_isI F h (pe_clsO gC hgy hdb) (.own C) hm hg he he2 hpl
theorem ev_isEO (F : IsEO X.K X.mg y T) (h : EV X W B G0 κ en e k r) (hm : X.mg "isinstance" = none) (hg : Gl X "isinstance" := by rfl) (hgy : Gl X y := by rfl) (hdb : (y == ("__debug__" : Str)) = false := by decide)
    (he : starEach [e, .Name y p2] X.env = (false, eval e X.env) :: starEach [.Name y p2] X.env := by rfl) (he2 : starEach [.Name y p2] X.env = (false, eval (.Name y p2) X.env) :: starEach [] X.env := by rfl) (hpl : (backTo pos (starEach [.Name y p2] X.env)).any (·.1) = false := by rfl) :
    EV X W B G0 κ en (.Call (.Name "isinstance" p) [e, .Name y p2] [] pos) .F (r.bind (pIsE T)) := by
  obtain ⟨C, gC, F⟩ := F
  exact ev_isE F h (pe_clsO gC hgy hdb) (.own C) hm hg he he2 hpl
theorem ev_isEB (F : IsEB X.K X.mg ty T) (h : EV X W B G0 κ en e k r) (hm : X.mg "isinstance" = none) (hmT : X.mg y = none) (hv : bootBuiltins y = some (.type ty)) (hg : Gl X "isinstance" := by rfl) (hgy : Gl X y := by rfl) (hn : y ≠ "__name__" := by decide) (hdb : (y == ("__debug__" : Str)) = false := by decide)
    (he : starEach [e, .Name y p2] X.env = (false, eval e X.env) :: starEach [.Name y p2] X.env := by rfl) (he2 : starEach [.Name y p2] X.env = (false, eval (.Name y p2) X.env) :: starEach [] X.env := by rfl) (hpl : (backTo pos (starEach [.Name y p2] X.env)).any (·.1) = false := by rfl) :
    EV X W B G0 κ en (.Call (.Name "isinstance" p) [e, .Name y p2] [] pos) .F (r.bind (pIsE T)) :=
  ev_isE F h (pe_bltn (v := .ty ty) hgy hmT hv rfl hn hdb) (.ty ty) hm hg he he2 hpl
end
section
variable {α τ : Type} {X : Cx} {W : WX} {B G0 : Hp} {κ : List Kd} {en : List D} {δ : DE α} {rest body : List Stmt} {x n y : Str} {i j : Nat} {np np2 yp ap pos pos' : Pos} {s : R τ} {f : τ → R α}
theorem sv_tryO (T : List Str) (κJ : List Kd) (vw : τ → List D) (κE : List Kd) (enE : List D) (hx : D → τ) (F : CatO X.K X.mg x T)
    (hb : ∀ (W : WX) (pn : List (Addr × Obj)) (xe : Value → Shared → Prop), Takes (X.tr pn xe) W → PassesOwn (model X.prog X.w) X.A X.env xe → SV (X.tr pn xe) W B G0 κ en body (δ.tryJ κJ vw κE enE) s)
    (hw : ∀ d, Wk (((κE.set i .N).set j .F).set i .N) (enE.set j d) κJ (vw (hx d))) (hr : ∀ t, SV X W B G0 κJ (vw t) rest δ (f t)) (hN : X.N.Nodup) (hgx : Gl X x := by rfl) (hdx : (x == ("__debug__" : Str)) = false := by decide)
    (hij : i ≠ j := by decide) (hjκ : j < κE.length := by first | decide | simp) (hi : X.N[i]? = some n := by rfl) (hj : X.N[j]? = some y := by rfl) (hln : X.env.kindOf n = some .local := by rfl) (hly : X.env.kindOf y = some .local := by rfl)
    (hs : X.stack = X.env :: X.outer := by rfl) (hf : X.env.frame = some X.env.locals := by rfl) (hx0 : X.ex = [] := by rfl)
    (hdb : (n == ("__debug__" : Str)) = false := by decide) (hcd : (n == ("__classdict__" : Str)) = false := by decide) (hsw : ∀ Z : Cx, Z.env = X.env → swapsWith (.Name n np2) (some (.Name y yp)) ap.line Z.env = pure false := by intro _ h; rw [h]; rfl)
    (hiκ : i < κ.length := by first | decide | simp) :
    SV X W B G0 κ en (.Try body [.ExceptHandler (some (.Name x np)) (some n) [.Assign [.Name y yp] (.Name n np2) ap] pos'] [] [] pos :: rest) δ ((rTry T s hx).bind f) := by
  obtain ⟨C, gC, F⟩ := F
  exact sv_try T κJ vw κE enE hx F ⟨hgx, hdx, .inl gC⟩ hb hw hr hN hij hjκ hi hj hln hly hs hf hx0 hdb hcd hsw hiκ
end
end Lw
namespace Lw
open PySem PySem.Spec PyProof.Rows L2
/-! ### fields of own objects -/
/-- a class that has the field f in its objects alone -/
def FldD (K : PySem.W.Frag) (mg : Str → Option Value) (cl f : Str) : Prop := ∃ C, mg cl = some (.ref C) ∧ Cls K C ∧ NoAttr K C f
def lookF (f : Str) : List Str → List D → R D
  | n :: ns, d :: ds => if f = n then .ok d else lookF f ns ds
  | _, _ => .bad
def pFld (cl f : Str) : D → R D
  | .obj c ns xs => if c = cl then lookF f ns xs else .bad
  | _ => .bad
theorem lookF_ok {K : PySem.W.Frag} {mg : Str → Option Value} {G : Hp} {f : Str} : ∀ {fs : List (Str × V)} {ds : List D} {d : D}, lookF f (fs.map (·.1)) ds = .ok d → Reps K mg G ds (fs.map (·.2)) → ∃ v, fs.lookup f = some v ∧ Rep K mg G d v
  | [], ds, d, h, r => by cases h
  | (n, w) :: fs, [], d, h, r => by cases h
  | (n, w) :: fs, x :: ds, d, h, r => by
    obtain ⟨v, vs, e, r1, r2⟩ := r
    cases e
    have h' : (if f = n then R.ok x else lookF f (fs.map (·.1)) ds) = .ok d := h
    by_cases z : f = n
    · rw [if_pos z] at h'
      cases h'
      refine ⟨w, ?_, r1⟩
      rw [List.lookup_cons, beq_iff_eq.mpr z]
    · rw [if_neg z] at h'
      obtain ⟨v, e1, e2⟩ := lookF_ok h' r2
      refine ⟨v, ?_, e2⟩
      rw [List.lookup_cons, beq_eq_false_iff_ne.mpr z]
      exact e1
theorem lookF_nx {f : Str} : ∀ {ns : List Str} {ds : List D} {x : Ex}, lookF f ns ds = .exc x → False
  | [], ds, x, h => by cases h
  | n :: ns, [], x, h => by cases h
  | n :: ns, d :: ds, x, h => by
    have h' : (if f = n then R.ok d else lookF f ns ds) = .exc x := h
    by_cases z : f = n
    · rw [if_pos z] at h'; cases h'
    · rw [if_neg z] at h'; exact lookF_nx h'
section
variable {X : Cx} {W : WX} {B G0 : Hp} {κ : List Kd} {en : List D} {e : Expr} {k : RK} {r : R D} {pos : Pos} {cl f : Str}
/-- e.f of a frozen object -/
theorem ev_fld (F : FldD X.K X.mg cl f) (h : EV X W B G0 κ en e .F r) (hb : attributeBase e f X.env (eval e X.env) = eval e X.env := by rfl) : EV X W B G0 κ en (.Attribute e f pos) .F (r.bind (pFld cl f)) :=
  ⟨PE.wk (pe_fld h.pe hb) fun σ H Q ⟨G, Ss, st, m⟩ => tEVb st m _ fun d v H1 G1 S _ a st1 rv m1 => by
    obtain ⟨C, gC, cC, nC⟩ := F
    cases d with
    | obj c ns xs =>
      have m2 : mR W (cf X B G0) σ H1 G1 (yV (cf X B G0) H1 .F Q) (if c = cl then lookF f ns xs else .bad) := m1
      by_cases ec : c = cl
      · rw [if_pos ec] at m2
        subst ec
        obtain ⟨⟨a, C', dx, fs, ev, hG, gC', hn, rs⟩, _⟩ := rv
        have eC : C' = C := by
          have z := gC'.symm.trans gC
          injection z with z
          injection z
        subst eC ev hn
        cases el : lookF f (fs.map (·.1)) xs with
        | bad => rw [el] at m2; exact m2.elim
        | exc x => exact (lookF_nx el).elim
        | ok d =>
          rw [el] at m2
          obtain ⟨v, e1, e2⟩ := lookF_ok el rs
          exact ⟨a, C', dx, fs, v, rfl, st1.sH _ _ hG, cC, nC, e1, m2 H1 G1 (.refl st1.sH) v [] ⟨e2, rfl⟩⟩
      · rw [if_neg ec] at m2; exact m2.elim
    | _ => exact m1.elim⟩
/-- self.f of an object that is being made -/
theorem ev_fldI {i : Nat} {d0 : D} {q : Addr} (F : FldD X.K X.mg cl f) (p : PE X e (tVar i)) (hk : κ[i]? = some (.I q)) (hd : en[i]? = some d0) (hb : attributeBase e f X.env (eval e X.env) = eval e X.env := by rfl) : EV X W B G0 κ en (.Attribute e f pos) .F (pFld cl f d0) :=
  ⟨PE.wk (pe_fld p hb) fun σ H Q ⟨G, Ss, st, m⟩ => by
    obtain ⟨C, gC, cC, nC⟩ := F
    obtain ⟨v, d', h1, h2, C', dx, fs, cl', ns, ds, e1, e2, e3, e4, e5, e6, e7⟩ := st.slot i (.I q) hk (by intro z; cases z)
    rw [hd] at h2
    cases h2
    subst e3 e1 e6
    refine ⟨_, h1, ?_⟩
    have m2 : mR W (cf X B G0) σ H G (yV (cf X B G0) H .F Q) (if cl' = cl then lookF f (fs.map (·.1)) ds else .bad) := m
    by_cases ec : cl' = cl
    · rw [if_pos ec] at m2
      subst ec
      have eC : C' = C := by
        have z := e5.symm.trans gC
        injection z with z
        injection z
      subst eC
      cases el : lookF f (fs.map (·.1)) ds with
      | bad => rw [el] at m2; exact m2.elim
      | exc x => exact (lookF_nx el).elim
      | ok d =>
        rw [el] at m2
        obtain ⟨v, e1, e2⟩ := lookF_ok el e7
        exact ⟨q, C', dx, fs, v, rfl, e4, cC, nC, e1, m2 H G (.refl st.sH) v [] ⟨e2, rfl⟩⟩
    · rw [if_neg ec] at m2; exact m2.elim⟩
end
/-- a field more -/
def putL (cl f : Str) (d : D) : D → R D
  | .obj c ns xs => if c = cl ∧ ns.contains f = false ∧ ns.length = xs.length ∧ ns.length < 1000 then .ok (.obj c (ns ++ [f]) (xs ++ [d])) else .bad
  | _ => .bad
theorem putF_new {f : Str} {v : V} : ∀ {fs : List (Str × V)}, (fs.map (·.1)).contains f = false → putF f v fs = fs ++ [(f, v)]
  | [], _ => rfl
  | (g, x) :: fs, h => by
    rw [List.map_cons, List.contains_cons] at h
    obtain ⟨h1, h2⟩ := Bool.or_eq_false_iff.mp h
    show (if g = f then (g, v) :: fs else (g, x) :: putF f v fs) = _
    have ne : ¬ g = f := fun e => by subst e; simp at h1
    rw [if_neg ne, putF_new h2] <;> rfl
section
variable {α : Type} {X : Cx} {W : WX} {B G0 : Hp} {κ : List Kd} {en : List D} {e o : Expr} {r : R D} {δ : DE α} {pos pos' : Pos} {rest : List Stmt} {cl f : Str} {d0 : D} {ns0 : List Str} {xs0 : List D}
/-- self.f = e, self being made -/
theorem sv_fld {i : Nat} {q : Addr} {g : D → R α} (F : FldD X.K X.mg cl f) (p : PE X o (tVar i)) (he : EV X W B G0 κ en e .F r) (hr : ∀ d, SV X W B G0 κ (en.set i d) rest δ (g d)) (hk : κ[i]? = some (.I q) := by rfl) (hd : en[i]? = some d0 := by rfl)
    (hex : δ.ex κ en := by exact True.intro) (hs : swapsWith e (some (.Attribute o f pos')) pos.line X.env = pure false := by rfl) : SV X W B G0 κ en (.Assign [.Attribute o f pos'] e pos :: rest) δ (r.bind fun d => (putL cl f d d0).bind g) :=
  ⟨PSs.wk (pss_cons (ps_fld p he.pe hs) (PSs.all fun d => (hr d).ps)) fun Dn σ H ⟨G, Ss, st, m⟩ => ⟨G, Ss, st, mS.toR st m hex fun d H1 G1 a st1 m1 v S rv => by
    obtain ⟨C, gC, cC, nC⟩ := F
    obtain ⟨v0, d', h1, h2, C', dx, fs, cl', ns, ds, e1, e2, e3, e4, e5, e6, e7⟩ := st1.slot i (.I q) hk (by intro z; cases z)
    rw [hd] at h2
    cases h2
    subst e3 e1 e6
    have m2 : mS W (cf X B G0) δ Dn ((if cl' = cl ∧ (fs.map (·.1)).contains f = false ∧ (fs.map (·.1)).length = ds.length ∧ (fs.map (·.1)).length < 1000 then R.ok (D.obj cl' (fs.map (·.1) ++ [f]) (ds ++ [d])) else R.bad).bind g) := m1
    by_cases hc : cl' = cl ∧ (fs.map (·.1)).contains f = false ∧ (fs.map (·.1)).length = ds.length ∧ (fs.map (·.1)).length < 1000
    case neg =>
      rw [if_neg hc] at m2
      exact m2.elim
    rw [if_pos hc] at m2
    obtain ⟨ec, hc⟩ := hc
    subst ec
    have eC : C' = C := by
      have z := e5.symm.trans gC
      injection z with z
      injection z
    subst eC
    refine ⟨_, h1, q, C', dx, fs, rfl, e4, cC, nC, by simpa using hc.2.2, D.obj cl' (fs.map (·.1) ++ [f]) (ds ++ [d]), G1, Ss, ?_, m2⟩
    rw [putF_new hc.1]
    refine st1.put hk (by intro z; cases z) (by rw [e2]; exact List.mem_cons_self) h1 ?_
    rw [e2]
    exact ⟨C', dx, fs ++ [(f, v)], cl', _, _, rfl, rfl, rfl, upd_same, gC, by simp, by simpa using e7.snoc rv.1⟩⟩⟩
end
/-! ### an __init__, C(..) -/
theorem delH_sub {H : Hp} {p : Addr} : Same (delH H p) H := fun b o q => by
  by_cases e : b = p
  · rw [e, delH_same] at q; cases q
  · rw [delH_ne e] at q; exact q
/-- what an __init__ promises: the object as f tells -/
def spI (K : PySem.W.Frag) (mg : Str → Option Value) (cl : Str) (pk : List PK) (f : List D → R D) : Sp := fun vs H Q E =>
  ∃ G ds p C dx ws, vs = .ref p :: ws ∧ H p = some (.ins C dx []) ∧ mg cl = some (.ref C) ∧ Same G (delH H p) ∧ ArgsR K mg (delH H p) G pk ds ws ∧
    mR (fun cv xd _ H' => E cv xd H') ⟨K, mg, delH H p, G⟩ [] (delH H p) G (fun d H' G' => RepK ⟨K, mg, delH H p, G⟩ H' G' (.I p) d (.ref p) [p] → G' p = none → Q .non H') (f ds)
def dIni (p : Addr) : DE D := ⟨fun κ en a => κ[0]? = some (.I p) ∧ en[0]? = some a, fun _ _ _ => False, fun _ _ => True, fun _ _ _ => False, fun _ _ _ => False⟩
def MkI (P : Program) (w : World) (K : PySem.W.Frag) (mg : Str → Option Value) (base : Heap) (k : Nat) (cl : Str) (pk : List PK) (f : List D → R D) : Prop :=
  ∃ C fi fd ps, mg cl = some (.ref C) ∧ Mk K C fi ∧ Binds K fd ps [] ∧ FnOk P w K mg base (L2.CX P w) k fi fd ps (spI K mg cl pk f)
section
variable {P : Program} {w : World} {K : PySem.W.Frag} {mg : Str → Option Value} {base : Heap}
theorem fi_ok {x qual cl : Str} {params : Arguments} {body : List Stmt} {sc : Scope} {fa : Addr} {fd : FuncData} {N ps : List Str} {k : Nat} {pk : List PK} (m : Nat) {f : List D → R D} (F : FunD K x qual params body sc [] [] fa fd) (S : FnScope N ps sc) (hl : ps.length = pk.length + 1) (hN : N.length = pk.length + 1 + m)
    (hb : ∀ (cdv : Value) (A : Around) (outer : List Env) (s : Shared) (H B : Hp) (p : Addr) (E : XK) (G : Hp) (ds : List D), Room k (A.deeper (envOfC qual sc s.heap.objs.size fa cdv)) → ds.length = pk.length →
      SV (cxOf (L2.CX P w) P w K mg base N qual sc fa cdv A outer s H E) (fun cv xd _ H' => E cv xd H') B G (.I p :: (pkK pk ++ List.replicate m .N)) (.obj cl [] [] :: (ds ++ List.replicate m .non)) body (dIni p) (f ds)) :
    FnOk P w K mg base (L2.CX P w) (k + 1) fa fd ps (spI K mg cl pk f) := by
  refine F.ok S (fun vs H Q E ⟨G, ds, p, C, dx, ws, e, _, _, _, rs, _⟩ => ?_) (fun cdv A outer s H vs Q E hr ⟨G, ds, p, C, dx, ws, e, hp, gC, sG, rs, mm⟩ => ?_)
  · subst e
    obtain ⟨l1, l2⟩ := rs.length
    simp
    omega
  · subst e
    obtain ⟨l1, l2⟩ := rs.length
    have hn : ds.length = pk.length := l1.symm
    have sH : Same G H := sG.trans delH_sub
    have gp : G p = none := by
      cases q : G p with
      | none => rfl
      | some o =>
        have z := sG _ _ q
        rw [delH_same] at z
        cases z
    have hw : ws.length = pk.length := by omega
    have st : St ⟨K, mg, delH H p, G⟩ (.I p :: (pkK pk ++ List.replicate m .N)) (.obj cl [] [] :: (ds ++ List.replicate m .non)) (L2.start N (.ref p :: ws)) H G (fun i => if i = 0 then [p] else []) := by
      refine ⟨⟨?_, ?_⟩, fun i k hk hne => ?_, fun i q hq => ?_, fun i => ?_, fun i j q hij h1 h2 => ?_, delH_sub, .refl _, sH, fun _ _ h => .inl h⟩
      · unfold L2.start
        simp [pkK]
        omega
      · simp [hn, pkK]
      · cases i with
        | zero =>
          have e : Kd.I p = k := by simpa using hk
          subst e
          exact ⟨.ref p, _, rfl, rfl, C, dx, [], cl, [], [], rfl, rfl, rfl, hp, gC, rfl, .nil⟩
        | succ j =>
          have hk' : (pkK pk ++ List.replicate m Kd.N)[j]? = some k := by simpa using hk
          rcases Nat.lt_or_ge j pk.length with hj | hj
          · rw [List.getElem?_append_left (by simpa [pkK] using hj)] at hk'
            unfold pkK at hk'
            rw [List.getElem?_map] at hk'
            cases eb : pk[j]? with
            | none => rw [eb] at hk'; cases hk'
            | some b =>
              rw [eb] at hk'
              have e : b.kd = k := by simpa using hk'
              subst e
              obtain ⟨v, d, e1, e2, e3⟩ := rs.get eb
              refine ⟨v, d, ?_, ?_, ?_⟩
              · unfold L2.start
                rw [List.getElem?_append_left (by simp; omega)]
                simp [e1]
              · rw [List.getElem?_cons_succ, List.getElem?_append_left (by omega)]
                exact e2
              · rw [if_neg (Nat.succ_ne_zero j)]
                cases b with
                | F => exact ⟨e3, rfl⟩
                | B => exact ⟨e3, rfl⟩
                | E => exact ⟨e3, rfl⟩
          · rw [List.getElem?_append_right (by simpa [pkK] using hj)] at hk'
            have e := List.eq_of_mem_replicate (List.mem_of_getElem? hk')
            exact absurd e hne
      · by_cases e : i = 0
        · rw [if_pos e] at hq
          have e2 : q = p := by simpa using hq
          subst e2
          exact ⟨gp, delH_same, _, hp⟩
        · rw [if_neg e] at hq
          cases hq
      · by_cases e : i = 0
        · rw [if_pos e]; simp
        · rw [if_neg e]; exact List.Pairwise.nil
      · by_cases e : i = 0
        · by_cases e2 : j = 0
          · exact hij (by rw [e, e2])
          · rw [if_neg e2] at h2; cases h2
        · rw [if_neg e] at h1; cases h1
    refine ⟨_, (hb cdv A outer s H (delH H p) p E G ds hr hn).ps, G, _, st, ?_⟩
    cases hf : f ds with
    | bad => rw [hf] at mm; exact mm.elim
    | exc x =>
      rw [hf] at mm
      exact fun cv xd κ en σ H' G' Ss st _ hv => mm cv xd H' G' st.adv0 hv
    | ok d =>
      rw [hf] at mm
      refine ⟨fun κ en σ H' G' Ss st ⟨e1, e2⟩ => ?_, fun _ _ _ _ _ _ _ _ z => z.elim, fun _ _ _ _ _ _ _ z => z.elim, fun _ _ _ _ _ _ _ z => z.elim⟩
      obtain ⟨v, d', h1, h2, h3⟩ := st.slot 0 _ e1 (by intro z; cases z)
      rw [e2] at h2
      cases h2
      obtain ⟨C', dx', fs, cl', ns, xs, z1, z2, z3⟩ := id h3
      have gp' : G' p = none := by
        have z := st.own 0 p (by rw [z2]; exact List.mem_cons_self)
        exact z.1
      refine mm H' G' st.adv0 ?_ gp'
      rw [z1, z2] at h3
      exact h3
end
section
variable {X : Cx} {CX : CXT} {k : Nat} {f C : Addr} {fd : FuncData} {ps : List Str} {sp : Sp} {E : L2.St → XK} {x : Str} {p pos : Pos} {e : Expr} {es : List Expr} {t : TA}
theorem run_makeS {pins : List (Addr × Obj)} {σ : L2.St} {H : Hp} {s : Shared} {Q : VK} {us : List Value} {vs : List V} (M : Mk X.K C f) (F : FnOk X.prog X.w X.K X.mg X.base CX k f fd ps sp) (hr : Room (k + 1) X.A) (hb : Binds X.K fd ps [])
    (hx : PassesAt CX X σ (E σ)) (I : Inv X pins σ H s) (r : Vals vs us)
    (h : ∀ x dx, H x = none → H dx = none → dx ≠ x → sp (.ref x :: vs) (upd (upd H dx (.own x)) x (.ins C dx [])) (fun v H2 => v = .non ∧ Q (.ref x) H2) (E σ)) :
    wpAny (model X.prog X.w) X.A (call (.ref C) us) (EP X pins σ Q) X.xe s := by
  have hq := h (s.heap.objs.size + 1) s.heap.objs.size (I.hok.fresh (Nat.le_succ _)) (I.hok.fresh (Nat.le_refl _)) (Nat.ne_of_lt (Nat.lt_succ_self _))
  have I2 := Inv.made (C := C) I
  have r2 : Vals (V.ref (s.heap.objs.size + 1) :: vs) (Value.ref (s.heap.objs.size + 1) :: us) := .cons rfl r
  have hl : (Value.ref (s.heap.objs.size + 1) :: us).length = ps.length := by
    rw [← r2.length]
    exact F.len _ _ _ _ hq
  have b := hb _ (Value.ref (s.heap.objs.size + 1) :: us) I2.kIn (by rw [List.append_nil]; exact hl)
  rw [List.append_nil] at b
  refine wpAny_call (make_map (f := f) I.kIn M.makes M.init (beq_iff_eq.mp M.fn) (codeAny_mono (F.run _ X.stack _ _ ⟨Value.ref (s.heap.objs.size + 1) :: us, []⟩ (Value.ref (s.heap.objs.size + 1) :: us) _ _ (E σ) (hr.make C us [])
    (I2.env0.make C us []) b r2 hq) fun r s' hq' => ?_))
  cases r with
  | error e => exact hx pins _ _ e s' I2 hq'
  | ok fl =>
    cases fl with
    | ret u =>
      obtain ⟨v, H', I3, rv, ev, q3⟩ := I2.after hq'
      subst ev
      exact ⟨rv, ⟨V.ref (s.heap.objs.size + 1), H', I3, rfl, q3⟩⟩
    | next => exact False.elim hq'
    | brk => exact False.elim hq'
    | cont => exact False.elim hq'
def tMakeS (C : Addr) (sp : Sp) (E : L2.St → XK) (t : TA) : TE := fun σ H Q => t σ H fun vs H1 => ∀ x dx, H1 x = none → H1 dx = none → dx ≠ x →
  sp (.ref x :: vs) (upd (upd H1 dx (.own x)) x (.ins C dx [])) (fun v H2 => v = .non ∧ Q (.ref x) H2) (E σ)
theorem pe_makeS (M : Mk X.K C f) (F : FnOk X.prog X.w X.K X.mg X.base CX k f fd ps sp) (hr : Room (k + 1) X.A) (hg : Gl X x) (hm : X.mg x = some (.ref C)) (hb : Binds X.K fd ps []) (hx : ∀ σ, PassesAt CX X σ (E σ))
    (ha : PA X (e :: es) t) (hdb : (x == ("__debug__" : Str)) = false := by decide) (he : starEach (e :: es) X.env = (false, eval e X.env) :: starEach es X.env := by rfl) (hpl : (backTo pos (starEach es X.env)).any (·.1) = false := by rfl) :
    PE X (.Call (.Name x p) (e :: es) [] pos) (tMakeS C sp E t) := by
  refine ⟨fun pins s σ H Q I h => ?_⟩
  refine wpAny_Call_Name_kw (ld_glob I hg hm ?_ hdb)
  refine PySem.W.callWith_K (h₀ := X.base) I.ok.mod.kin M.kp (thn (ha.run pos pins s σ H _ I h) fun us s1 ⟨vs, H1, I1, r, q⟩ => ⟨I1.kIn, ?_⟩) he hpl
  exact run_makeS M F hr hb (hx σ) I1 r q
end
section
variable {X : Cx} {W : WX} {B G0 : Hp} {κ : List Kd} {en : List D} {e : Expr} {es : List Expr} {rs : R (List D)} {f : List D → R D} {pk : List PK} {k : Nat} {cl : Str} {p pos : Pos}
theorem ev_make (F : MkI X.prog X.w X.K X.mg X.base k cl pk f) (hr : Room (k + 1) X.A) (tk : Takes X W) (ha : EA X W B G0 κ en (e :: es) pk rs) (hg : Gl X cl := by rfl) (hdb : (cl == ("__debug__" : Str)) = false := by decide)
    (he : starEach (e :: es) X.env = (false, eval e X.env) :: starEach es X.env := by rfl) (hpl : (backTo pos (starEach es X.env)).any (·.1) = false := by rfl) : EV X W B G0 κ en (.Call (.Name cl p) (e :: es) [] pos) .F (rs.bind f) := by
  obtain ⟨C, fi, fd, ps, gC, M, hb, F⟩ := F
  exact ⟨PE.wk (pe_makeS M F hr hg gC hb (fun σ => passAt tk σ) ha.pa hdb he hpl) fun σ H Q ⟨G, Ss, st, m⟩ => ⟨G, Ss, st, m.thn fun ds H1 G1 a m vs args x dx hx hdx ne => by
    have sG := a.2.2.1
    have hx1 : upd H1 dx (.own x) x = none := by rw [upd_ne (Ne.symm ne)]; exact hx
    have eD : delH (upd (upd H1 dx (.own x)) x (.ins C dx [])) x = upd H1 dx (.own x) := delH_new hx1
    have a1 : Adv H1 G1 G1 (upd H1 dx (.own x)) := Adv.newO sG hdx
    refine ⟨G1, ds, x, C, dx, vs, rfl, upd_same, gC, by rw [eD]; exact a1.2.2.1, by rw [eD]; exact args.adv a1.1 (.refl _), ?_⟩
    rw [eD]
    cases hf : f ds with
    | bad => rw [hf] at m; exact m.elim
    | exc y =>
      rw [hf] at m
      exact fun cv xd H' G' b hv => m cv xd H' G' (a1.trans b) hv
    | ok d =>
      rw [hf] at m
      intro H' G' b hI gp
      refine ⟨rfl, ?_⟩
      have b1 := a1.trans b
      have fr := b1.frz (S := [x]) fun q hq => by
        have e : q = x := by simpa using hq
        subst e
        exact ⟨hx, gp⟩
      have rF : Rep X.K X.mg (Lw.frz G' H' [x]) d (.ref x) := hI.frz rfl (fun _ z => z) fun q hq => by
        have e : q = x := by simpa using hq
        subst e
        exact gp
      exact m H' _ fr (.ref x) [] ⟨rF, rfl⟩⟩⟩
end
end Lw
namespace Lw
open PySem PySem.Spec PyProof.Rows L2
/-! ### a lent list, walked -/
section
variable {X : Cx} {W : WX} {B G0 : Hp} {κ : List Kd} {en : List D} {e a b c tg : Expr} {k ka kb kc : RK} {r ra rb rc : R D} {p pos tpos : Pos} {elts : List Expr} {kk : Nat}
theorem RV.lsJ {c : Cf} {H0 H G : Hp} {d : D} {v : V} {S : List Addr} {xs : List D} (h : RV c H0 H G .J d v S) (e : toLs d = .ok xs) : ∃ a vs, v = .ref a ∧ c.B a = some (.lst vs) ∧ Reps c.K c.mg G xs vs := by
  obtain ⟨⟨p, vs, ds, ev, hc, r⟩, _⟩ := h
  cases hc with
  | lst h =>
    cases e
    exact ⟨p, vs, ev, h, r⟩
  | dK h => cases e
theorem walks_seqJ {c : Cf} {G1 : Hp} {xs : List D} {a : Addr} {vs : List V} (hq : c.B a = some (.lst vs)) (rs : Reps c.K c.mg G1 xs vs) : Walks c .F xs (Itl c.K a) G1 := fun H G s1 s2 s3 => by
  have hqH : SqL c.K H a vs := SqL.of (s3 _ _ hq)
  have rG := rs.mono s1
  refine ⟨fun i hi => ⟨vs, hqH, by rw [← rs.length]; exact hi⟩, fun i d hd => ?_⟩
  obtain ⟨w, ew, rw'⟩ := rG.get hd
  refine ⟨⟨vs, w, hqH, ew⟩, fun v H' ⟨eH, hy⟩ => ?_⟩
  have e1 := sqL_uniq hy hqH ew
  subst e1 eH
  exact ⟨G, .refl s2, rw', rfl⟩
theorem ei_seqJ (h : EV X W B G0 κ en e .J r) : EI X W B G0 κ en tg e .F (r.bind toLs) :=
  ⟨PI.wk (pi_seq h.pe) fun σ H Z ⟨G, Ss, st, m⟩ => tEXb st m _ fun d v H1 G1 S _ a st1 rv m1 => by
    rcases toLs_ok (rfl : toLs d = toLs d) with ⟨xs, e⟩ | e
    · rw [e] at m1
      obtain ⟨p, vs, ev, q, rs⟩ := rv.lsJ e
      exact ⟨p, ev, .inl ⟨⟨vs, SqL.of (st1.sB _ _ q)⟩, m1 H1 G1 (.refl st1.sH) _ (walks_seqJ q rs)⟩⟩
    · rw [e] at m1
      exact m1.elim⟩
theorem walks_enumJ {c : Cf} {G1 : Hp} {xs : List D} {a : Addr} {vs : List V} (hq : c.B a = some (.lst vs)) (rs : Reps c.K c.mg G1 xs vs) : Walks c .F (enumL xs) (Ite c.K a) G1 := fun H G s1 s2 s3 => by
  have hqH : SqL c.K H a vs := SqL.of (s3 _ _ hq)
  have rG := rs.mono s1
  refine ⟨fun i hi => ⟨vs, hqH, by rw [← rs.length]; simpa [enumL] using hi⟩, fun i d hd => ?_⟩
  unfold enumL at hd
  rw [List.getElem?_mapIdx] at hd
  obtain ⟨x, hx, rfl⟩ := Option.map_eq_some_iff.mp hd
  obtain ⟨w, ew, rw'⟩ := rG.get hx
  refine ⟨⟨vs, w, hqH, ew⟩, fun v H' ⟨T, y, ev, hT, eH, hy⟩ => ?_⟩
  have e1 := sqL_uniq hy hqH ew
  subst e1 ev eH
  have a1 := Adv.newF (o := .tup [.int (i : Nat), y]) s2 hT
  exact ⟨_, a1, ⟨T, _, rfl, SqT.of upd_same, .cons rfl (.cons (rw'.mono a1.2.1) .nil)⟩, rfl⟩
theorem ei_enumJ (h : EV X W B G0 κ en a .J r) (hm : X.mg "enumerate" = none) (hg : Gl X "enumerate" := by rfl) (hs : starEach [a] X.env = [(false, eval a X.env)] := by rfl) :
    EI X W B G0 κ en (.Tuple elts kk tpos) (.Call (.Name "enumerate" p) [a] [] pos) .F (r.bind fun d => (toLs d).bind fun xs => .ok (enumL xs)) :=
  ⟨PI.wk (pi_enum hg hm (pa_cons h.pe pa_nil (by rw [hs] <;> rfl)) hs) fun σ H Z ⟨G, Ss, st, m⟩ => tEXb st m _ fun d v H1 G1 S _ a st1 rv m1 => by
    rcases toLs_ok (rfl : toLs d = toLs d) with ⟨xs, e⟩ | e
    · rw [e] at m1
      obtain ⟨p, vs, ev, q, rs⟩ := rv.lsJ e
      subst ev
      exact ⟨p, vs, rfl, SqL.of (st1.sB _ _ q), m1 H1 G1 (.refl st1.sH) _ (walks_enumJ q rs)⟩
    · rw [e] at m1
      exact m1.elim⟩
end
theorem ea_EF {X : Cx} {W : WX} {B G0 : Hp} {κ : List Kd} {en : List D} {e : Expr} {r : R D} {es : List Expr} {pk : List PK} {rs : R (List D)} (h : EV X W B G0 κ en e .F r) (h2 : EA X W B G0 κ en es pk rs) (hs : starEach (e :: es) X.env = (false, eval e X.env) :: starEach es X.env := by rfl) :
    EA X W B G0 κ en (e :: es) (.E :: pk) (R.cons (r.bind lsOnly) rs) :=
  ⟨PA.wk (pa_cons h.pe h2.pa hs) fun σ H Q ⟨G, Ss, st, m⟩ => by
    have m' : mR W (cf X B G0) σ H G (yA (cf X B G0) (.E :: pk) Q) (r.bind fun d => (lsOnly d).bind fun d => rs.bind fun ds => .ok (d :: ds)) := by
      have z : R.cons (r.bind lsOnly) rs = r.bind fun d => (lsOnly d).bind fun d => rs.bind fun ds => .ok (d :: ds) := by
        unfold R.cons
        rw [R.bind_assoc]
      rw [← z]
      exact m
    refine tEXb st m' _ fun d v H1 G1 S _ a st1 rv m1 => ?_
    cases d with
    | lst xs =>
      have m2 : mR W (cf X B G0) σ H1 G1 (yA (cf X B G0) (.E :: pk) Q) (rs.bind fun ds => .ok (D.lst xs :: ds)) := m1
      exact ⟨G1, Ss, st1, m2.bind.imp fun ds H2 G2 e2 a2 m3 vs args => m3 a2 H2 G2 (.refl a2.2.2.1) (v :: vs) ⟨by
        obtain ⟨⟨p, ws, ev, q, rs⟩, _⟩ := rv
        exact ⟨p, ws, xs, ev, .lst (a2.1 _ _ (st1.sH _ _ q)), rs.mono a2.2.1⟩, args⟩⟩
    | _ => exact m1.elim⟩
/-! ### x.clear(), x a list of our own -/
section
variable {α : Type} {X : Cx} {W : WX} {B G0 : Hp} {κ : List Kd} {en : List D} {δ : DE α} {pos : Pos} {rest : List Stmt} {d0 : D}
theorem sv_clear {i : Nat} {x : Str} {px ap cp : Pos} {s : R α} (p : PE X (.Name x px) (tVar i)) (hr : SV X W B G0 κ (en.set i (.lst [])) rest δ s) (hk : κ[i]? = some (.L .F) := by rfl) (hd : en[i]? = some d0 := by rfl)
    (hex : δ.ex κ en := by exact True.intro) (hs : swapsWith (.Call (.Attribute (.Name x px) "clear" ap) [] [] cp) none pos.line X.env = pure false := by rfl)
    (hbase : attributeBase (.Name x px) "clear" X.env (eval (.Name x px) X.env) = eval (.Name x px) X.env := by rfl) (hline : (ap.endLine == cp.line) = true := by rfl) :
    SV X W B G0 κ en (.Expr (.Call (.Attribute (.Name x px) "clear" ap) [] [] cp) pos :: rest) δ ((toL d0).bind fun _ => s) :=
  ⟨PSs.wk (pss_cons (ps_expr (pe_bm0 PySem.F.plainAttrs_list PySem.F.slot_list_clear PySem.F.type_list_clear mt_clear p hbase hline) hs) hr.ps) fun Dn σ H ⟨G, Ss, st, m⟩ => by
    obtain ⟨p, vs, ds, hv, hS, hc, rs⟩ := st.ownL hk hd
    cases d0 with
    | lst xs =>
      cases hc with
      | lst hp =>
        have m2 : mS W (cf X B G0) δ Dn s := m
        refine ⟨_, hv, .inl ⟨rfl, vs, SqL.of hp⟩, p, vs, rfl, rfl, hp, G, Ss, ?_, m2⟩
        exact st.put hk (by intro z; cases z) (by rw [hS]; exact List.mem_cons_self) hv (by
          rw [hS]
          exact RepK.ofL (.lst upd_same) .nil)
    | _ => exact m.elim⟩
end
end Lw
namespace Lw
open PySem PySem.Spec PyProof.Rows L2
/-! ### unpacking of lists -/
section
variable {X : Cx} {k : RK} {pos : Pos} {tg : Expr}
theorem tg_lst {ρ : Type} {u : D → R ρ} {js : List Nat} {vs : ρ → List D} (h : PG X tg (gLst X.K js.length (gNames js))) (hu : ∀ d p, u d = .ok p → d = .lst (vs p) ∧ (vs p).length = js.length) (hx : ∀ d e, u d = .exc e → False) (hk : rig k = true := by rfl) :
    Tg X tg k ρ u js vs (slotOf k) :=
  ⟨hx, _, h, fun B G0 κ en σ H H0 G Ss d w p Q st rv e hj q => by
    obtain ⟨rfl, hl⟩ := hu d p e
    obtain ⟨a, ws, ew, sq, el, get⟩ := (rv.items st.sB st.sH (xs := vs p)).1 (.inl rfl)
    rw [rig_el hk] at get
    refine ⟨a, ws, ew, sq, by rw [← el, hl], gNames_ok (k := k) hk (H0 := H0) st hl (by rw [← el, hl]) (fun i x w e1 e2 => ?_) hj q⟩
    obtain ⟨w', e3, r⟩ := get i x e1
    rw [e2] at e3
    cases e3
    exact r⟩
end
def ul2 : D → R (D × D)
  | .lst [a, b] => .ok (a, b)
  | _ => .bad
def ul3 : D → R (D × D × D)
  | .lst [a, b, c] => .ok (a, b, c)
  | _ => .bad
def ul4 : D → R (D × D × D × D)
  | .lst [a, b, c, d] => .ok (a, b, c, d)
  | _ => .bad
def ul5 : D → R (D × D × D × D × D)
  | .lst [a, b, c, d, e] => .ok (a, b, c, d, e)
  | _ => .bad
def ul6 : D → R (D × D × D × D × D × D)
  | .lst [a, b, c, d, e, f] => .ok (a, b, c, d, e, f)
  | _ => .bad
theorem ul2_nx (d : D) (e : Ex) (h : ul2 d = .exc e) : False := by
  unfold ul2 at h
  split at h <;> cases h
theorem ul2_ok (d : D) (p : D × D) (h : ul2 d = .ok p) : d = .lst [p.1, p.2] ∧ [p.1, p.2].length = 2 := by
  unfold ul2 at h
  split at h
  · cases h; exact ⟨rfl, rfl⟩
  · cases h
theorem ul3_nx (d : D) (e : Ex) (h : ul3 d = .exc e) : False := by
  unfold ul3 at h
  split at h <;> cases h
theorem ul3_ok (d : D) (p : D × D × D) (h : ul3 d = .ok p) : d = .lst [p.1, p.2.1, p.2.2] ∧ [p.1, p.2.1, p.2.2].length = 3 := by
  unfold ul3 at h
  split at h
  · cases h; exact ⟨rfl, rfl⟩
  · cases h
theorem ul4_nx (d : D) (e : Ex) (h : ul4 d = .exc e) : False := by
  unfold ul4 at h
  split at h <;> cases h
theorem ul4_ok (d : D) (p : D × D × D × D) (h : ul4 d = .ok p) : d = .lst [p.1, p.2.1, p.2.2.1, p.2.2.2] ∧ [p.1, p.2.1, p.2.2.1, p.2.2.2].length = 4 := by
  unfold ul4 at h
  split at h
  · cases h; exact ⟨rfl, rfl⟩
  · cases h
theorem ul5_nx (d : D) (e : Ex) (h : ul5 d = .exc e) : False := by
  unfold ul5 at h
  split at h <;> cases h
theorem ul5_ok (d : D) (p : D × D × D × D × D) (h : ul5 d = .ok p) : d = .lst [p.1, p.2.1, p.2.2.1, p.2.2.2.1, p.2.2.2.2] ∧ [p.1, p.2.1, p.2.2.1, p.2.2.2.1, p.2.2.2.2].length = 5 := by
  unfold ul5 at h
  split at h
  · cases h; exact ⟨rfl, rfl⟩
  · cases h
theorem ul6_nx (d : D) (e : Ex) (h : ul6 d = .exc e) : False := by
  unfold ul6 at h
  split at h <;> cases h
theorem ul6_ok (d : D) (p : D × D × D × D × D × D) (h : ul6 d = .ok p) : d = .lst [p.1, p.2.1, p.2.2.1, p.2.2.2.1, p.2.2.2.2.1, p.2.2.2.2.2] ∧ [p.1, p.2.1, p.2.2.1, p.2.2.2.1, p.2.2.2.2.1, p.2.2.2.2.2].length = 6 := by
  unfold ul6 at h
  split at h
  · cases h; exact ⟨rfl, rfl⟩
  · cases h
end Lw
namespace Lw
open PySem PySem.Spec PyProof.Rows L2
/-! ### l.count(x) -/
def rCountD (K : PySem.W.Frag) : V → List V → Hp → VK → Prop := fun x xs H Q => ∃ (a : Addr) (y : V) (d : PyData) (ds : List PyData), x = V.ref a ∧ xs = [y] ∧ Dp K H (V.ref a) (.list ds) ∧ Dp K H y d ∧
  SeqAt.shaped (.list ds) = true ∧ SeqAt.shaped d = true ∧ Q (.int (ds.countP (fun z => PyData.eqv z d) : Nat)) H
theorem mt_countD {X : Cx} (hu : X.A.units + 65 < cLine) : MtR X "list.count" (rCountD X.K) := by
  intro pins s σ H x xs v us Q I rx rxs h
  obtain ⟨a, y, d, ds, rfl, rfl, hl, hy, sl, sd, q⟩ := h
  cases rx
  cases rxs with
  | cons ry rt =>
    rename_i uy ut
    cases rt
    obtain ⟨bs, r1⟩ := Dp.reads I d y uy hy ry
    have hxs : PyData.canLayAll0 ds = true := SeqAt.canLay_of_shaped sl
    have hroom : X.A.units + 1 + min (PyData.depthAll ds) d.depth < cLine := room_in_shaped sd hu
    cases hl with
    | lst hs ha =>
      obtain ⟨its, rv, ⟨⟨cls, dd, data, sls⟩, n, ho, hc, hdn, hdt⟩, hlen⟩ := I.list hs
      simp only at hc hdt
      subst hc hdt
      obtain ⟨as, h4⟩ := Dp.readsAll I ds _ its ha rv
      have hmap : its.map (SeqAt.readOf s.heap) = ds := SeqAt.readsAll_map ds its as hxs h4
      refine call_meets PySem.F.slot_list_count ⟨_, ho, rfl⟩ PySem.F.entry_list_count (PySem.F.args_list_count_2 _ _)
        (SeqAt.list_countAt a its.toArray n dd sls uy (fun u => PyData.eqv (SeqAt.readOf s.heap u) d)) ⟨ho, SeqAt.items_eqAt (vs := its.toArray) (show ReadsAll s.heap its.toArray.toList ds as from h4) r1 hxs (SeqAt.canLay_of_shaped sd) hroom, ?_⟩
      refine ⟨.int (ds.countP (fun z => PyData.eqv z d) : Nat), H, I.tok _, ⟨s.toks, ?_⟩, q⟩
      have e : its.toArray.toList.countP (fun u => PyData.eqv (SeqAt.readOf s.heap u) d) = ds.countP (fun z => PyData.eqv z d) := by
        rw [← hmap, List.countP_map]
        rfl
      show Value.int ((its.toArray.toList.countP (fun u => PyData.eqv (SeqAt.readOf s.heap u) d) : Nat) : Int) s.toks = _
      rw [e]
def pCount : D → D → R D
  | .lst xs, d => if pl (.lst xs) 20 && pl d 20 then .ok (.int (xs.countP fun z => deq z d : Nat)) else .bad
  | _, _ => .bad
theorem count_py (d2 : D) : ∀ xs : List D, (pys xs).countP (fun z => PyData.eqv z (py d2)) = xs.countP fun z => deq z d2
  | [] => rfl
  | x :: xs => by
    rw [pys, List.countP_cons, List.countP_cons, count_py d2 xs, deq_py]
section
variable {X : Cx} {W : WX} {B G0 : Hp} {κ : List Kd} {en : List D} {o e : Expr} {k ko : RK} {r ro : R D} {apos pos : Pos}
theorem ev_count (hu : X.A.units + 65 < cLine) (ho : EV X W B G0 κ en o ko ro) (h : EV X W B G0 κ en e k r) (hs : starEach [e] X.env = (false, eval e X.env) :: starEach [] X.env := by rfl) (hbase : attributeBase o "count" X.env (eval o X.env) = eval o X.env := by rfl) (hline : (apos.endLine == pos.line) = true := by rfl)
    (hfew : ((backTo pos (starEach [e] X.env)).all (fun x => !x.1) && (backToKw pos (keywordEach [] X.env)).all (fun x => x.1.isSome) && decide ([e].length + ([] : List Keyword).length + (if ([] : List Keyword).isEmpty then 0 else 1) < 30)) = true := by rfl)
    (hpl : (backTo pos (starEach [] X.env)).any (·.1) = false := by rfl) :
    EV X W B G0 κ en (.Call (.Attribute o "count" apos) [e] [] pos) .F (R.bin2 (R.bind ro lsOnly) r pCount) :=
  ⟨PE.wk (pe_bm PySem.F.plainAttrs_list PySem.F.slot_list_count PySem.F.type_list_count (mt_countD hu) ho.pe (pa_cons h.pe pa_nil hs) hbase hfew hline hs hpl) fun σ H Q ⟨G, Ss, st, m⟩ => tEVb st (by rw [bin2_only] at m; exact m) _ fun d v H1 G1 S _ a1 st1 rv m1 => by
    have rd := st1.rd rv
    cases d with
    | lst xs =>
      have m1' : mR W (cf X B G0) σ H1 G1 (yV (cf X B G0) H1 .F Q) (r.bind fun y => pCount (.lst xs) y) := m1
      obtain ⟨p, vs, ev, q, rs⟩ := id rd
      subst ev
      refine ⟨.inl ⟨rfl, vs, SqL.of q⟩, tEVb st1 m1' _ fun d2 v2 H2 G2 S2 _ a2 st2 rv2 m2 => ?_⟩
      have rd1 := rd.mono a2.1
      have rd2 := st2.rd rv2
      have m3 : mR W (cf X B G0) σ H2 G2 (yV (cf X B G0) H2 .F Q) (if pl (.lst xs) 20 && pl d2 20 then .ok (.int (xs.countP fun z => deq z d2 : Nat)) else .bad) := m2
      cases e1 : pl (.lst xs) 20 && pl d2 20 with
      | false => rw [e1] at m3; exact m3.elim
      | true =>
        rw [e1, if_pos rfl] at m3
        obtain ⟨h1, h2⟩ := Bool.and_eq_true_iff.mp e1
        have e2 : py (.lst xs) = .list (pys xs) := by simp [py]
        refine ⟨p, v2, py d2, pys xs, rfl, rfl, by rw [← e2]; exact rd1.dp h1, rd2.dp h2, by rw [← e2]; exact rd1.shaped h1, rd2.shaped h2, ?_⟩
        rw [count_py]
        exact m3 H2 G2 (.refl st2.sH) _ [] ⟨rfl, rfl⟩
    | _ => exact m1.elim⟩
end
end Lw
namespace Lw
open PySem PySem.Spec PyProof.Rows L2
/-! ### dicts whose keys are ints and texts -/
def keyEq : D → D → Bool
  | .int a, .int b => a == b
  | .str a, .str b => a == b
  | _, _ => false
def isKey : D → Bool
  | .int _ => true
  | .str _ => true
  | _ => false
def dIdx (ks : List D) (k : D) : Option Nat := ks.findIdx? fun z => keyEq z k
def dctOnly : D → R D
  | .dct ks xs => .ok (.dct ks xs)
  | _ => .bad
def toDct : D → R (List D × List D)
  | .dct ks xs => .ok (ks, xs)
  | _ => .bad
def pDget : D → D → R D
  | .dct ks xs, k => if isKey k then (match dIdx ks k with
    | some j => (match xs[j]? with
      | some x => .ok x
      | none => .bad)
    | none => .bad) else .bad
  | _, _ => .bad
def pDgetOr (d k x : D) : R D := match d with
  | .dct ks xs => if isKey k then (match dIdx ks k with
    | some j => (match xs[j]? with
      | some y => .ok y
      | none => .bad)
    | none => .ok x) else .bad
  | _ => .bad
def dPut (ks xs : List D) (k d : D) : D := if ks.any (fun z => keyEq z k) = true then .dct ks (List.zipWith (fun z x => if keyEq z k = true then d else x) ks xs) else .dct (ks ++ [k]) (xs ++ [d])
def pDput (kx : List D × List D) (k d : D) : R D := if isKey k && decide (kx.2.length < 16777216) then .ok (dPut kx.1 kx.2 k d) else .bad
theorem keyEq_k {a b : Key} : keyEq (kD a) (kD b) = decide (a = b) := by
  cases a <;> cases b <;> simp [keyEq, kD, Bool.beq_eq_decide_eq]
theorem key_of_D {K : PySem.W.Frag} {mg : Str → Option Value} {H : Hp} {d : D} {v : V} (h : Rep K mg H d v) (hk : isKey d = true) : ∃ k : Key, d = kD k ∧ v = kV k := by
  cases d with
  | int i => exact ⟨.inl i, rfl, h⟩
  | str s => exact ⟨.inr s, rfl, h.1⟩
  | _ => cases hk
theorem valV_dIdx (k : Key) : ∀ (kvs : List (Key × V)), (∀ j, dIdx (kvs.map fun q => kD q.1) (kD k) = some j → ∃ w, (kvs.map (·.2))[j]? = some w ∧ valV kvs k = some w) ∧ (dIdx (kvs.map fun q => kD q.1) (kD k) = none → valV kvs k = none)
  | [] => ⟨fun j h => by simp [dIdx] at h, fun _ => rfl⟩
  | p :: r => by
    obtain ⟨h1, h2⟩ := valV_dIdx k r
    by_cases e : p.1 = k
    · rw [valV_pos e]
      refine ⟨fun j h => ?_, fun h => ?_⟩
      · unfold dIdx at h
        rw [List.map_cons, List.findIdx?_cons, keyEq_k, decide_eq_true e, if_pos rfl] at h
        cases h
        exact ⟨p.2, rfl, rfl⟩
      · unfold dIdx at h
        rw [List.map_cons, List.findIdx?_cons, keyEq_k, decide_eq_true e, if_pos rfl] at h
        cases h
    · rw [valV_neg e]
      refine ⟨fun j h => ?_, fun h => ?_⟩
      · unfold dIdx at h
        rw [List.map_cons, List.findIdx?_cons, keyEq_k, decide_eq_false e, if_neg (by decide)] at h
        obtain ⟨i, hi, rfl⟩ := Option.map_eq_some_iff.mp h
        obtain ⟨w, e1, e2⟩ := h1 i hi
        exact ⟨w, by simpa using e1, e2⟩
      · unfold dIdx at h
        rw [List.map_cons, List.findIdx?_cons, keyEq_k, decide_eq_false e, if_neg (by decide)] at h
        exact h2 (Option.map_eq_none_iff.mp h)
theorem any_key (k : Key) (kvs : List (Key × V)) : (kvs.map fun q => kD q.1).any (fun z => keyEq z (kD k)) = kvs.any fun kv => decide (kv.1 = k) := by
  rw [List.any_map]
  congr 1
  funext p
  exact keyEq_k
/-- what stands behind a store -/
theorem dPut_ok {K : PySem.W.Frag} {mg : Str → Option Value} {G : Hp} {k : Key} {kvs : List (Key × V)} {xs : List D} {d : D} {v : V} (r : Reps K mg G xs (kvs.map (·.2))) (h : Rep K mg G d v) :
    ∃ xs', dPut (kvs.map fun q => kD q.1) xs (kD k) d = .dct ((putK kvs k v).map fun q => kD q.1) xs' ∧ Reps K mg G xs' ((putK kvs k v).map (·.2)) := by
  unfold dPut putK
  rw [any_key]
  by_cases e : (kvs.any fun kv => decide (kv.1 = k)) = true
  · rw [if_pos e, if_pos e]
    refine ⟨List.zipWith (fun z x => if keyEq z (kD k) = true then d else x) (kvs.map fun q => kD q.1) xs, ?_, ?_⟩
    · congr 1
      rw [List.map_map]
      refine List.map_congr_left fun p _ => ?_
      show kD p.1 = kD (if p.1 = k then (p.1, v) else p).1
      by_cases e2 : p.1 = k
      · rw [if_pos e2]
      · rw [if_neg e2]
    · clear e
      induction kvs generalizing xs with
      | nil =>
        cases xs with
        | nil => exact r
        | cons x xs => obtain ⟨_, _, e, _⟩ := r; simp at e
      | cons p kvs ih =>
        cases xs with
        | nil => exact absurd r (by simp [Reps])
        | cons x xs =>
          obtain ⟨w, rr, e, h1, h2⟩ := r
          rw [List.map_cons] at e
          injection e with e1 e2
          subst e1 e2
          rw [List.map_cons, List.zipWith_cons_cons, List.map_cons, List.map_cons, keyEq_k]
          by_cases e2 : p.1 = k
          · rw [decide_eq_true e2, if_pos rfl, if_pos e2]
            exact .cons h (ih h2)
          · rw [decide_eq_false e2, if_neg (by decide), if_neg e2]
            exact .cons h1 (ih h2)
  · rw [if_neg e, if_neg e]
    exact ⟨xs ++ [d], by rw [List.map_append]; rfl, by rw [List.map_append]; exact r.snoc h⟩
theorem Cont.dct {p : Addr} {vs : List V} {ks xs ds : List D} {Z : Hp} (hc : Cont Z p (.dct ks xs) ds vs) : ∃ kvs : List (Key × V), Z p = some (.dK kvs) ∧ ks = (kvs.map fun q => kD q.1) ∧ ds = xs ∧ vs = kvs.map (·.2) := by
  cases hc with
  | dK hp => exact ⟨_, hp, rfl, rfl, rfl⟩
theorem RV.ditems {c : Cf} {H0 H G : Hp} {k : RK} {v : V} {S : List Addr} {ks xs : List D} (h : RV c H0 H G k (.dct ks xs) v S) (sB : Same c.B H) (sG : Same G H) : ∃ (a : Addr) (kvs : List (Key × V)), v = .ref a ∧ Rd H a (.dK kvs) ∧ ks = (kvs.map fun q => kD q.1) ∧ xs.length = kvs.length ∧ ∀ (i : Nat) (x : D), xs[i]? = some x → ∃ w, (kvs.map (·.2))[i]? = some w ∧ RV c H0 H G k.el x w [] := by
  have get : ∀ {Z : Hp} {vs : List V}, Reps c.K c.mg Z xs vs → (∀ x w, Rep c.K c.mg Z x w → RV c H0 H G k.el x w []) → ∀ (i : Nat) (x : D), xs[i]? = some x → ∃ w, vs[i]? = some w ∧ RV c H0 H G k.el x w [] := fun {Z vs} r f i x e => by
    obtain ⟨w, e1, e2⟩ := r.get e
    exact ⟨w, e1, f x w e2⟩
  have rd := h.rep sB sG
  cases k with
  | F =>
    obtain ⟨a, e, kvs, q, ek, r⟩ := h.1
    exact ⟨a, kvs, e, rd_mono sG q, ek, by rw [r.length, List.length_map], get r fun x w z => ⟨z, rfl⟩⟩
  | B =>
    obtain ⟨a, e, kvs, q, ek, r⟩ := h.1
    exact ⟨a, kvs, e, rd_mono sB q, ek, by rw [r.length, List.length_map], get r fun x w z => ⟨z, rfl⟩⟩
  | E =>
    obtain ⟨⟨p, vs, ds, e, hc, r⟩, _⟩ := h
    obtain ⟨kvs, hp, ek, rfl, rfl⟩ := hc.dct
    exact ⟨p, kvs, e, .inl hp, ek, by rw [r.length, List.length_map], get r fun x w z => ⟨z, rfl⟩⟩
  | J =>
    obtain ⟨⟨p, vs, ds, e, hc, r⟩, _⟩ := h
    obtain ⟨kvs, hp, ek, rfl, rfl⟩ := hc.dct
    exact ⟨p, kvs, e, .inl (sB _ _ hp), ek, by rw [r.length, List.length_map], get r fun x w z => ⟨z, rfl⟩⟩
  | P =>
    obtain ⟨a, e, kvs, q, ek, r⟩ := rd
    exact ⟨a, kvs, e, q, ek, by rw [r.length, List.length_map], get r fun x w z => ⟨z, rfl⟩⟩
  | O q =>
    obtain ⟨a, e, kvs, q, ek, r⟩ := rd
    exact ⟨a, kvs, e, q, ek, by rw [r.length, List.length_map], get r fun x w z => ⟨z, rfl⟩⟩
theorem DGet.kR {H : Hp} {a : Addr} {kvs : List (Key × V)} {k : Key} (e : Rd H a (.dK kvs)) : DGet H a (kV k) (valV kvs k) := .inl ⟨kvs, k, e, rfl, rfl⟩
theorem pDget_dct {ks xs : List D} {k : D} : pDget (.dct ks xs) k = if isKey k then (match dIdx ks k with
    | some j => (match xs[j]? with
      | some x => .ok x
      | none => .bad)
    | none => .bad) else .bad := rfl
section
variable {X : Cx} {W : WX} {B G0 : Hp} {κ : List Kd} {en : List D} {a b e x : Expr} {k ka kb kx : RK} {r ra rb rx : R D} {pos apos : Pos}
/-- d[k] -/
theorem ev_dix (hu : X.A.units + 65 < cLine) (ha : EV X W B G0 κ en a k ra) (hb : EV X W B G0 κ en b kb rb) (hk : ∀ q, k ≠ .O q := by intro _ z; cases z) (hs : NoSl b := by exact fun _ _ => rfl) : EV X W B G0 κ en (.Subscript a b pos) k.el (R.bin2 ra rb pDget) :=
  ⟨PE.wk (pe_dget (by omega) ha.pe hb.pe hs) fun σ H Q ⟨G, Ss, st0, m0⟩ => tEVb st0 m0 _ fun d v H1 G1 S _ a1 st rv m => tEVb st m _ fun i w H2 G2 S2 _ a2 st2 rv2 m2 => by
    have hi := st2.rd rv2
    have rv' := rv.adv a2 hk
    cases d with
    | dct ks xs =>
      rw [pDget_dct] at m2
      by_cases hkk : isKey i = true
      · rw [if_pos hkk] at m2
        obtain ⟨key, rfl, rfl⟩ := key_of_D hi hkk
        obtain ⟨p, kvs, ev, hp, rfl, hl, get⟩ := rv'.ditems st2.sB st2.sH
        obtain ⟨z1, z2⟩ := valV_dIdx key kvs
        cases ej : dIdx (kvs.map fun q => kD q.1) (kD key) with
        | none => rw [ej] at m2; exact m2.elim
        | some j =>
          rw [ej] at m2
          obtain ⟨w, e1, e2⟩ := z1 j ej
          cases ex : xs[j]? with
          | none => simp only [ex] at m2; exact m2.elim
          | some y =>
            simp only [ex] at m2
            obtain ⟨w', e3, rw'⟩ := get j y ex
            rw [e1] at e3
            cases e3
            exact ⟨p, w, ev, by rw [← e2]; exact DGet.kR hp, m2 H2 G2 (.refl st2.sH) w [] (by cases k <;> first | exact rw' | exact absurd rfl (hk _))⟩
      · rw [if_neg hkk] at m2
        exact m2.elim
    | _ => exact m2.elim⟩
/-- {}: a dict of our own -/
theorem ev_dict0 {q : Kd} : EV X W B G0 κ en (.Dict [] [] pos) (.O (.L q)) (.ok (.dct [] [])) :=
  ⟨PE.wk pe_dnewK fun σ H Q ⟨G, Ss, st, m⟩ p hp => m _ _ (Adv.newO st.sH hp) _ [p] ⟨⟨p, [], [], [], rfl, rfl, .dK (kvs := []) upd_same, rfl, rfl⟩, by simp, fun y hy => by
    rw [List.mem_singleton.mp hy]
    exact ⟨hp, st.sH.free hp, _, upd_same⟩⟩⟩
/-- d.get(k, x), what is told is frozen -/
theorem ev_dgetF (hu : X.A.units + 65 < cLine) (ha : EV X W B G0 κ en a ka ra) (hb : EV X W B G0 κ en b kb rb) (hx : EV X W B G0 κ en x .F rx) (hk : ∀ q, ka ≠ .O q := by intro _ z; cases z) (hel : ka.el = .F := by rfl) (m : M2 X a "get" apos b x pos := by exact ⟨rfl, rfl, rfl, rfl⟩) :
    EV X W B G0 κ en (.Call (.Attribute a "get" apos) [b, x] [] pos) .F (R.bind (R.bind ra dctOnly) fun d => R.bind rb fun i => R.bind rx fun y => pDgetOr d i y) :=
  ⟨PE.wk (pe_dget2 (by omega) ha.pe hb.pe hx.pe m) fun σ H Q ⟨G, Ss, st0, m0⟩ => tEVb st0 (by rw [R.bind_assoc] at m0; exact m0) _ fun d v H1 G1 S _ a1 st rv m1 => by
    cases d with
    | dct ks xs =>
      have m1' : mR W (cf X B G0) σ H1 G1 (yV (cf X B G0) H1 .F Q) (R.bind rb fun i => R.bind rx fun y => pDgetOr (.dct ks xs) i y) := m1
      obtain ⟨p, kvs, ev, hp, ek, hl, get⟩ := rv.ditems st.sB st.sH
      refine ⟨p, ev, .inl ⟨kvs, hp⟩, tEVb st m1' _ fun i w H2 G2 S2 _ a2 st2 rv2 m2 => tEVb st2 m2 _ fun y u H3 G3 S3 _ a3 st3 rv3 m3 => ?_⟩
      have hiP : RV (cf X B G0) H2 H2 G2 .P i w [] := ⟨rv2.rep st2.sB st2.sH, rfl⟩
      have hi := st3.rd (hiP.adv a3 (by intro _ z; cases z))
      have rv' := rv.adv (a2.trans a3) hk
      have m4 : mR W (cf X B G0) σ H3 G3 (yV (cf X B G0) H3 .F Q) (if isKey i then (match dIdx ks i with
        | some j => (match xs[j]? with
          | some y => .ok y
          | none => .bad)
        | none => .ok y) else .bad) := m3
      by_cases hkk : isKey i = true
      · rw [if_pos hkk] at m4
        obtain ⟨key, rfl, rfl⟩ := key_of_D hi hkk
        obtain ⟨p', kvs', ev', hp', rfl, hl', get'⟩ := rv'.ditems st3.sB st3.sH
        have e0 : p' = p := by rw [ev] at ev'; injection ev' with z; exact z.symm
        subst e0
        obtain ⟨z1, z2⟩ := valV_dIdx key kvs'
        cases ej : dIdx (kvs'.map fun q => kD q.1) (kD key) with
        | none =>
          rw [ej] at m4
          refine ⟨none, by rw [← z2 ej]; exact DGet.kR hp', m4 H3 G3 (.refl st3.sH) u [] ⟨rv3.1, rfl⟩⟩
        | some j =>
          rw [ej] at m4
          obtain ⟨w, e1, e2⟩ := z1 j ej
          cases ex : xs[j]? with
          | none => simp only [ex] at m4; exact m4.elim
          | some y =>
            simp only [ex] at m4
            obtain ⟨w', e3, rw'⟩ := get' j y ex
            rw [e1] at e3
            cases e3
            rw [hel] at rw'
            exact ⟨some w, by rw [← e2]; exact DGet.kR hp', m4 H3 G3 (.refl st3.sH) w [] rw'⟩
      · rw [if_neg hkk] at m4
        exact m4.elim
    | _ => exact m1.elim⟩
/-- d.get(k, x), to be read -/
theorem ev_dgetP (hu : X.A.units + 65 < cLine) (ha : EV X W B G0 κ en a ka ra) (hb : EV X W B G0 κ en b kb rb) (hx : EV X W B G0 κ en x kx rx) (m : M2 X a "get" apos b x pos := by exact ⟨rfl, rfl, rfl, rfl⟩) :
    EV X W B G0 κ en (.Call (.Attribute a "get" apos) [b, x] [] pos) .P (R.bind (R.bind ra dctOnly) fun d => R.bind rb fun i => R.bind rx fun y => pDgetOr d i y) :=
  ⟨PE.wk (pe_dget2 (by omega) ha.pe hb.pe hx.pe m) fun σ H Q ⟨G, Ss, st0, m0⟩ => tEVb st0 (by rw [R.bind_assoc] at m0; exact m0) _ fun d v H1 G1 S _ a1 st rv m1 => by
    cases d with
    | dct ks xs =>
      have m1' : mR W (cf X B G0) σ H1 G1 (yV (cf X B G0) H1 .P Q) (R.bind rb fun i => R.bind rx fun y => pDgetOr (.dct ks xs) i y) := m1
      have rvP : RV (cf X B G0) H1 H1 G1 .P (.dct ks xs) v [] := ⟨rv.rep st.sB st.sH, rfl⟩
      obtain ⟨p, kvs, ev, hp, ek, hl, get⟩ := rvP.ditems st.sB st.sH
      refine ⟨p, ev, .inl ⟨kvs, hp⟩, tEVb st m1' _ fun i w H2 G2 S2 _ a2 st2 rv2 m2 => tEVb st2 m2 _ fun y u H3 G3 S3 _ a3 st3 rv3 m3 => ?_⟩
      have hiP : RV (cf X B G0) H2 H2 G2 .P i w [] := ⟨rv2.rep st2.sB st2.sH, rfl⟩
      have hi := st3.rd (hiP.adv a3 (by intro _ z; cases z))
      have rv' := rvP.adv (a2.trans a3) (by intro _ z; cases z)
      have m4 : mR W (cf X B G0) σ H3 G3 (yV (cf X B G0) H3 .P Q) (if isKey i then (match dIdx ks i with
        | some j => (match xs[j]? with
          | some y => .ok y
          | none => .bad)
        | none => .ok y) else .bad) := m3
      by_cases hkk : isKey i = true
      · rw [if_pos hkk] at m4
        obtain ⟨key, rfl, rfl⟩ := key_of_D hi hkk
        obtain ⟨p', kvs', ev', hp', rfl, hl', get'⟩ := rv'.ditems st3.sB st3.sH
        have e0 : p' = p := by rw [ev] at ev'; injection ev' with z; exact z.symm
        subst e0
        obtain ⟨z1, z2⟩ := valV_dIdx key kvs'
        cases ej : dIdx (kvs'.map fun q => kD q.1) (kD key) with
        | none =>
          rw [ej] at m4
          refine ⟨none, by rw [← z2 ej]; exact DGet.kR hp', m4 H3 G3 (.refl st3.sH) u [] ⟨rv3.rep st3.sB st3.sH, rfl⟩⟩
        | some j =>
          rw [ej] at m4
          obtain ⟨w, e1, e2⟩ := z1 j ej
          cases ex : xs[j]? with
          | none => simp only [ex] at m4; exact m4.elim
          | some y =>
            simp only [ex] at m4
            obtain ⟨w', e3, rw'⟩ := get' j y ex
            rw [e1] at e3
            cases e3
            exact ⟨some w, by rw [← e2]; exact DGet.kR hp', m4 H3 G3 (.refl st3.sH) w [] rw'⟩
      · rw [if_neg hkk] at m4
        exact m4.elim
    | _ => exact m1.elim⟩
end
section
variable {α : Type} {X : Cx} {W : WX} {B G0 : Hp} {κ : List Kd} {en : List D} {e e2 : Expr} {k k2 : RK} {r r2 : R D} {δ : DE α} {pos : Pos} {rest : List Stmt} {d0 : D}
/-- x[i] = e, x a dict of our own: first e, then i -/
theorem sv_setD {i : Nat} {x : Str} {px sp : Pos} {ei : Expr} {ri : R D} {ki : RK} {f : D → R α} (hu : X.A.units + 65 < cLine) (p : PE X (.Name x px) (tVar i)) (he : EV X W B G0 κ en e .F r) (hi : EV X W B G0 κ en ei ki ri) (hr : ∀ d, SV X W B G0 κ (en.set i d) rest δ (f d)) (hk : κ[i]? = some (.L .F) := by rfl) (hd : en[i]? = some d0 := by rfl)
    (hex : δ.ex κ en := by exact True.intro) (hs : swapsWith e (some (.Subscript (.Name x px) ei sp)) pos.line X.env = pure false := by rfl) :
    SV X W B G0 κ en (.Assign [.Subscript (.Name x px) ei sp] e pos :: rest) δ (r.bind fun d => (toDct d0).bind fun kx => ri.bind fun j => (pDput kx j d).bind f) :=
  ⟨PSs.wk (pss_cons (ps_dput (by omega) p hi.pe he.pe hs) (PSs.all fun d => (hr d).ps)) fun Dn σ H ⟨G, Ss, st, m⟩ => ⟨G, Ss, st, mS.toR st m hex fun d H1 G1 a st1 m1 v S rv => by
    obtain ⟨p, vs, ds, hv, hS, hc, rs⟩ := st1.ownL hk hd
    cases d0 with
    | dct ks xs =>
      obtain ⟨kvs, hp, rfl, rfl, rfl⟩ := hc.dct
      · refine ⟨_, hv, G1, Ss, st1, mS.toR st1 m1 hex fun j H2 G2 a2 st2 m2 w S2 rv2 => ?_⟩
        have hp2 := a2.1 _ _ hp
        have rj := st2.rd rv2
        have m3 : mS W (cf X B G0) δ Dn ((if isKey j && decide (ds.length < 16777216) then (.ok (dPut (kvs.map fun q => kD q.1) ds j d) : R D) else .bad).bind f) := m2
        by_cases hc : (isKey j && decide (ds.length < 16777216)) = true
        · rw [if_pos hc] at m3
          obtain ⟨h1, h2⟩ := Bool.and_eq_true_iff.mp hc
          obtain ⟨key, rfl, rfl⟩ := key_of_D rj h1
          obtain ⟨xs', ed, rp⟩ := dPut_ok (k := key) (rs.mono a2.2.1) (rv.1.mono a2.2.1)
          refine ⟨p, _, rfl, DPut.k hp2 (by rw [sizeLine_eq]; have := rs.length; rw [List.length_map] at this; have := of_decide_eq_true h2; omega), dPut (kvs.map fun (q : Key × V) => kD q.1) ds (kD key) d, G2, Ss, ?_, (show mS W (cf X B G0) δ Dn (f (dPut (kvs.map fun (q : Key × V) => kD q.1) ds (kD key) d)) from m3)⟩
          exact st2.put hk (by intro z; cases z) (by rw [hS]; exact List.mem_cons_self) hv (by
            rw [hS, ed]
            exact RepK.ofL (.dK upd_same) rp)
        · rw [if_neg hc] at m3
          exact m3.elim
    | _ => exact m1.elim⟩⟩
end
end Lw
namespace Lw
open PySem PySem.Spec PyProof.Rows L2
/-! ### x[i] op= e -/
abbrev rGetL (K : PySem.W.Frag) : V → V → Hp → VK → Prop := fun o i H Q => ∃ p xs k v, o = .ref p ∧ i = .int k ∧ SqL K H p xs ∧ atI xs k = some v ∧ Q v H
theorem get_list {X : Cx} : PGet X (rGetL X.K) := by
  intro pins s σ H o i ov iv Q I ro ri h
  obtain ⟨p, xs, k, z, rfl, rfl, hq, he, q⟩ := h
  cases ro
  obtain ⟨t, rfl⟩ := ri
  obtain ⟨its, r, pl, hz⟩ := I.list hq
  obtain ⟨j, h1, h2, h3, h4, h5⟩ := atI_get he
  obtain ⟨w, ew, rw'⟩ := r.get h2
  have hl := r.length
  have hn := line63
  have fin : EP X pins σ Q w s := ⟨z, H, I, rw', q⟩
  by_cases h0 : 0 ≤ k
  · have hj : k.toNat = j := by
      rw [seqIndex_of h0 h5] at h1
      exact Option.some.inj h1
    exact wpAny_getItem_list pl.isList h0 (by omega) (by rw [hj]; simpa using ew) fin
  · have hj : (k + (its.toArray.size : Int)).toNat = j := by
      rw [seqIndex_neg (by omega) h4] at h1
      rw [List.size_toArray, ← hl]
      exact Option.some.inj h1
    exact wpAny_getItem_list_neg pl.isList (by omega) (by rw [List.size_toArray] <;> omega) (by omega) (by rw [hj]; simpa using ew) fin
section
variable {α : Type} {X : Cx} {W : WX} {B G0 : Hp} {κ : List Kd} {en : List D} {e : Expr} {k : RK} {r : R D} {δ : DE α} {pos : Pos} {rest : List Stmt} {d0 : D}
theorem pIx_lst {xs : List D} {i : D} : pIx (.lst xs) i = (match i with | .int j => (match atI xs j with | some d => .ok d | none => .bad) | _ => .bad) := by
  cases i <;> rfl
/-- x[i] op= e, x a list of our own -/
theorem sv_augI {i : Nat} {x : Str} {px sp : Pos} {ei : Expr} {ri : R D} {ki : RK} {op : Operator} {rr : R2} {f : D → D → R D} {g : D → R α} (hop : InOp X op rr) (hf : OpD X.K X.mg rr .F f) (p : PE X (.Name x px) (tVar i)) (he : EV X W B G0 κ en e k r) (hi : EV X W B G0 κ en ei ki ri) (hr : ∀ d, SV X W B G0 κ (en.set i d) rest δ (g d)) (hk : κ[i]? = some (.L .F) := by rfl) (hd : en[i]? = some d0 := by rfl)
    (hex : δ.ex κ en := by exact True.intro)
    (ha : ∀ ov iv new, augStore ei ov iv new = (do holding [new, ov, iv] (setItem ov iv new); release [new, ov, iv] []; pure .next) := by intros; rfl) :
    SV X W B G0 κ en (.AugAssign (.Subscript (.Name x px) ei sp) op e pos :: rest) δ ((toL d0).bind fun xs => ri.bind fun j => (pIx (.lst xs) j).bind fun o => r.bind fun y => (f o y).bind fun z => (setL1 xs j z).bind g) :=
  ⟨PSs.wk (pss_cons (ps_augS p hi.pe get_list he.pe (fun pins s σ H x y v u Q I rx ry h => hop pins s σ H x y v u Q I rx ry h) set_list ha) (PSs.all fun d => (hr d).ps)) fun Dn σ H ⟨G, Ss, st, m⟩ => by
    obtain ⟨p, vs, ds, hv, hS, hc, rs⟩ := st.ownL hk hd
    cases d0 with
    | lst xs =>
      cases hc with
      | lst hp =>
        refine ⟨_, hv, G, Ss, st, mS.toR st m hex fun j H2 G2 a2 st2 m2 w S2 rv2 => ?_⟩
        have hp2 := a2.1 _ _ hp
        have rj := st2.rd rv2
        rw [pIx_lst] at m2
        cases j with
        | int q =>
          cases eo : atI ds q with
          | none => simp only [eo] at m2; exact m2.elim
          | some o =>
            simp only [eo] at m2
            have rs2 := rs.mono a2.2.1
            obtain ⟨ov, eov, rov⟩ := atI_map (P := Rep X.K X.mg G2) rs2.length (fun i x h => rs2.get h) eo
            have m3 : mS W (cf X B G0) δ Dn (r.bind fun y => (f o y).bind fun z => (setL1 ds (.int q) z).bind g) := m2
            refine ⟨p, vs, q, ov, rfl, rj, SqL.of hp2, eov, G2, Ss, st2, mS.toR st2 m3 hex fun y H3 G3 a3 st3 m4 yv S3 rv3 => ?_⟩
            have ro3 : Rep X.K X.mg H3 o ov := (rov.mono a3.2.1).mono st3.sH
            refine hf W B G0 κ en σ H3 _ o y ov yv ro3 (st3.rd rv3) ⟨G3, Ss, st3, mS.toR st3 m4 hex fun z H4 G4 a4 st4 m5 zv S4 rv4 => ?_⟩
            have m6 : mS W (cf X B G0) δ Dn ((match ixN ds.length q with
              | some j => (R.ok (.lst (ds.set j z)) : R D)
              | none => R.bad).bind g) := m5
            cases ej : ixN ds.length q with
            | none => rw [ej] at m6; exact m6.elim
            | some j =>
              rw [ej] at m6
              refine ⟨p, vs, q, j, rfl, rj, a4.1 _ _ (a3.1 _ _ hp2), by rw [← rs.length]; exact ej, .lst (ds.set j z), G4, Ss, ?_, m6⟩
              exact st4.put hk (by intro z; cases z) (by rw [hS]; exact List.mem_cons_self) hv (by
                rw [hS]
                exact RepK.ofL (.lst upd_same) (((rs2.mono a3.2.1).mono a4.2.1).set j rv4.1))
        | _ => exact m2.elim
    | _ => exact m.elim⟩
end
/-! ### dict(a list of pairs) -/
def dPuts : D → List D → R D
  | acc, [] => .ok acc
  | .dct ks xs, .tup [k, d] :: ps => if isKey k then dPuts (dPut ks xs k d) ps else .bad
  | _, _ => .bad
def pDict : List D → R D
  | [.lst ps] => dPuts (.dct [] []) ps
  | _ => .bad
theorem dPuts_ok {K : PySem.W.Frag} {mg : Str → Option Value} {G : Hp} : ∀ {ps : List D} {ws : List V} {kvs : List (Key × V)} {xs : List D}, Reps K mg G ps ws → Reps K mg G xs (kvs.map (·.2)) →
    dPuts (.dct (kvs.map fun q => kD q.1) xs) ps = .bad ∨ ∃ (as : List Addr) (more : List (Key × V)) (xs' : List D), ws = as.map V.ref ∧ PySem.Paired (fun p kv => SqT K G p [kV kv.1, kv.2]) as more ∧
      dPuts (.dct (kvs.map fun q => kD q.1) xs) ps = .ok (.dct ((mergeK kvs more).map fun q => kD q.1) xs') ∧ Reps K mg G xs' ((mergeK kvs more).map (·.2))
  | [], ws, kvs, xs, h, r => by
    have e : ws = [] := h
    subst e
    exact .inr ⟨[], [], xs, rfl, .nil, rfl, r⟩
  | p :: ps, ws, kvs, xs, ⟨v, r', e, h, q⟩, r => by
    subst e
    by_cases hp : ∃ k d, p = .tup [k, d]
    · obtain ⟨k, d, rfl⟩ := hp
      obtain ⟨a, vs, rfl, sq, kv, r2, rfl, hk, dv, r3, rfl, hd, e3⟩ := h
      have e3 : r3 = [] := e3
      subst e3
      have e4 : dPuts (.dct (kvs.map fun q => kD q.1) xs) (.tup [k, d] :: ps) = if isKey k then dPuts (dPut (kvs.map fun q => kD q.1) xs k d) ps else .bad := rfl
      rw [e4]
      by_cases hkk : isKey k = true
      · rw [if_pos hkk]
        obtain ⟨key, rfl, rfl⟩ := key_of_D hk hkk
        obtain ⟨xs', e5, r5⟩ := dPut_ok (k := key) r hd
        rw [e5]
        rcases dPuts_ok (ps := ps) q r5 with z | ⟨as, more, xs2, z1, z2, z3, z4⟩
        · exact .inl z
        · subst z1
          exact .inr ⟨a :: as, (key, dv) :: more, xs2, rfl, .cons sq z2, z3, z4⟩
      · rw [if_neg hkk]
        exact .inl rfl
    · refine .inl ?_
      cases p with
      | tup l =>
        match l, hp with
        | [], _ => rfl
        | [_], _ => rfl
        | [a, b], hp => exact absurd ⟨a, b, rfl⟩ hp
        | _ :: _ :: _ :: _, _ => rfl
      | _ => rfl
theorem paired_mono {K : PySem.W.Frag} {G H : Hp} (s : Same G H) : ∀ {as : List Addr} {more : List (Key × V)}, PySem.Paired (fun p kv => SqT K G p [kV kv.1, kv.2]) as more → PySem.Paired (fun p kv => SqT K H p [kV kv.1, kv.2]) as more
  | _, _, .nil => .nil
  | _, _, .cons h t => .cons (sqT_mono s h) (paired_mono s t)
section
variable {K : PySem.W.Frag} {mg : Str → Option Value}
theorem bf_dict : BfD K mg (fun xs H Q => ∃ (a : Addr) (ps : List Addr) (kvs : List (Key × V)), xs = [.ref a] ∧ SqL K H a (ps.map V.ref) ∧ PySem.Paired (fun p kv => SqT K H p [kV kv.1, kv.2]) ps kvs ∧ ∀ p, H p = none → Q (.ref p) (upd H p (.dK (mergeK [] kvs)))) [.F] (.O (.L .F)) pDict := by
  intro W B G0 κ en σ H G Ss Q ds vs st args m
  obtain ⟨d, v, rfl, rfl, r⟩ := args.one
  cases d with
  | lst ps =>
    obtain ⟨a, ws, e, q, rs⟩ := r
    subst e
    have m' : mR W ⟨K, mg, B, G0⟩ σ H G (yV ⟨K, mg, B, G0⟩ H (.O (.L .F)) Q) (dPuts (.dct (([] : List (Key × V)).map fun q => kD q.1) []) ps) := m
    rcases dPuts_ok (kvs := []) rs .nil with z | ⟨as, more, xs, z1, z2, z3, z4⟩
    · rw [z] at m'
      exact m'.elim
    · rw [z3] at m'
      subst z1
      refine ⟨a, as, more, rfl, SqL.of (st.sH _ _ q), paired_mono st.sH z2, fun l hl => ?_⟩
      exact m' _ G (Adv.newO st.sH hl) (.ref l) [l] ⟨⟨l, _, xs, [], rfl, rfl, .dK upd_same, AllR.frozen z4⟩, by simp, fun q hq => by
        have e : q = l := by simpa using hq
        subst e
        exact ⟨hl, st.sH.free hl, _, upd_same⟩⟩
  | _ => exact m.elim
end
end Lw
namespace Lw
open PySem PySem.Spec PyProof.Rows L2
/-! ### exceptions with an __init__ of their own: the base's, then one field -/
def toExc {α : Type} : D → R α
  | .exc c ns xs => .exc ⟨c, ns, xs⟩
  | _ => .bad
/-- the base class, an own one whose __init__ is ValueError's -/
structure LbC (K : PySem.W.Frag) (mg : Str → Option Value) (x : Str) : Prop where
  ex : ∃ C, mg x = some (.ref C) ∧ PySem.W.specialIn K (.ref C) "__getattribute__" = some (some (.builtin "type.__getattribute__")) ∧ PySem.W.readsIn K C (.type "type") = true ∧ PySem.W.findCls K (.ref C) (.type "type") "__init__" = some (.val (.builtin "ValueError.__init__"))
theorem pe_leinit {X : Cx} {e : Expr} {es : List Expr} {ta : TA} {p1 p2 pos : Pos} {x : Str} {pl : Sem Bool} (L : LbC X.K X.mg x) (ha : PA X (e :: es) ta) (hg : Gl X x := by rfl) (hdb : (x == ("__debug__" : Str)) = false := by decide)
    (hc : eval (.Call (.Attribute (.Name x p1) "__init__" p2) (e :: es) [] pos) X.env = (do
      let ov ← eval (.Name x p1) X.env
      standAt p2.atName
      let (f, first) ← holding [ov] (getMethod ov "__init__" pl)
      callWith pos f first (backTo pos (starEach (e :: es) X.env)) (backToKw pos (keywordEach [] X.env))) := by rfl)
    (he : starEach (e :: es) X.env = (false, eval e X.env) :: starEach es X.env := by rfl) (hpl : (backTo pos (starEach es X.env)).any (·.1) = false := by rfl) :
    PE X (.Call (.Attribute (.Name x p1) "__init__" p2) (e :: es) [] pos) (tVeI X.K ta) := by
  obtain ⟨C, gC, ga, rd, at_⟩ := L.ex
  refine ⟨fun pins s σ H Q I h => ?_⟩
  refine PySem.W.methodCall_KW (ld_glob I hg gC ?_ hdb) hc
  refine PySem.W.method_cls I.kIn ga (PySem.W.cls_value I.kIn rd at_ (by decide +kernel) ?_)
  show wpAny _ _ (callWith pos (Value.builtin "ValueError.__init__") [] (backTo pos (starEach (e :: es) X.env)) []) _ _ _
  refine PyProof.Rows.callWith_method1 (thn (ha.run pos pins _ σ H _ (I.tok _) h) fun us s1 ⟨vs, H1, I1, r1, a, C, ws, ev, hl, T, ea, q⟩ => ?_) he hpl
  subst ev
  cases r1 with
  | @cons _ u0 _ ur ra rw' =>
    obtain rfl : u0 = Value.ref a := ra
    have hlen : ur.length ≤ sizeLine := by
      rw [← Paired.length rw', sizeLine_eq]
      omega
    exact oinit_ok T I1 ea hlen fun s' J => ⟨.non, H1, J, rfl, q⟩
abbrev W00 : WX := fun _ _ _ _ => False
/-- what its __init__ promises -/
def spX (K : PySem.W.Frag) (mg : Str → Option Value) (cl fld : Str) (pk : List PK) (f : List D → R D) : Sp := fun vs H Q _ =>
  ∃ G ds p C ws, vs = .ref p :: ws ∧ H p = some (exo p C none) ∧ mg cl = some (.ref C) ∧ OexC K C ∧ PySem.W.findIn K (.ref C) fld = some none ∧ Same G (delH H p) ∧ ArgsR K mg (delH H p) G pk ds ws ∧
    mR W00 ⟨K, mg, delH H p, G⟩ [] (delH H p) G (fun d H' G' => ∀ H2 dx x y, H' = delH H2 p → H2 p = some (exo p C none) → H2 dx = none → dx ≠ p → d = .exc cl [fld] [x] → Rep K mg G' x y →
      Q .non (upd (upd H2 dx (exd dx [(fld, y)])) p (exo p C (some dx)))) (f ds)
def MkX (P : Program) (w : World) (K : PySem.W.Frag) (mg : Str → Option Value) (base : Heap) (k : Nat) (cl fld : Str) (pk : List PK) (f : List D → R D) : Prop :=
  ∃ C fi fd ps, mg cl = some (.ref C) ∧ OexC K C ∧ PySem.W.findIn K (.ref C) fld = some none ∧ PySem.W.findIn K (.ref C) "__init__" = some (some (.ref fi)) ∧ PySem.W.typeIn K (.ref fi) = some (.type "function") ∧ Binds K fd ps [] ∧ FnOk P w K mg base (L2.CX P w) k fi fd ps (spX K mg cl fld pk f)
/-- its body -/
structure SX (X : Cx) (B G0 : Hp) (κ : List Kd) (en : List D) (sts : List Stmt) (cl fld : Str) (r : R D) : Prop where
  ps : PSs X sts fun Dn σ H => ∃ p C G Ss, σ[0]? = some (some (.ref p)) ∧ H p = some (exo p C none) ∧ OexC X.K C ∧ PySem.W.findIn X.K (.ref C) fld = some none ∧ St (cf X B G0) κ en σ H G Ss ∧
    mR W00 (cf X B G0) σ H G (fun d H' G' => ∀ dx x y, H' p = some (exo p C none) → H' dx = none → dx ≠ p → d = .exc cl [fld] [x] → Rep X.K X.mg G' x y → Dn.nx σ (upd (upd H' dx (exd dx [(fld, y)])) p (exo p C (some dx)))) r
theorem sx_ok {X : Cx} {B G0 : Hp} {κ : List Kd} {en : List D} {e1 e2 : Expr} {k1 : RK} {r1 r2 : R D} {lap sf cl fld : Str} {p1 p2 p3 p4 p5 p6 p7 p8 : Pos} {pl : Sem Bool} (L : LbC X.K X.mg lap) (v1 : PE X (.Name sf p3) (tVar 0)) (v2 : PE X (.Name sf p6) (tVar 0)) (h1 : EV X W00 B G0 κ en e1 k1 r1) (h2 : EV X W00 B G0 κ en e2 .F r2)
    (hg : Gl X lap := by rfl) (hdb : (lap == ("__debug__" : Str)) = false := by decide)
    (hc : eval (.Call (.Attribute (.Name lap p1) "__init__" p2) [.Name sf p3, e1] [] p4) X.env = (do
      let ov ← eval (.Name lap p1) X.env
      standAt p2.atName
      let (f, first) ← holding [ov] (getMethod ov "__init__" pl)
      callWith p4 f first (backTo p4 (starEach [.Name sf p3, e1] X.env)) (backToKw p4 (keywordEach [] X.env))) := by rfl)
    (he : starEach [.Name sf p3, e1] X.env = (false, eval (.Name sf p3) X.env) :: starEach [e1] X.env := by rfl) (he2 : starEach [e1] X.env = (false, eval e1 X.env) :: starEach [] X.env := by rfl) (hpl : (backTo p4 (starEach [e1] X.env)).any (·.1) = false := by rfl)
    (hs : swapsWith (.Call (.Attribute (.Name lap p1) "__init__" p2) [.Name sf p3, e1] [] p4) none p5.line X.env = pure false := by rfl) (hs2 : swapsWith e2 (some (.Attribute (.Name sf p6) fld p7)) p8.line X.env = pure false := by rfl) :
    SX X B G0 κ en [.Expr (.Call (.Attribute (.Name lap p1) "__init__" p2) [.Name sf p3, e1] [] p4) p5, .Assign [.Attribute (.Name sf p6) fld p7] e2 p8] cl fld (r1.bind fun _ => r2.bind fun d => .ok (.exc cl [fld] [d])) :=
  ⟨PSs.wk (pss_cons (ps_expr (pe_leinit L (pa_cons v1 (pa_cons h1.pe pa_nil he2) he) hg hdb hc he hpl) hs) (pss_one (ps_ost v2 h2.pe hs2))) fun Dn σ H ⟨p, C, G, Ss, hs, hp, T, hf, st, m⟩ =>
    ⟨.ref p, hs, tEXb st m _ fun d1 v1 H1 G1 S1 _ a1 st1 rv1 m1 => ⟨p, C, [v1], rfl, by simp, T, a1.1 _ _ hp, tEXb st1 m1 _ fun d2 v2 H2 G2 S2 _ a2 st2 rv2 m2 =>
      ⟨.ref p, hs, p, C, rfl, T, hf, .inl ⟨(a1.trans a2).1 _ _ hp, fun dx n ne => m2 H2 G2 (.refl st2.sH) dx d2 v2 ((a1.trans a2).1 _ _ hp) n ne rfl rv2.1⟩⟩⟩⟩⟩
theorem Adv.delp {H G G' H' : Hp} {p : Addr} {o : HO} (a : Adv H G G' H') (hp : H p = some o) (g0 : G p = none) : Adv (delH H p) G G' (delH H' p) := by
  have gp : G' p = none := a.gone hp g0
  refine ⟨fun b u h => ?_, a.2.1, fun b u h => ?_, fun b u h => ?_⟩
  · by_cases e : b = p
    · rw [e, delH_same] at h; cases h
    · rw [delH_ne e] at h ⊢; exact a.1 _ _ h
  · by_cases e : b = p
    · rw [e, gp] at h; cases h
    · rw [delH_ne e]; exact a.2.2.1 _ _ h
  · rcases a.2.2.2 b u h with q | q
    · exact .inl q
    · by_cases e : b = p
      · rw [e, delH_same]; exact .inr rfl
      · rw [delH_ne e]; exact .inr q
section
variable {P : Program} {w : World} {K : PySem.W.Frag} {mg : Str → Option Value} {base : Heap}
theorem fx_ok {x qual cl fld : Str} {params : Arguments} {body : List Stmt} {sc : Scope} {fa : Addr} {fd : FuncData} {N ps : List Str} {k : Nat} {pk : List PK} (m : Nat) {f : List D → R D} (F : FunD K x qual params body sc [] [] fa fd) (S : FnScope N ps sc) (hl : ps.length = pk.length + 1) (hN : N.length = pk.length + 1 + m)
    (hb : ∀ (cdv : Value) (A : Around) (outer : List Env) (s : Shared) (H B : Hp) (E : XK) (G : Hp) (ds : List D), Room k (A.deeper (envOfC qual sc s.heap.objs.size fa cdv)) → ds.length = pk.length →
      SX (cxOf (L2.CX P w) P w K mg base N qual sc fa cdv A outer s H E) B G (.N :: (pkK pk ++ List.replicate m .N)) (.non :: (ds ++ List.replicate m .non)) body cl fld (f ds)) :
    FnOk P w K mg base (L2.CX P w) (k + 1) fa fd ps (spX K mg cl fld pk f) := by
  refine F.ok S (fun vs H Q E ⟨G, ds, p, C, ws, e, _, _, _, _, _, rs, _⟩ => ?_) (fun cdv A outer s H vs Q E hr ⟨G, ds, p, C, ws, e, hp, gC, T, hf, sG, rs, mm⟩ => ?_)
  · subst e
    obtain ⟨l1, l2⟩ := rs.length
    simp
    omega
  · subst e
    obtain ⟨l1, l2⟩ := rs.length
    have hn : ds.length = pk.length := l1.symm
    have sH : Same G H := sG.trans delH_sub
    have gp : G p = none := by
      cases q : G p with
      | none => rfl
      | some o =>
        have z := sG _ _ q
        rw [delH_same] at z
        cases z
    have st : St ⟨K, mg, delH H p, G⟩ (.N :: (pkK pk ++ List.replicate m .N)) (.non :: (ds ++ List.replicate m .non)) (L2.start N (.ref p :: ws)) H G (fun i => []) := by
      refine ⟨⟨?_, ?_⟩, fun i k hk hne => ?_, fun i q hq => (by cases hq), fun i => List.Pairwise.nil, fun i j q hij h1 h2 => (by cases h1), delH_sub, .refl _, sH, fun _ _ h => .inl h⟩
      · unfold L2.start
        simp [pkK]
        omega
      · simp [hn, pkK]
      · cases i with
        | zero =>
          have e : Kd.N = k := by simpa using hk
          exact absurd e.symm hne
        | succ j =>
          have hk' : (pkK pk ++ List.replicate m Kd.N)[j]? = some k := by simpa using hk
          rcases Nat.lt_or_ge j pk.length with hj | hj
          · rw [List.getElem?_append_left (by simpa [pkK] using hj)] at hk'
            unfold pkK at hk'
            rw [List.getElem?_map] at hk'
            cases eb : pk[j]? with
            | none => rw [eb] at hk'; cases hk'
            | some b =>
              rw [eb] at hk'
              have e : b.kd = k := by simpa using hk'
              subst e
              obtain ⟨v, d, e1, e2, e3⟩ := rs.get eb
              refine ⟨v, d, ?_, ?_, ?_⟩
              · unfold L2.start
                rw [List.getElem?_append_left (by simp; omega)]
                simp [e1]
              · rw [List.getElem?_cons_succ, List.getElem?_append_left (by omega)]
                exact e2
              · cases b with
                | F => exact ⟨e3, rfl⟩
                | B => exact ⟨e3, rfl⟩
                | E => exact ⟨e3, rfl⟩
          · rw [List.getElem?_append_right (by simpa [pkK] using hj)] at hk'
            have e := List.eq_of_mem_replicate (List.mem_of_getElem? hk')
            exact absurd e hne
    refine ⟨_, (hb cdv A outer s H (delH H p) E G ds hr hn).ps, p, C, G, _, ?_, hp, T, hf, st, ?_⟩
    · unfold L2.start
      simp
    cases hfd : f ds with
    | bad => rw [hfd] at mm; exact mm.elim
    | exc x =>
      rw [hfd] at mm
      exact fun cv xd H' G' a hv => by
        have z := mm cv xd (delH H' p) G' (a.delp hp gp) hv
        exact z
    | ok d =>
      rw [hfd] at mm
      exact fun H' G' a dx x y h1 h2 h3 h4 h5 => mm (delH H' p) G' (a.delp hp gp) H' dx x y rfl h1 h2 h3 h4 h5
end
section
variable {α : Type} {X : Cx} {W : WX} {B G0 : Hp} {κ : List Kd} {en : List D} {δ : DE α} {pos : Pos} {rest : List Stmt} {e : Expr} {es : List Expr} {rs : R (List D)} {pk : List PK} {k : Nat} {cl fld x : Str} {f : List D → R D} {cp p : Pos} {ro : R D} {kk : RK}
/-- raise C(e, ..) -/
theorem sv_raiseX (F : MkX X.prog X.w X.K X.mg X.base k cl fld pk f) (hr : Room (k + 1) X.A) (tk : Takes X W) (ha : EA X W B G0 κ en (e :: es) pk rs) (hc : X.calm = true := by rfl) (hex : δ.ex κ en := by exact True.intro) (hg : Gl X cl := by rfl) (hdb : (cl == ("__debug__" : Str)) = false := by decide)
    (hlen : pk.length ≤ 1000 := by decide)
    (he : starEach (e :: es) X.env = (false, eval e X.env) :: starEach es X.env := by rfl) (hpl : (backTo cp (starEach es X.env)).any (·.1) = false := by rfl) :
    SV X W B G0 κ en (.Raise (some (.Call (.Name cl p) (e :: es) [] cp)) none pos :: rest) δ (rs.bind fun ds => (noX (f ds)).bind fun d => if d matches .exc _ _ _ then toExc d else .bad) := by
  obtain ⟨C, fi, fd, ps, gC, T, hfl, iC, tI, hb, F⟩ := F
  refine ⟨PSs.wk (pss_cons (ps_raise hc tk (pmk_oex (dvs := []) T iC tI F hr hb .nil (fun pins σ H s e s' I z => ?_) hg gC ha.pa hdb he hpl)) pss_never) fun Dn σ H ⟨G, Ss, st, m⟩ => ⟨G, Ss, st, mS.toR st m hex fun ds H1 G1 a st1 m1 vs args => ?_⟩⟩
  · exact passL pins σ H s e s' I z
  refine ⟨by rw [args.length.2, ← args.length.1]; exact hlen, fun q hq => ?_⟩
  have eD : delH (upd H1 q (exo q C none)) q = H1 := delH_new hq
  refine ⟨G1, ds, q, C, vs, by rw [List.append_nil], upd_same, gC, T, hfl, by rw [eD]; exact st1.sH, by rw [eD]; exact args, ?_⟩
  rw [eD]
  cases hf : f ds with
  | bad => rw [hf] at m1; exact m1.elim
  | exc y => rw [hf] at m1; exact m1.elim
  | ok d =>
    rw [hf] at m1
    intro H' G' b H2 dx x y eH hp hdx ne ed hR
    subst ed eH
    have m2 : mS W (cf X B G0) δ Dn (.exc ⟨cl, [fld], [x]⟩ : R α) := m1
    have h1dx : H1 dx = none := by
      cases z : H1 dx with
      | none => rfl
      | some o =>
        have z2 := b.1 _ _ z
        rw [delH_ne ne, hdx] at z2
        cases z2
    have eU : upd (L2.del (upd (upd H2 dx (exd dx [(fld, y)])) q (exo q C (some dx))) q) dx (.xd [(fld, y)]) = upd (delH H2 q) dx (.xd [(fld, y)]) := by
      funext c
      by_cases e1 : c = dx
      · rw [e1, upd_same, upd_same]
      · rw [upd_ne e1, upd_ne e1]
        by_cases e2 : c = q
        · rw [e2, delH_same, L2.del_same]
        · rw [delH_ne e2, L2.del_ne e2, upd_ne e2, upd_ne e1]
    refine ⟨rfl, dx, [(fld, y)], upd_same, by rw [upd_ne ne, upd_same], h1dx, ?_⟩
    rw [eU]
    have hdx' : delH H2 q dx = none := by rw [delH_ne ne]; exact hdx
    have b2 : Adv (delH H2 q) G' (upd G' dx (.xd [(fld, y)])) (upd (delH H2 q) dx (.xd [(fld, y)])) := Adv.newF b.2.2.1 hdx'
    exact m2 _ _ κ en σ _ _ Ss (st1.adv (b.trans b2)) hex ⟨⟨C, gC, rfl⟩, .inr ⟨dx, [(fld, y)], by simp, rfl, upd_same, rfl, .cons (hR.mono b2.2.1) .nil⟩⟩
/-! ### e.f of an exception that was caught -/
def XfD (K : PySem.W.Frag) (mg : Str → Option Value) (cl f : Str) : Prop := ∃ C, mg cl = some (.ref C) ∧ XfC K C ∧ PySem.W.findIn K (.ref C) f = some none
def pXfld (cl f : Str) : D → R D
  | .exc c ns xs => if c = cl ∧ ns ≠ [] then lookF f ns xs else .bad
  | _ => .bad
theorem pe_xfld {e : Expr} {te : TE} {n : Str} {C : Addr} (T : XfC X.K C) (hno : PySem.W.findIn X.K (.ref C) n = some none) (he : PE X e te) (hb : attributeBase e n X.env (eval e X.env) = eval e X.env := by rfl) :
    PE X (.Attribute e n pos) (fun σ H Q => te σ H fun x H1 => ∃ (a dd : Addr) (fs : List (Str × V)) (v : V), x = .ref a ∧ H1 a = some (ExK (.ref C) (some dd) a) ∧ H1 dd = some (.xd fs) ∧ fs.lookup n = some v ∧ Q v H1) := by
  refine ⟨fun pins s σ H Q I h => ?_⟩
  refine attr_of hb (thn (he.run pins s σ H _ I h) fun u s1 hh => ?_)
  obtain ⟨x, H1, I1, rx, a, dd, fs, v, ex, ea, ed, l, q⟩ := hh
  subst ex
  obtain rfl : u = Value.ref a := rx
  have hx0 : ObjOk X.prog X.w H1 s1.heap a (.ext fun h => ∃ (oe : Obj) (vs : Array Value), h.get? a = some oe ∧ Zc (.ref C) (some dd) oe ∧ oe.data = .fields vs) := I1.hok a _ ea
  obtain ⟨oe, vs, ha, hz, hd⟩ := hx0.1
  have hx : ObjOk X.prog X.w H1 s1.heap dd (.xd fs) := I1.hok dd _ ed
  obtain ⟨mA, hns, hr⟩ := hx
  obtain ⟨od, ho, hl⟩ := lookIn_ns hns
  obtain ⟨u, hu, ru⟩ := RelO.some_of (v := v) (o := mA n) (by rw [← l]; exact hr n)
  have J : PySem.W.InstAt s1.heap a oe C (some od) := ⟨ha, hz.1, by unfold PySem.W.notCls; rw [hd] <;> rfl, by rw [hz.2]; exact ho⟩
  exact HandSPX.exc_get I1.kIn J T.ga T.gg T.exC (PySem.W.findObj_own T.hdC hno rfl (by rw [hl, hu])) (handed_of ru) ⟨v, H1, I1.tok _, ru, q⟩
theorem ev_xfld (F : XfD X.K X.mg cl fld) (h : EV X W B G0 κ en e .F ro) (hb : attributeBase e fld X.env (eval e X.env) = eval e X.env := by rfl) : EV X W B G0 κ en (.Attribute e fld pos) .F (ro.bind (pXfld cl fld)) := by
  obtain ⟨C, gC, T, hno⟩ := F
  exact ⟨PE.wk (pe_xfld T hno h.pe hb) fun σ H Q ⟨G, Ss, st, m⟩ => tEVb st m _ fun d v H1 G1 S _ a st1 rv m1 => by
    cases d with
    | exc c ns xs =>
      have m2 : mR W (cf X B G0) σ H1 G1 (yV (cf X B G0) H1 .F Q) (if c = cl ∧ ns ≠ [] then lookF fld ns xs else .bad) := m1
      by_cases hc : c = cl ∧ ns ≠ []
      · rw [if_pos hc] at m2
        obtain ⟨ec, hne⟩ := hc
        subst ec
        obtain ⟨⟨p, C', xd, ev, hp, hm, hx⟩, _⟩ := rv
        have eC : C' = C := by
          have hm' : X.mg c = some (.ref C') := hm
          rw [hm'] at gC
          injection gC with z
          injection z
        subst eC
        rcases hx with ⟨z, _⟩ | ⟨dx, fs, _, exd, hdx, hfs, hrs⟩
        · exact absurd z hne
        subst exd hfs
        cases hl : lookF fld (fs.map (·.1)) xs with
        | bad => rw [hl] at m2; exact m2.elim
        | exc y => exact (lookF_nx hl).elim
        | ok d =>
          rw [hl] at m2
          obtain ⟨w, e1, e2⟩ := lookF_ok hl hrs
          exact ⟨p, dx, fs, w, ev, st1.sH _ _ hp, st1.sH _ _ hdx, e1, m2 H1 G1 (.refl st1.sH) w [] ⟨e2, rfl⟩⟩
      · rw [if_neg hc] at m2
        exact m2.elim
    | _ => exact m1.elim⟩
end
end Lw
namespace Lw
open PySem PySem.Spec PyProof.Rows L2
/-! ### lists at hand whose items are frozen -/
def frI : RK → Bool
  | .F => true
  | .J => true
  | .E => true
  | _ => false
theorem frI_o {k : RK} (h : frI k = true) : ∀ q, k ≠ .O q := fun q z => by subst z; cases h
theorem RV.fri {c : Cf} {H0 H G : Hp} {k : RK} {v : V} {S : List Addr} {xs : List D} (h : RV c H0 H G k (.lst xs) v S) (hk : frI k = true) (sB : Same c.B H) (sG : Same G H) : ∃ p vs, v = .ref p ∧ H p = some (.lst vs) ∧ Reps c.K c.mg G xs vs := by
  cases k with
  | F =>
    obtain ⟨⟨p, vs, e, q, r⟩, _⟩ := h
    exact ⟨p, vs, e, sG _ _ q, r⟩
  | J =>
    obtain ⟨⟨p, vs, ds, e, hc, r⟩, _⟩ := h
    cases hc with
    | lst q => exact ⟨p, _, e, sB _ _ q, r⟩
  | E =>
    obtain ⟨⟨p, vs, ds, e, hc, r⟩, _⟩ := h
    cases hc with
    | lst q => exact ⟨p, _, e, q, r⟩
  | _ => cases hk
section
variable {X : Cx} {W : WX} {B G0 : Hp} {κ : List Kd} {en : List D} {a b : Expr} {ka kb k : RK} {ra rb : R D} {pos : Pos}
theorem ev_catLg (ha : EV X W B G0 κ en a ka ra) (hb : EV X W B G0 κ en b kb rb) (h1 : frI ka = true := by rfl) (h2 : frI kb = true := by rfl) : EV X W B G0 κ en (.BinOp a .Add b pos) (.O (.L .F)) (R.bin2 ra rb pCatL) :=
  ⟨PE.wk (pe_op op_cat ha.pe hb.pe) fun σ H Q ⟨G, Ss, st, m⟩ => tEVb st m _ fun d v H1 G1 S _ a1 st1 rv m1 => tEVb st1 m1 _ fun d2 v2 H2 G2 S2 _ a2 st2 rv2 m2 => by
    have rv' := rv.adv a2 (frI_o h1)
    cases d with
    | lst xs =>
      cases d2 with
      | lst ys =>
        obtain ⟨p, vs, ev, q, rs⟩ := rv'.fri h1 st2.sB st2.sH
        obtain ⟨p2, vs2, ev2, q2, rs2⟩ := rv2.fri h2 st2.sB st2.sH
        subst ev ev2
        have m3 : mR W (cf X B G0) σ H2 G2 (yV (cf X B G0) H2 (.O (.L .F)) Q) (if xs.length + ys.length ≤ 16777216 then .ok (.lst (xs ++ ys)) else .bad) := m2
        by_cases hl : xs.length + ys.length ≤ 16777216
        · rw [if_pos hl] at m3
          exact ⟨p, p2, vs, vs2, rfl, rfl, q, q2, by rw [sizeLine_eq, ← rs.length, ← rs2.length]; exact hl, mk_list m3 st2.sH (.refl _) (rs.append rs2)⟩
        · rw [if_neg hl] at m3
          exact m3.elim
      | _ => exact m2.elim
    | _ => cases d2 <;> exact m2.elim⟩
/-- the same, its slots written out -/
theorem sv_at {α : Type} {sts : List Stmt} {δ : DE α} {s : R α} {κ κ2 : List Kd} {en en2 : List D} (h : SV X W B G0 κ2 en2 sts δ s) (h1 : κ = κ2 := by rfl) (h2 : en = en2 := by rfl) : SV X W B G0 κ en sts δ s := by
  subst h1 h2
  exact h
end
end Lw
/-! comprehensions whose items may raise -/
namespace Lw
open PySem PySem.Spec PyProof.Rows L2
theorem note_any {M : Model} {A : Around} {E : Value → Shared → Prop} {s : Shared} {Z : Obj → Prop} {base : Heap} {env : Env} {outer : List Env} {L e : Addr} {w : Value} {Q : Unit → Shared → Prop} (hZ : HandSPX.Steady Z) (hfr : A.frames = some (env :: outer)) (hf : env.frame = some L)
    (hkb : base.StaysIn s.heap) (hen : base.get? e = none) (hl : s.heap.FunFrames base (env :: outer)) (ht : HandSPX.TracedZ s.heap base e Z w) (hw : (w == rawInt L) = false)
    (hQ : ∀ h', HandSPX.HeldZ base (env :: outer) e Z L h' → s.heap.UpToSlots h' → Q () { s with heap := h' }) : wpAny M A (noteFrame (.ref e) env) Q E s := by
  obtain ⟨oe, vs, T, oT, ts, he, hz, hd, h1, hnT, hTe, hT, hdT, h3⟩ := ht
  unfold noteFrame
  simp only [hf]
  refine wpAny_bind (wpAny_field he hd h1 ?_)
  rw [if_pos (show (Value.ref T != Value.none) = true from by simp)]
  refine wpAny_bind (wpAny_field hT hdT h3 ?_)
  rw [if_neg (show ¬ ((w == rawInt L) = true) from by rw [hw]; decide)]
  refine wpAny_bind (wpAny_setField hT hdT (Array.getElem?_eq_some_iff.mp h3).1 ?_)
  have other : ∀ b, b ≠ T → (s.heap.update T (Obj.mapFields (·.setIfInBounds 3 Value.none))).get? b = s.heap.get? b := fun b hb => Heap.get?_update_other _ _ (Ne.symm hb)
  have noRecord : ∀ b o, s.heap.get? b = some o → (∀ vs, o.data ≠ .fields vs) → b ≠ T := fun b o hb hnf q => by
    rw [q, hT] at hb; injection hb with hb; subst hb; exact hnf ts hdT
  refine HandSPX.wpAny_entryZ hZ hfr (hl.of_keeps fun b o hb hnf => ⟨o, (other b (noRecord b o hb hnf)).trans hb, rfl⟩) hf ((other e (Ne.symm hTe)).trans he)
    (fun b o hbo => (other b fun q => by rw [q, hnT] at hbo; cases hbo).trans (hkb b o hbo)) hen hd (Array.getElem?_eq_some_iff.mp h1).1 hz fun h' hN => ?_
  obtain ⟨x1, x2, x3, x4⟩ := hN
  exact hQ h' ⟨x1, hen, x2, x3⟩ fun b o hb hnf => x4 b o ((other b (noRecord b o hb hnf)).trans hb) hnf
theorem rawInt_ne {a b : Nat} (h : a ≠ b) : (rawInt a == rawInt b) = false := by
  simp [rawInt]
  omega
/-- a comprehension's block whose exceptions go on -/
abbrev blkE (X : Cx) (Wb : WX) (s : Shared) (H : Hp) (scope : Scope) (cenv : Env) (fp : List Addr) : Cx := (X.blk s H scope cenv fp).wish (XE (X.blk s H scope cenv fp) Wb)
theorem takes_blkE {X : Cx} {Wb : WX} {s : Shared} {H : Hp} {scope : Scope} {cenv : Env} {fp : List Addr} : Takes (blkE X Wb s H scope cenv fp) Wb := fun u s' ⟨a, B, sI, pins, σ, H', cls, d, e, I, nb, up, sky, na, os, ag, w⟩ =>
  ⟨a, B, sI, pins, σ, H', cls, d, e, I.unwish, nb, up, sky, na, os, ag, w⟩
/-- an exception leaves the block -/
theorem air_out {X : Cx} {W Wb : WX} {σ : L2.St} {pins : List (Addr × Obj)} {H3 : Hp} {s3 s' : Shared} {scope : Scope} {ce : Env} {fp : List Addr} {use : Option (Value → Sem Unit)} {Qf : Value → Shared → Prop} {acc u : Value}
    (hs : X.stack = X.env :: X.outer) (hf : X.env.frame = some X.env.locals) (tk : Takes X W) (I3 : Inv X pins σ H3 s3) (hce : ce.frame = X.env.frame) (hCs : s3.heap.objs.size ≤ ce.locals)
    (f3 : ∀ b ∈ fp, (b ∈ X.ex ∨ X.s_0.heap.objs.size ≤ b) ∧ b ≠ X.env.locals ∧ (∀ x c, X.env.cells.lookup x = some c → c ≠ b) ∧ ∀ p ∈ X.pn ++ pins, p.1 ≠ b)
    (hW : ∀ c d σ' H, Wb c d σ' H → W c d σ H) (x : XE (X.blk s3 H3 scope ce fp) Wb u s') :
    notedBy (model X.prog X.w) X.A ce (fun e s'' => compEnds (model X.prog X.w) X.A X.xe use Qf acc ce (.error e) s'') u s' := by
  obtain ⟨a, B, sI, pins', σ', H', cls, d, rfl, I, nb, up, sky, na, os, ag, w⟩ := x
  have IX : Inv X pins σ H' sI := I3.call' (ch := fp) I.os I.base I.hok I.bare f3
  obtain ⟨mC, hnC, _⟩ := I.loc
  have hnC : sI.heap.Ns ce.locals mC := hnC
  have nC : H' ce.locals = none := I.free
  have fpC : FpOk X pins H' ce.locals := I3.fpOk hCs nC
  have cfr : ce.locals ∉ frs X.stack := fun hm => by
    rcases List.mem_cons.mp (I3.stkSub _ hm) with z | z
    · exact fpC.2.1 z
    · exact fpC.2.2.1 z
  obtain ⟨oC0, _, _, hoC0, _⟩ := id hnC
  have hBC : B.get? ce.locals = some oC0 := nb _ _ hoC0 cfr
  have b0 : B.get? a = none := by
    rcases sky with ⟨_, hn, _⟩ | fl | hd
    · exact hn
    · exact fl.2.1
    · exact hd.2.1
  have aC : a ≠ ce.locals := fun z => by rw [z, hBC] at b0; cases b0
  have hfr : X.A.frames = some (X.env :: X.outer) := by rw [IX.ok.frames, hs]
  have fin : ∀ h1, HandSPX.HeldZ B (X.env :: X.outer) a (Zc cls d) X.env.locals h1 → s'.heap.UpToSlots h1 → compEnds (model X.prog X.w) X.A X.xe use Qf acc ce (.error (.ref a)) { s' with heap := h1 } := fun h1 hh up1 => by
    have key : CompFails (model X.prog X.w) X.A X.xe ce (.ref a) { s' with heap := h1 } := by
      have hn1 : h1.Ns ce.locals mC := hnC.upToSlots fun b o e nf => (up.trans up1) b o e nf
      refine ⟨mC, hn1, fun h2 m2 hn2 hs2 => ?_⟩
      have hs2 : Heap.SameBut ce.locals h1 h2 := hs2
      obtain ⟨b1, _, f1, oe, vs, T, oT, ts, he, hz, hd, hv1, hnT, hTe, hT, hdT, h3⟩ := hh
      obtain ⟨oC, esC, epC, hoC, hdC, _⟩ := id hn2
      have nfC : oC.isFreed = false := (Heap.get?_some_iff.mp hoC).2
      have gB2 : ∀ b, b ≠ ce.locals → (B.update ce.locals fun _ => oC).get? b = B.get? b := fun b hb => Heap.get?_update_other _ _ (Ne.symm hb)
      have gC : (B.update ce.locals fun _ => oC).get? ce.locals = some oC := Heap.get?_update_self _ hBC nfC
      have gI : ∀ b, b ≠ ce.locals → (sI.heap.update ce.locals fun _ => oC).get? b = sI.heap.get? b := fun b hb => Heap.get?_update_other _ _ (Ne.symm hb)
      have gIC : (sI.heap.update ce.locals fun _ => oC).get? ce.locals = some oC := Heap.get?_update_self _ hoC0 nfC
      have TC : T ≠ ce.locals := fun z => by rw [z, hBC] at hnT; cases hnT
      have b2 : (B.update ce.locals fun _ => oC).StaysIn h2 := fun b o e => by
        by_cases hb : b = ce.locals
        · subst hb
          rw [gC] at e; cases e
          exact hoC
        · rw [gB2 b hb] at e
          exact (hs2.2 b hb).trans (b1 b o e)
      have a2 : (B.update ce.locals fun _ => oC).get? a = none := (gB2 a aC).trans b0
      have f2 : h2.FunFrames (B.update ce.locals fun _ => oC) (X.env :: X.outer) := funFrames_none (Heap.FunFrames.sameBut hs2 hn2 f1) fun L hL => by
        have hLC : L ≠ ce.locals := fun z => cfr (by rw [hs, ← z]; exact hL)
        rw [gB2 L hLC]
        exact (f1.mem hL).1
      have t2 : HandSPX.TracedZ h2 (B.update ce.locals fun _ => oC) a (Zc cls d) (rawInt X.env.locals) := ⟨oe, vs, T, oT, ts, (hs2.2 a aC).trans he, hz, hd, hv1, (gB2 T TC).trans hnT, hTe, (hs2.2 T TC).trans hT, hdT, h3⟩
      unfold PySem.passOn
      refine wpAny_bind (wpAny_field ((hs2.2 a aC).trans he) hd hv1 ?_)
      rw [if_neg (show ¬ ((Value.ref T == Value.none) = true) from by simp)]
      rw [hce.trans hf]
      refine wpAny_bind (HandSPX.setFlight_anyZ b2 f2 t2 fun h4 k1 k2 k3 k4 => wpAny_throw (tk _ _ ?_))
      refine ⟨a, B.update ce.locals fun _ => oC, { sI with heap := sI.heap.update ce.locals fun _ => oC, toks := sI.toks }, pins, σ, H', cls, d, rfl, IX.turned (t' := sI.toks) (fun b o hb e => (gI b hb).trans e) nC fpC.2.1 fpC.2.2.2.1 fpC.2.2.2.2.1 fpC.2.2.2.2.2, fun b o e hb => ?_, fun b o e nf => ?_, .inr (.inr ?_), na, os, ag, hW _ _ _ _ w⟩
      · by_cases hbC : b = ce.locals
        · subst hbC
          have e : (sI.heap.update ce.locals fun _ => oC).get? ce.locals = some o := e
          rw [gIC] at e; cases e
          exact gC
        · have e : (sI.heap.update ce.locals fun _ => oC).get? b = some o := e
          rw [gI b hbC] at e
          exact (gB2 b hbC).trans (nb b o e hb)
      · by_cases hbC : b = ce.locals
        · subst hbC
          have e : (sI.heap.update ce.locals fun _ => oC).get? ce.locals = some o := e
          rw [gIC] at e; cases e
          exact k4 _ _ hoC nf
        · have e : (sI.heap.update ce.locals fun _ => oC).get? b = some o := e
          rw [gI b hbC] at e
          obtain ⟨sl, e1⟩ := (up.trans up1) b o e nf
          exact k4 b _ ((hs2.2 b hbC).trans e1) nf |>.elim fun sl2 e2 => ⟨sl2, e2⟩
      · rw [hs]
        exact ⟨k1, a2, k2, k3⟩
    cases use <;> exact key
  show wpAny (model X.prog X.w) X.A (noteFrame (.ref a) ce) _ _ _
  rw [noteFrame_env _ hce]
  have sky : Sky B (X.env :: X.outer) a (Zc cls d) ce.locals s'.heap := by rw [← hs]; exact sky
  rcases sky with ⟨hB, hn, hl, oe, vs, he, hz, hd, h1⟩ | fl | hd
  · exact HandSPX.look_newZ Zc.steady hfr hl hf he hB hn hd h1 hz fin
  · exact HandSPX.looks_onZ Zc.steady hfr hf fl fin
  · obtain ⟨k1, k2, k3, k4⟩ := hd
    exact note_any Zc.steady hfr hf k1 k2 k3 k4 (rawInt_ne fpC.2.1) fin
/-- what raises nothing, in a block whose exceptions go on -/
theorem PG.toE {X : Cx} {Wb : WX} {s : Shared} {H : Hp} {scope : Scope} {cenv : Env} {fp : List Addr} {tg : Expr} {g : TG} (h : PG (X.blk s H scope cenv fp) tg g) : PG (blkE X Wb s H scope cenv fp) tg g :=
  ⟨fun pins s' σ H' x u Q I r q => wpAny_mono (h.run pins s' σ H' x u Q I.unwish r q) (fun _ s'' ⟨σ2, H2, I2, z⟩ => ⟨σ2, H2, I2.wish _, z⟩) fun _ _ z => False.elim z⟩
theorem PTs.toE {X : Cx} {Wb : WX} {s : Shared} {H : Hp} {scope : Scope} {cenv : Env} {fp : List Addr} {ifs : List Expr} {t : TT} (h : PTs (X.blk s H scope cenv fp) ifs t) : PTs (blkE X Wb s H scope cenv fp) ifs t :=
  ⟨fun pins s' σ H' Q I q => wpAny_mono (h.run pins s' σ H' Q I.unwish q) (fun _ s'' ⟨H2, I2, z⟩ => ⟨H2, I2.wish _, z⟩) fun _ _ z => False.elim z⟩
section
variable {X : Cx}
theorem lc_coreX {pins : List (Addr × Obj)} {s : Shared} {σ : L2.St} {H : Hp} {Q : VK} {elt tg iter : Expr} {ifs : List Expr} {scope : Scope} {own : List (Str × Nat)} {pos pos' : Pos} {wi : TI} {g : TG} {tt : TT} {te : TE} {use : Option (Value → Sem Unit)} {Qf : Value → Shared → Prop} {W : WX}
    (hst : X.stack = X.env :: X.outer) (hfX : X.env.frame = some X.env.locals) (tk : Takes X W)
    (hc : X.calm = true) (hN : X.N.Nodup) (I : Inv X pins σ H s) (hi : PI X tg iter wi) (ok : BlkOk X.N X.env.scope scope own)
    (hg : ∀ (s : Shared) (H : Hp) (C : Addr) (cl : List (Str × Addr)) (fp : List Addr), PG (X.blk s H scope (compEnvC scope cl C X.env) fp) tg g) (ht : ∀ (s : Shared) (H : Hp) (C : Addr) (cl : List (Str × Addr)) (fp : List Addr), PTs (X.blk s H scope (compEnvC scope cl C X.env) fp) ifs tt)
    (he : ∀ (s : Shared) (H : Hp) (C : Addr) (cl : List (Str × Addr)) (fp : List Addr), PE (blkE X (fun c d _ H => W c d σ H) s H scope (compEnvC scope cl C X.env) fp) elt te) (hs : ∀ x, foldedSetIterable iter X.env x = pure x)
    (h : tLc wi g tt te (own.map (·.2)) σ H Q)
    (hRR : ∀ D (ce : Env) s' m H', Inv X pins σ H' s' → Q (.ref D) H' → s'.heap.Ns ce.locals m → FpOk X pins H' ce.locals → compEnds (model X.prog X.w) X.A X.xe use Qf (.ref D) ce (.ok .next) s') :
    wpAny (model X.prog X.w) X.A (comprehension (.ListComp elt [⟨tg, iter, ifs, 0⟩] scope pos) scope X.env pos' (newList []) false (eval iter X.env) use) Qf X.xe s := by
  have hfree : ∀ y ∈ scope.names, y.2 = .free → ∃ c, X.env.cells.lookup y.1 = some c := fun y hy e => by
    rcases ok.free y hy e with k | k
    · exact I.ok.has _ (.inl k)
    · exact I.ok.has _ (.inr k)
  refine comprehension_at (use := use) rfl hs (closure_ok hfree) ok.kind (fun y hy e => by rw [ok.uniq y hy, e])
    (thn (hi.run pins s σ H _ I h) fun xv s1 hx => thn hx fun itv s2 h2 => ?_)
  obtain ⟨it, fp, tn, J, H2, e, I2, T, st2, f2, q⟩ := h2
  subst e
  refine wpAny_newObj_type (newEnv_comp ?_) (by show 0 ≤ sizeLine; decide)
  generalize hD : s2.heap.objs.size = D
  have hDn : H2 D = none := I2.hok.fresh (Nat.le_of_eq hD)
  obtain ⟨W, ⟨m0, w0⟩, turn⟩ := q D hDn
  -- the new list
  generalize hs3 : ({ s2 with heap := s2.heap.push { cls := .type "list", data := .seq ([] : List Value).toArray } } : Shared) = s3
  have I3 : Inv X pins σ (upd H2 D (.lst [])) s3 := by
    rw [← hs3]
    refine I2.laid (t' := s2.toks) (fun b o e => Heap.get?_push_of_some _ e) (Nat.le_of_eq hD) ⟨Nat.zero_le _, [], 0, .nil, ?_⟩
    rw [← hD]
    exact Heap.get?_push_size _ rfl
  have h3 : s3.heap = s2.heap.push { cls := .type "list", data := .seq ([] : List Value).toArray } := by rw [← hs3]
  have sz : ∀ b ∈ fp, b < s2.heap.objs.size := fun b hb => by
    obtain ⟨o, e, _⟩ := T.obj _ _ st2 b hb
    exact Heap.lt_size e
  have f3 : ∀ b ∈ fp, FpOk X pins (upd H2 D (.lst [])) b ∧ b < s3.heap.objs.size := fun b hb => by
    have hlt := sz b hb
    refine ⟨⟨?_, (f2 b hb).2⟩, by rw [h3, Heap.size_push]; exact Nat.lt_succ_of_lt hlt⟩
    rw [upd_ne (by rw [← hD]; exact Nat.ne_of_lt hlt)]
    exact (f2 b hb).1
  have st3 : tn 0 s3.heap := T.keep _ _ _ st2 fun b _ o e => by rw [h3]; exact Heap.get?_push_of_some _ e
  have I4 := block_start I3 ok hN f3
  have pg := hg s3 (upd H2 D (.lst [])) s3.heap.objs.size (cellsFrom (s3.heap.objs.size + 1) scope.names (cloFrom X.env.cells scope.names [])) fp
  have pt := ht s3 (upd H2 D (.lst [])) s3.heap.objs.size (cellsFrom (s3.heap.objs.size + 1) scope.names (cloFrom X.env.cells scope.names [])) fp
  have pe := he s3 (upd H2 D (.lst [])) s3.heap.objs.size (cellsFrom (s3.heap.objs.size + 1) scope.names (cloFrom X.env.cells scope.names [])) fp
  show codeAny _ _ (.compStart (.ListComp elt [⟨tg, iter, ifs, 0⟩] scope pos) 0 (.ref it) (.ref D) (compEnvC scope (cellsFrom (s3.heap.objs.size + 1) scope.names (cloFrom X.env.cells scope.names [])) s3.heap.objs.size X.env)) (compEnds (model X.prog X.w) X.A X.xe use Qf (.ref D) (compEnvC scope (cellsFrom (s3.heap.objs.size + 1) scope.names (cloFrom X.env.cells scope.names [])) s3.heap.objs.size X.env)) { s3 with heap := pushCells (s3.heap.push { cls := .type "dict", data := .dict #[] }) scope.names }
  have nfp : ∀ b ∈ fp, (upd H2 D (.lst [])) b = none := fun b hb => (f3 b hb).1.1
  generalize hce : compEnvC scope (cellsFrom (s3.heap.objs.size + 1) scope.names (cloFrom X.env.cells scope.names [])) s3.heap.objs.size X.env = ce at I4 pg pt pe ⊢
  have cF : ce.frame = X.env.frame := by subst hce; rfl
  have cL : ce.locals = s3.heap.objs.size := by subst hce; rfl
  generalize hH3 : upd H2 D (.lst []) = H3 at I3 I4 pg pt pe w0 nfp f3
  generalize hs4 : ({ s3 with heap := pushCells (s3.heap.push { cls := .type "dict", data := .dict #[] }) scope.names } : Shared) = s4 at I4 ⊢
  have st4 : tn 0 s4.heap := T.keep _ _ _ st3 fun b _ o e => by rw [← hs4]; exact pushCells_keeps _ _ _ _ (Heap.get?_push_of_some _ e)
  have stat : ∀ {σ' : L2.St} {H' : Hp} {s' : Shared}, Inv (X.blk s3 H3 scope ce fp) [] σ' H' s' → (∀ b ∈ fp, H' b = none) → ∀ b ∈ fp, FpOk (X.blk s3 H3 scope ce fp) [] H' b := fun {σ' H' s'} I' hn b hb =>
    ⟨hn b hb, (I'.ok.exf b hb).1, I'.ok.exfs b hb, .inl hb, fun x c e => (I'.ok.exf b hb).2 x c e, fun p hp => absurd (show p ∈ ([] : List (Addr × Obj)) ++ [] from hp) (by simp)⟩
  have loop : codeAny (model X.prog X.w) X.A (.compLoop (.ListComp elt [⟨tg, iter, ifs, 0⟩] scope pos) 0 (.ref it) (.ref D) ce) (compEnds (model X.prog X.w) X.A X.xe use Qf (.ref D) ce) s4 := by
    refine compLoop_any (fun n s' => ∃ i H', Inv (X.blk s3 H3 scope ce fp) [] (wipe σ (own.map (·.2))) H' s' ∧ tn i s'.heap ∧ (∀ b ∈ fp, H' b = none) ∧ W i n H') ?_ m0 ⟨0, H3, I4, st4, nfp, w0⟩
    rintro n s5 ⟨i, H5, I5, st5, n5, w5⟩
    rcases turn i n H5 w5 with ⟨stop, qq⟩ | ⟨go, Nx, hNx, step⟩
    · have td := T.done (X.blk s3 H3 scope ce fp) rfl rfl rfl hc i [] s5 _ H5 (fun _ _ => False) I5 (stat I5 n5) st5 stop
      refine thnF td fun r s6 ⟨hr, I6⟩ => ?_
      subst hr
      -- back in the def's context
      have I7 : Inv X pins σ H5 s6 := I3.call' (ch := fp) I6.os I6.base I6.hok I6.bare fun b hb => ⟨(f3 b hb).1.2.2.2.1, (f3 b hb).1.2.1, (f3 b hb).1.2.2.2.2.1, (f3 b hb).1.2.2.2.2.2⟩
      have nC : H5 s3.heap.objs.size = none := by
        have z : H5 ce.locals = none := I6.free
        rw [cL] at z
        exact z
      obtain ⟨m, hn, _⟩ := I6.loc
      have hn : s6.heap.Ns ce.locals m := hn
      exact hRR D ce s6 m H5 I7 qq hn (by rw [cL]; exact I3.fpOk (Nat.le_refl _) nC)
    · have ti := T.item (X.blk s3 H3 scope ce fp) rfl rfl rfl hc i [] s5 _ H5 (fun _ _ => False) I5 (stat I5 n5) st5 go
      refine thnF ti fun r s6 ⟨u, hr, h6⟩ => ?_
      subst hr
      refine thnF h6 fun _ s7 ⟨x, H7, I7, r7, y7, st7, n7⟩ => ?_
      have I7' := I7.pinned (stat I7 n7) (T.obj _ _ st7)
      refine thnF (pg.run _ s7 _ H7 x u _ I7' r7 (step x H7 y7)) fun _ s8 ⟨σ8, H8, I8, hw8, q8⟩ => ?_
      refine thnF (pt.run _ s8 σ8 H8 _ I8 q8) fun b s9 ⟨H9, I9, q9⟩ => ?_
      -- the turn's end
      have fin : ∀ {s' : Shared} {H' : Hp}, Inv (X.blk s3 H3 scope ce fp) ([] ++ pinsAt fp s7.heap) σ8 H' s' → Nx H' → ∃ m, m < n ∧ ∃ i H', Inv (X.blk s3 H3 scope ce fp) [] (wipe σ (own.map (·.2))) H' s' ∧ tn i s'.heap ∧ (∀ b ∈ fp, H' b = none) ∧ W i m H' := fun {s' H'} I' nx => by
        obtain ⟨m', hm, w'⟩ := hNx H' nx
        have pin' : ∀ b ∈ fp, ∀ o, s7.heap.get? b = some o → s'.heap.get? b = some o ∧ H' b = none := fun b hb o e =>
          let z := I'.pin (b, o) (List.mem_append_right _ (List.mem_append_right _ (mem_pinsAt hb e)))
          ⟨z.1, z.2.1⟩
        have hl : (wipe σ (own.map (·.2))).length = σ8.length := by rw [← hw8, wipe_length]
        refine ⟨m', hm, i + 1, H', (I'.unpinned (pins := [])).weak hl (fun j v e => ?_), T.keep _ _ _ st7 fun b hb o e => (pin' b hb o e).1, fun b hb => ?_, w'⟩
        · rw [← hw8] at e
          exact (wipe_some e).1
        · obtain ⟨o, e, _⟩ := T.obj _ _ st7 b hb
          exact (pin' b hb o e).2
      cases b with
      | false =>
        simp only [Bool.false_eq_true, if_false] at q9 ⊢
        exact fin I9 q9
      | true =>
        simp only [if_true] at q9 ⊢
        refine wpAny_mono (pe.run _ s9 σ8 H9 _ (I9.wish _) q9) (fun z s10 ⟨yv, H10, I10, r10, acc, hD10, hz10, nx⟩ => ?_) fun u s10 xx => air_out hst hfX tk I3 cF (Nat.le_of_eq cL.symm) (fun b hb => ⟨(f3 b hb).1.2.2.2.1, (f3 b hb).1.2.1, (f3 b hb).1.2.2.2.2.1, (f3 b hb).1.2.2.2.2.2⟩) (fun _ _ _ _ z => z) xx
        have I10 := I10.unwish
        exact app_ok (X := X.blk s3 H3 scope ce fp) I10 hD10 hz10 r10 fun s11 I11 => fin I11 nx
  exact codeAny_compStart_list loop (T.self X.A 0 _ _ _ st4 loop)
theorem pe_lcX {elt tg iter : Expr} {ifs : List Expr} {scope : Scope} {own : List (Str × Nat)} {pos : Pos} {wi : TI} {g : TG} {tt : TT} {te : L2.St → TE} {W : WX} (hst : X.stack = X.env :: X.outer) (hfX : X.env.frame = some X.env.locals) (tk : Takes X W) (hc : X.calm = true) (hN : X.N.Nodup) (hi : PI X tg iter wi) (ok : BlkOk X.N X.env.scope scope own)
    (hg : ∀ (s : Shared) (H : Hp) (C : Addr) (cl : List (Str × Addr)) (fp : List Addr), PG (X.blk s H scope (compEnvC scope cl C X.env) fp) tg g) (ht : ∀ (s : Shared) (H : Hp) (C : Addr) (cl : List (Str × Addr)) (fp : List Addr), PTs (X.blk s H scope (compEnvC scope cl C X.env) fp) ifs tt)
    (he : ∀ (σ : L2.St) (s : Shared) (H : Hp) (C : Addr) (cl : List (Str × Addr)) (fp : List Addr), PE (blkE X (fun c d _ H => W c d σ H) s H scope (compEnvC scope cl C X.env) fp) elt (te σ)) (hs : ∀ x, foldedSetIterable iter X.env x = pure x := by intro _; rfl) :
    PE X (.ListComp elt [⟨tg, iter, ifs, 0⟩] scope pos) (fun σ H Q => tLc wi g tt (te σ) (own.map (·.2)) σ H Q) := by
  refine ⟨fun pins s σ H Q I h => ?_⟩
  rw [eval_ListComp]
  refine lc_coreX hst hfX tk hc hN I hi ok hg ht (he σ) hs h fun D ce s' m H' I' q hn f => ⟨m, hn, fun h'' sb => ?_⟩
  obtain ⟨f0, f1, f2, f3, f4, f5⟩ := f
  exact ⟨.ref D, H', I'.turned (t' := s'.toks) (fun b o hb e => (sb.2 b hb).trans e) f0 f1 f3 f4 f5, rfl, q⟩
theorem ps_setLcX {i : Nat} {y : Str} {py : Pos} {elt tg iter : Expr} {ifs : List Expr} {scope : Scope} {own : List (Str × Nat)} {pos spos : Pos} {wi : TI} {g : TG} {tt : TT} {te : L2.St → TE} {W : WX} (hst : X.stack = X.env :: X.outer) (hfX : X.env.frame = some X.env.locals) (tk : Takes X W) (hc : X.calm = true) (hN : X.N.Nodup) (hy : X.N[i]? = some y) (hyl : X.env.scope.names.lookup y = some .local)
    (hsw : swapsWith (.ListComp elt [⟨tg, iter, ifs, 0⟩] scope pos) (some (.Name y py)) spos.line X.env = pure true) (hi : PI X tg iter wi) (ok : BlkOk X.N X.env.scope scope own)
    (hg : ∀ (s : Shared) (H : Hp) (C : Addr) (cl : List (Str × Addr)) (fp : List Addr), PG (X.blk s H scope (compEnvC scope cl C X.env) fp) tg g) (ht : ∀ (s : Shared) (H : Hp) (C : Addr) (cl : List (Str × Addr)) (fp : List Addr), PTs (X.blk s H scope (compEnvC scope cl C X.env) fp) ifs tt)
    (he : ∀ (σ : L2.St) (s : Shared) (H : Hp) (C : Addr) (cl : List (Str × Addr)) (fp : List Addr), PE (blkE X (fun c d _ H => W c d σ H) s H scope (compEnvC scope cl C X.env) fp) elt (te σ)) (hs : ∀ x, foldedSetIterable iter X.env x = pure x := by intro _; rfl) :
    PS X (.Assign [.Name y py] (.ListComp elt [⟨tg, iter, ifs, 0⟩] scope pos) spos) (tAsg (fun σ H Q => tLc wi g tt (te σ) (own.map (·.2)) σ H Q) (gName i)) := by
  refine ⟨fun pins s σ H D I h => ?_⟩
  rw [exec_Assign_Name_used _ _ _ _ hsw]
  refine wpAny_bind (wpAny_standAt (wpAny_bind ?_))
  show wpAny _ X.A (do let _ ← comprehension (.ListComp elt [⟨tg, iter, ifs, 0⟩] scope pos) scope X.env (firstIterPos [⟨tg, iter, ifs, 0⟩] pos) (newList []) false (eval iter X.env) (some (assign (.Name y py) X.env))) _ _ s
  have h : tLc wi g tt (te σ) (own.map (·.2)) σ H (fun x H1 => gName i x σ H1 D.nx) := h
  refine wpAny_bind (thn (lc_coreX (Qf := fun _ s' => SP X pins D .next s') hst hfX tk hc hN I hi ok hg ht (he σ) hs h fun L ce s' m H' I' q hn f => ?_) fun _ s' hq => wpAny_pure (wpAny_pure hq))
  show wpAny _ _ (assign (.Name y py) X.env (.ref L)) _ _ _
  refine wpAny_assign_Name (store_ok2 (v := V.ref L) I' hN hy (.inl hyl) rfl (fun s2 I2 ⟨a, sb, ha⟩ => ?_) (.inr hyl))
  obtain ⟨f0, f1, f2, f3, f4, f5⟩ := f
  have haC : ce.locals ≠ a := by
    rcases ha with z | z
    · rw [z]; exact f1
    · exact fun e => f4 y a z e.symm
  refine ⟨m, hn.sameBut sb haC, fun h3 sb3 => ?_⟩
  exact ⟨_, H', I2.turned (t' := s2.toks) (fun b o hb e => (sb3.2 b hb).trans e) f0 f1 f3 f4 f5, q⟩
end
section
variable {X : Cx} {W : WX} {B G0 : Hp} {κ : List Kd} {en : List D} {elt tg iter : Expr} {ifs : List Expr} {scope : Scope} {pos : Pos} {own : List (Str × Nat)} {k : RK} {ri : R (List D)} {ρ : Type} {u : D → R ρ} {js : List Nat} {vs : ρ → List D} {ke : Kd} {t : ρ → R Bool} {f : ρ → R D}
theorem tLc_evX {wi : TI} {g : TG} {σ : L2.St} {H : Hp} {Q : VK} {tt : TT} {te : TE} {G : Hp} {Ss : Nat → List Addr} (st : St (cf X B G0) κ en σ H G Ss)
    (m : mR W (cf X B G0) σ H G (yV (cf X B G0) H (.O (.L .F)) Q) (ri.bind fun xs => if xs.length ≤ 16777216 then (rMapF u (fun p => noX (t p)) f xs).bind mkL else .bad))
    (hwi : ∀ Z : It → Hp → Prop, mR W (cf X B G0) σ H G (fun xs H' G' => ∀ J, Walks (cf X B G0) k xs J G' → Z J H') ri → wi σ H Z)
    (hux : ∀ d e, u d = .exc e → False) (hk : rig k = true)
    (hg : ∀ (B G0 : Hp) (κ : List Kd) (en : List D) (σ : L2.St) (H H0 G : Hp) (Ss : Nat → List Addr) (d : D) (w : V) (p : ρ) (Q : L2.St → Hp → Prop), St (cf X B G0) κ en σ H G Ss → RV (cf X B G0) H0 H G k d w [] → u d = .ok p →
      (∀ j ∈ js, j < κ.length) → (∀ σ' Ss', (∀ zs : List Nat, (∀ j ∈ js, j ∈ zs) → wipe σ' zs = wipe σ zs) → St (cf X B G0) (setK κ js ke) (setL en js (vs p)) σ' H G Ss' → Q σ' H) → g w σ H Q)
    (hjo : ∀ j ∈ js, j ∈ own.map (·.2)) (hj : ∀ j ∈ js, j < κ.length)
    (htt : ∀ G0 p σ H Q, tET W0 (cf X B G0) (setK (wipeK κ (own.map (·.2))) js ke) (setL en js (vs p)) (t p) σ H Q → ∀ q : ρ, q = p → tt σ H Q)
    (hte : ∀ G0 p σ' H' Q, tEV (fun c d _ H => W c d σ H) (cf X B G0) (setK (wipeK κ (own.map (·.2))) js ke) (setL en js (vs p)) .F (f p) σ' H' Q → te σ' H' Q) : tLc wi g tt te (own.map (·.2)) σ H Q := by
  refine hwi _ (m.thn fun xs H1 G1 a m1 J wk D hD => ?_)
  have hxl : xs.length ≤ 16777216 := by
    by_cases h : xs.length ≤ 16777216
    · exact h
    · rw [if_neg h] at m1; exact m1.elim
  rw [if_pos hxl] at m1
  have st1 := st.adv a
  have gD : G1 D = none := a.2.2.1.free hD
  refine ⟨fun i mm H2 => i ≤ xs.length ∧ mm = xs.length - i ∧ ∃ G2 acc ds, Adv H1 G1 G2 H2 ∧ G2 D = none ∧ H2 D = some (.lst acc) ∧ Reps X.K X.mg G2 ds acc ∧ ds.length ≤ i ∧
      mR W (cf X B G0) σ H1 G1 (yV (cf X B G0) H (.O (.L .F)) Q) ((rMapF u (fun p => noX (t p)) f (xs.drop i)).bind fun ys => mkL (ds ++ ys)),
    ⟨xs.length, Nat.zero_le _, by simp, G1, [], [], Adv.newO a.2.2.1 hD, gD, upd_same, .nil, Nat.zero_le _, by simpa using m1⟩, ?_⟩
  rintro i mm H2 ⟨hi, rfl, G2, acc, ds, a2, gD2, hD2, rs, hdl, m2⟩
  have st2 := st1.adv a2
  obtain ⟨wstop, wgo⟩ := wk H2 G2 a2.2.1 st2.sH st2.sB
  rcases Nat.lt_or_ge i xs.length with hlt | hge
  · have hd : xs[i]? = some xs[i] := List.getElem?_eq_getElem hlt
    obtain ⟨jgo, jy⟩ := wgo i _ hd
    refine .inr ⟨jgo, fun H3 => i + 1 ≤ xs.length ∧ ∃ G3 acc ds, Adv H1 G1 G3 H3 ∧ G3 D = none ∧ H3 D = some (.lst acc) ∧ Reps X.K X.mg G3 ds acc ∧ ds.length ≤ i + 1 ∧
      mR W (cf X B G0) σ H1 G1 (yV (cf X B G0) H (.O (.L .F)) Q) ((rMapF u (fun p => noX (t p)) f (xs.drop (i + 1))).bind fun ys => mkL (ds ++ ys)), fun H' ⟨h1, z⟩ => ⟨xs.length - (i + 1), by omega, h1, rfl, z⟩, fun x H3 y => ?_⟩
    obtain ⟨G3, a3, rv3⟩ := jy x H3 y
    have st3 := st2.adv a3
    rw [List.drop_eq_getElem_cons hlt] at m2
    have m3 : mR W (cf X B G0) σ H1 G1 (yV (cf X B G0) H (.O (.L .F)) Q) (((u xs[i]).bind fun p => (noX (t p)).bind fun b => if b = true then (f p).bind fun y => (rMapF u (fun p => noX (t p)) f (xs.drop (i + 1))).bind fun ys => .ok (y :: ys) else rMapF u (fun p => noX (t p)) f (xs.drop (i + 1))).bind fun ys => mkL (ds ++ ys)) := m2
    cases eu : u xs[i] with
    | bad => rw [eu] at m3; exact m3.elim
    | exc x => exact (hux _ _ eu).elim
    | ok p =>
      rw [eu] at m3
      have st3w := st3.wipe (own.map (·.2))
      have hD3 := a3.1 _ _ hD2
      have gD3 := a3.gone hD2 gD2
      refine hg B G0 _ en _ H3 H2 G3 Ss xs[i] x p _ st3w rv3 eu (fun j h => by rw [wipeK_length]; exact hj j h) fun σ4 Ss4 hw st4 => ⟨(hw _ hjo).trans (wipe_wipe σ _), ?_⟩
      have m4 : mR W (cf X B G0) σ H1 G1 (yV (cf X B G0) H (.O (.L .F)) Q) (((noX (t p)).bind fun b => if b = true then (f p).bind fun y => (rMapF u (fun p => noX (t p)) f (xs.drop (i + 1))).bind fun ys => .ok (y :: ys) else rMapF u (fun p => noX (t p)) f (xs.drop (i + 1))).bind fun ys => mkL (ds ++ ys)) := m3
      refine htt G0 p σ4 H3 _ ⟨G3, Ss4, st4, ?_⟩ p rfl
      cases et : t p with
      | bad => rw [et] at m4; exact m4.elim
      | exc x => rw [et] at m4; exact m4.elim
      | ok b =>
        rw [et] at m4
        intro H5 G5 a5
        have a15 : Adv H1 G1 G5 H5 := (a2.trans a3).trans a5
        have hD5 := a5.1 _ _ hD3
        have gD5 := a5.gone hD3 gD3
        cases b with
        | false =>
          exact ⟨hlt, G5, acc, ds, a15, gD5, hD5, rs.mono (a3.2.1.trans a5.2.1), Nat.le_succ_of_le hdl, m4⟩
        | true =>
          have m5 : mR W (cf X B G0) σ H1 G1 (yV (cf X B G0) H (.O (.L .F)) Q) (((f p).bind fun y => (rMapF u (fun p => noX (t p)) f (xs.drop (i + 1))).bind fun ys => .ok (y :: ys)).bind fun ys => mkL (ds ++ ys)) := m4
          refine iteT ?_
          refine hte G0 p σ4 H5 _ ⟨G5, Ss4, st4.adv a5, ?_⟩
          cases ef : f p with
          | bad => rw [ef] at m5; exact m5.elim
          | exc x =>
            rw [ef] at m5
            exact fun cv xd H' G' b ev => m5 cv xd H' G' (a15.trans b) ev
          | ok yd =>
            rw [ef] at m5
            intro H6 G6 a6 yv S rv6
            have m6 : mR W (cf X B G0) σ H1 G1 (yV (cf X B G0) H (.O (.L .F)) Q) ((rMapF u (fun p => noX (t p)) f (xs.drop (i + 1))).bind fun ys => mkL (ds ++ [yd] ++ ys)) := by
              have e : (((R.ok yd).bind fun y => (rMapF u (fun p => noX (t p)) f (xs.drop (i + 1))).bind fun ys => .ok (y :: ys)).bind fun ys => mkL (ds ++ ys)) = ((rMapF u (fun p => noX (t p)) f (xs.drop (i + 1))).bind fun ys => mkL (ds ++ [yd] ++ ys)) := by
                show ((rMapF u (fun p => noX (t p)) f (xs.drop (i + 1))).bind fun ys => .ok (yd :: ys)).bind (fun ys => mkL (ds ++ ys)) = _
                rw [R.bind_assoc]
                congr 1
                funext ys
                simp
              rw [← e]
              exact m5
            have hD6 := a6.1 _ _ hD5
            have gD6 := a6.gone hD5 gD5
            have len : acc.length < sizeLine := by
              rw [← rs.length, sizeLine_eq]
              omega
            refine ⟨acc, hD6, len, hlt, G6, acc ++ [yv], ds ++ [yd], (a15.trans a6).put hD gD6, gD6, upd_same, ?_, by simp; omega, m6⟩
            exact (rs.mono ((a3.2.1.trans a5.2.1).trans a6.2.1)).snoc rv6.1
  · have e : i = xs.length := by omega
    subst e
    refine .inl ⟨wstop _ (Nat.le_refl _), ?_⟩
    rw [List.drop_length] at m2
    have m3 : mR W (cf X B G0) σ H1 G1 (yV (cf X B G0) H (.O (.L .F)) Q) (mkL (ds ++ [])) := m2
    rw [List.append_nil] at m3
    unfold mkL at m3
    by_cases hl : ds.length ≤ 16777216
    · rw [if_pos hl] at m3
      refine m3 H2 G2 a2 (.ref D) [D] ⟨⟨D, acc, ds, [], rfl, rfl, .lst hD2, AllR.frozen rs⟩, by simp, fun q hq => ?_⟩
      have e : q = D := by simpa using hq
      subst e
      exact ⟨a.1.free hD, gD2, _, hD2⟩
    · rw [if_neg hl] at m3; exact m3.elim
def pCompX {ρ : Type} (ri : R (List D)) (u : D → R ρ) (t : ρ → R Bool) (f : ρ → R D) : R D := ri.bind fun xs => if xs.length ≤ 16777216 then (rMapF u (fun p => noX (t p)) f xs).bind mkL else .bad
theorem ev_compX (hst : X.stack = X.env :: X.outer) (hfX : X.env.frame = some X.env.locals) (tk : Takes X W) (hc : X.calm = true) (hN : X.N.Nodup) (hi : EI X W B G0 κ en tg iter k ri) (ok : BlkOk X.N X.env.scope scope own)
    (hg : TgB X scope tg k ρ u js vs ke)
    (ht : ∀ (s : Shared) (H : Hp) (C : Addr) (cl : List (Str × Addr)) (fp : List Addr) (G0 : Hp) (p : ρ), ETs (X.blk s H scope (compEnvC scope cl C X.env) fp) W0 B G0 (setK (wipeK κ (own.map (·.2))) js ke) (setL en js (vs p)) ifs (t p))
    (he : ∀ (σ : L2.St) (s : Shared) (H : Hp) (C : Addr) (cl : List (Str × Addr)) (fp : List Addr) (G0 : Hp) (p : ρ), EV (blkE X (fun c d _ H => W c d σ H) s H scope (compEnvC scope cl C X.env) fp) (fun c d _ H => W c d σ H) B G0 (setK (wipeK κ (own.map (·.2))) js ke) (setL en js (vs p)) elt .F (f p))
    (hk : rig k = true := by rfl) (hjo : ∀ j ∈ js, j ∈ own.map (·.2) := by decide) (hj : ∀ j ∈ js, j < κ.length := by first | decide | simp) (hs : ∀ x, foldedSetIterable iter X.env x = pure x := by intro _; rfl) :
    EV X W B G0 κ en (.ListComp elt [⟨tg, iter, ifs, 0⟩] scope pos) (.O (.L .F)) (pCompX ri u t f) := by
  obtain ⟨g, hux, pg, hg⟩ := hg
  have pt : ∀ (s : Shared) (H : Hp) (C : Addr) (cl : List (Str × Addr)) (fp : List Addr), PTs (X.blk s H scope (compEnvC scope cl C X.env) fp) ifs (fun σ H Q => ∃ q : Hp × ρ, tET W0 (cf X B q.1) (setK (wipeK κ (own.map (·.2))) js ke) (setL en js (vs q.2)) (t q.2) σ H Q) :=
    fun s H C cl fp => ⟨fun pins s' σ H' Q I ⟨q, z⟩ => (ht s H C cl fp q.1 q.2).pts.run pins s' σ H' Q I z⟩
  have pe : ∀ (σ0 : L2.St) (s : Shared) (H : Hp) (C : Addr) (cl : List (Str × Addr)) (fp : List Addr), PE (blkE X (fun c d _ H => W c d σ0 H) s H scope (compEnvC scope cl C X.env) fp) elt (fun σ H Q => ∃ q : Hp × ρ, tEV (fun c d _ H => W c d σ0 H) (cf X B q.1) (setK (wipeK κ (own.map (·.2))) js ke) (setL en js (vs q.2)) .F (f q.2) σ H Q) :=
    fun σ0 s H C cl fp => ⟨fun pins s' σ H' Q I ⟨q, z⟩ => (he σ0 s H C cl fp q.1 q.2).pe.run pins s' σ H' Q I z⟩
  refine ⟨PE.wk (pe_lcX hst hfX tk hc hN hi.pi ok pg pt pe hs) fun σ H Q ⟨G, Ss, st, m⟩ => ?_⟩
  exact tLc_evX st m (fun Z z => ⟨G, Ss, st, z⟩) hux hk hg hjo hj (fun G0 p σ H Q z q e => ⟨⟨G0, p⟩, z⟩) fun G0 p σ H Q z => ⟨⟨G0, p⟩, z⟩
/-- x = [.. for ..] -/
theorem sv_setCX {α : Type} {δ : DE α} {rest : List Stmt} {i : Nat} {y : Str} {py spos : Pos} {fr : D → R α} (hst : X.stack = X.env :: X.outer) (hfX : X.env.frame = some X.env.locals) (tk : Takes X W) (hN : X.N.Nodup) (hi : EI X W B G0 κ en tg iter k ri) (ok : BlkOk X.N X.env.scope scope own)
    (hg : TgB X scope tg k ρ u js vs ke)
    (ht : ∀ (s : Shared) (H : Hp) (C : Addr) (cl : List (Str × Addr)) (fp : List Addr) (G0 : Hp) (p : ρ), ETs (X.blk s H scope (compEnvC scope cl C X.env) fp) W0 B G0 (setK (wipeK κ (own.map (·.2))) js ke) (setL en js (vs p)) ifs (t p))
    (he : ∀ (σ : L2.St) (s : Shared) (H : Hp) (C : Addr) (cl : List (Str × Addr)) (fp : List Addr) (G0 : Hp) (p : ρ), EV (blkE X (fun c d _ H => W c d σ H) s H scope (compEnvC scope cl C X.env) fp) (fun c d _ H => W c d σ H) B G0 (setK (wipeK κ (own.map (·.2))) js ke) (setL en js (vs p)) elt .F (f p))
    (hr : ∀ d, SV X W B G0 (κ.set i (.L .F)) (en.set i d) rest δ (fr d))
    (hsw : swapsWith (.ListComp elt [⟨tg, iter, ifs, 0⟩] scope pos) (some (.Name y py)) spos.line X.env = pure true)
    (hc : X.calm = true := by rfl) (hy : X.N[i]? = some y := by rfl) (hyl : X.env.scope.names.lookup y = some .local := by rfl) (hκ : i < κ.length := by first | decide | simp) (hex : δ.ex κ en := by exact True.intro)
    (hk : rig k = true := by rfl) (hjo : ∀ j ∈ js, j ∈ own.map (·.2) := by decide) (hj : ∀ j ∈ js, j < κ.length := by first | decide | simp) (hs : ∀ x, foldedSetIterable iter X.env x = pure x := by intro _; rfl) :
    SV X W B G0 κ en (.Assign [.Name y py] (.ListComp elt [⟨tg, iter, ifs, 0⟩] scope pos) spos :: rest) δ ((pCompX ri u t f).bind fr) := by
  obtain ⟨g, hux, pg, hg⟩ := hg
  have pt : ∀ (s : Shared) (H : Hp) (C : Addr) (cl : List (Str × Addr)) (fp : List Addr), PTs (X.blk s H scope (compEnvC scope cl C X.env) fp) ifs (fun σ H Q => ∃ q : Hp × ρ, tET W0 (cf X B q.1) (setK (wipeK κ (own.map (·.2))) js ke) (setL en js (vs q.2)) (t q.2) σ H Q) :=
    fun s H C cl fp => ⟨fun pins s' σ H' Q I ⟨q, z⟩ => (ht s H C cl fp q.1 q.2).pts.run pins s' σ H' Q I z⟩
  have pe : ∀ (σ0 : L2.St) (s : Shared) (H : Hp) (C : Addr) (cl : List (Str × Addr)) (fp : List Addr), PE (blkE X (fun c d _ H => W c d σ0 H) s H scope (compEnvC scope cl C X.env) fp) elt (fun σ H Q => ∃ q : Hp × ρ, tEV (fun c d _ H => W c d σ0 H) (cf X B q.1) (setK (wipeK κ (own.map (·.2))) js ke) (setL en js (vs q.2)) .F (f q.2) σ H Q) :=
    fun σ0 s H C cl fp => ⟨fun pins s' σ H' Q I ⟨q, z⟩ => (he σ0 s H C cl fp q.1 q.2).pe.run pins s' σ H' Q I z⟩
  refine ⟨PSs.wk (pss_cons (ps_setLcX hst hfX tk hc hN hy hyl hsw hi.pi ok pg pt pe hs) (PSs.all fun d => (hr d).ps)) fun Dn σ H ⟨G, Ss, st, m⟩ => ?_⟩
  have m' : mR W (cf X B G0) σ H G (yV (cf X B G0) H (.O (.L .F)) fun x H1 => ∃ d, tSV W (cf X B G0) (κ.set i (.L .F)) (en.set i d) δ (fr d) Dn (σ.set i (some x)) H1) (ri.bind fun xs => if xs.length ≤ 16777216 then (rMapF u (fun p => noX (t p)) f xs).bind mkL else .bad) :=
    mS.toR st m hex fun d H1 G1 a st1 m1 v S rv => ⟨d, G1, _, st.set a rv hκ, m1⟩
  unfold tSeq tAsg
  exact tLc_evX st m' (fun Z z => ⟨G, Ss, st, z⟩) hux hk hg hjo hj (fun G0 p σ H Q z q e => ⟨⟨G0, p⟩, z⟩) fun G0 p σ H Q z => ⟨⟨G0, p⟩, z⟩
end
end Lw
/-! max of a tuple of numbers -/
namespace Lw
open PySem PySem.Spec PyProof.Rows L2
section
variable {prog : Program} {w : World} {A : Around} {E : Value → Shared → Prop} {s : Shared} {l : Addr} {xs : Array (Int × Tok)}
theorem iter_intTup {Q : Value → Shared → Prop} (hl : s.heap.IsTuple l (intItems xs))
    (h : ∀ s₂ : Shared, s₂ = { s with heap := s.heap.push { cls := .type "tuple_iterator", data := .fields #[.ref l, .int 0 0] } } →
      (s₂.heap.IsTupleIter s.heap.objs.size l 0 ∧ s₂.heap.IsTuple l (intItems xs)) → (∀ b ∈ [s.heap.objs.size, l], b < s₂.heap.objs.size) → l ≠ s.heap.objs.size → Q (.ref s.heap.objs.size) s₂) :
    wpAny (model prog w) A (pyIter (.ref l)) Q E s := by
  have hlt : l < s.heap.objs.size := by obtain ⟨_, e, _⟩ := hl; exact Heap.lt_size e
  refine wpAny_pyIter_tuple hl (h _ rfl ⟨⟨_, Heap.get?_push_size _ rfl, rfl, rfl⟩, hl.push _⟩ (fun b hb => ?_) (Nat.ne_of_lt hlt))
  show b < (s.heap.push _).objs.size
  rw [Heap.size_push]
  rcases List.mem_cons.mp hb with rfl | hb
  · exact Nat.lt_succ_self _
  · rcases List.mem_cons.mp hb with rfl | hb
    · exact Nat.lt_succ_of_lt hlt
    · cases hb
theorem old_keptT {h' : Heap} (hk : ∀ b o, b ∉ [s.heap.objs.size] → (s.heap.push { cls := .type "tuple_iterator", data := .fields #[.ref l, .int 0 0] }).get? b = some o → h'.get? b = some o) :
    ∀ b o, s.heap.get? b = some o → h'.get? b = some o := fun b o e => by
  refine hk b o (fun hm => ?_) (Heap.get?_push_of_some _ e)
  rcases List.mem_cons.mp hm with e1 | hm
  · exact absurd (e1 ▸ Heap.lt_size e) (Nat.lt_irrefl _)
  · cases hm
theorem max_intTup {Q : Value → Shared → Prop} (hh : A.handled = none) (hl : s.heap.IsTuple l (intItems xs)) (hne : 0 < xs.size)
    (h : ∀ v h' tk, (intItems xs)[argBest (fun i j => decide (numAt xs i > numAt xs j)) (xs.size - 1)]? = some v → (∀ b o, s.heap.get? b = some o → h'.get? b = some o) → Q v { s with heap := h', toks := tk }) :
    wpAny (model prog w) A (call (.builtin "max") [.ref l]) Q E s := by
  refine call_max_walk (iter_intTup hl fun s₂ e st hfp hlI => ?_)
  subst e
  refine ⟨_, _, _, _, _, _, _, rfl, Walks.tuple (A := A.in1) hh _ l hlI (intItems xs), st, hfp, by simpa [intItems] using hne, CmpOf.ints_gt (numAt xs) (fun _ _ => intItems_at), fun v h' tk hP hk => ?_⟩
  exact h v h' tk (by simpa [intItems] using hP) (old_keptT hk)
theorem max_rawT {its : List Value} {ns : List Int} {Q : Value → Shared → Prop} (hh : A.handled = none) (hl : s.heap.IsTuple l its.toArray) (hi : IntsAre its ns) (hne : 0 < ns.length)
    (h : ∀ h' tk M t', (∀ b o, s.heap.get? b = some o → h'.get? b = some o) → M ∈ ns → (∀ a, a ∈ ns → a ≤ M) → Q (.int M t') { s with heap := h', toks := tk }) : wpAny (model prog w) A (call (.builtin "max") [.ref l]) Q E s := by
  obtain ⟨xs, e⟩ := hi.allInts.items
  have hn : numsOf (intItems xs).toList = ns := by rw [← e]; exact hi.numsOf
  rw [nums_intItems] at hn
  subst hn
  rw [e] at hl
  have hsz : 0 < xs.size := by simpa using hne
  refine max_intTup hh hl hsz fun v h' tk hv hk => ?_
  obtain ⟨t, rfl⟩ := intItems_at hv
  obtain ⟨h1, h2⟩ := argBest_gt (numAt xs) (xs.size - 1)
  refine h h' tk _ t hk ?_ fun a ha => ?_
  · rw [numAt_eq]; exact PySem.getD_mem (by rw [List.length_map, Array.length_toList]; omega)
  · obtain ⟨j, hj, rfl⟩ := mem_getD ha
    rw [List.length_map, Array.length_toList] at hj
    rw [← numAt_eq]; exact h2 j (by omega)
end
def rMaxT (K : PySem.W.Frag) : List V → Hp → VK → Prop := fun vs H Q => ∃ (a : Addr) (ns : List Int), vs = [V.ref a] ∧ SqT K H a (ns.map V.int) ∧ 0 < ns.length ∧ ∀ m, m ∈ ns → (∀ y, y ∈ ns → y ≤ m) → Q (.int m) H
theorem cr_maxT {X : Cx} (hc : X.calm = true) : CallR X (.builtin "max") (rMaxT X.K) := by
  intro pins s σ H vs us Q I r h
  obtain ⟨a, ns, rfl, hs, hne, q⟩ := h
  obtain ⟨its, rv, hl, _⟩ := I.tuple hs
  rw [Vals.ref1 r]
  exact max_rawT (I.ok.hd hc) (show s.heap.IsTuple a its.toArray from hl) rv.ints hne fun h' tk m t' hk h1 h2 => ⟨.int _, H, I.kept hk, ⟨_, rfl⟩, q m h1 h2⟩
def pMaxT : List D → R D
  | [.tup xs] => match toInts xs with
    | some (a :: ns) => .ok (.int (maxI a ns))
    | _ => .bad
  | _ => .bad
theorem bf_maxT {K : PySem.W.Frag} {mg : Str → Option Value} : BfD K mg (rMaxT K) [.B] .F pMaxT := by
  intro W B G0 κ en σ H G Ss Q ds vs st args m
  obtain ⟨d, v, rfl, rfl, r⟩ := args.one
  cases d with
  | tup xs =>
    obtain ⟨a, ws, e, q, rs⟩ := r
    subst e
    have m2 : mR W ⟨K, mg, B, G0⟩ σ H G (yV ⟨K, mg, B, G0⟩ H .F Q) (match toInts xs with
      | some (a :: ns) => .ok (.int (maxI a ns))
      | _ => .bad) := m
    cases ei : toInts xs with
    | none => rw [ei] at m2; exact m2.elim
    | some ns =>
      rw [ei] at m2
      cases ns with
      | nil => exact m2.elim
      | cons n ns =>
        have e2 := toInts_reps rs ei
        subst e2
        obtain ⟨h1, h2, h3⟩ := maxI_spec ns n
        refine ⟨a, n :: ns, rfl, q, Nat.succ_pos _, fun x hx hall => ?_⟩
        have e3 : x = maxI n ns := by
          have a1 : x ≤ maxI n ns := by
            rcases List.mem_cons.mp hx with z | z
            · rw [z]; exact h2
            · exact h3 x z
          have a2 : maxI n ns ≤ x := by
            rcases h1 with z | z
            · rw [z]; exact hall n List.mem_cons_self
            · exact hall _ (List.mem_cons_of_mem _ z)
          omega
        subst e3
        exact mR.int m2 st.sH
  | _ => exact m.elim
end Lw
/-! a pair whose second item is a list of our own, handed back and unpacked -/
namespace Lw
open PySem PySem.Spec PyProof.Rows L2
section
variable {α : Type} {X : Cx} {W : WX} {B G0 : Hp} {κ : List Kd} {en : List D} {e ex : Expr} {r : R D} {δ : DE α} {pos : Pos} {rest : List Stmt} {d0 : D}
/-- return (e, x), x a list of our own -/
theorem sv_retT {i : Nat} {x1} {tp : Pos} {g : D → α} (he : EV X W B G0 κ en e .F r) (p : PE X ex (tVar i)) (hd : ∀ d, δ.rt (.O .T) d (g d)) (hk : κ[i]? = some (.L .F) := by rfl) (hd0 : en[i]? = some d0 := by rfl) (hex : δ.ex κ en := by exact True.intro)
    (hs : starEach [e, ex] X.env = (false, eval e X.env) :: starEach [ex] X.env := by rfl) (hs2 : starEach [ex] X.env = (false, eval ex X.env) :: starEach [] X.env := by rfl) :
    SV X W B G0 κ en (.Return (some (.Tuple [e, ex] x1 tp)) pos :: rest) δ (r.bind fun d1 => (toL d0).bind fun xs => .ok (g (.tup [d1, .lst xs]))) :=
  ⟨PSs.wk (pss_cons (ps_ret (pe_tup (pa_cons he.pe (pa_cons p pa_nil hs2) hs))) pss_never) fun Dn σ H ⟨G, Ss, st, m⟩ => ⟨G, Ss, st, mS.toR st m hex fun d1 H1 G1 a st1 m1 v1 S rv => by
    obtain ⟨q, vs, ds, hv, hS, hc, rs⟩ := st1.ownL hk hd0
    cases d0 with
    | lst xs =>
      cases hc with
      | lst hp =>
        have m2 : mS W (cf X B G0) δ Dn (.ok (g (.tup [d1, .lst ds]))) := m1
        refine ⟨.ref q, hv, by show 2 ≤ sizeLine; decide, fun p hpn => ?_⟩
        obtain ⟨o1, o2, o3⟩ := st1.own i q (by rw [hS]; exact List.mem_cons_self)
        have hqp : q ≠ p := fun z => by rw [z, hpn] at hp; cases hp
        have a2 : Adv H1 G1 G1 (upd H1 p (.tup [v1, .ref q])) := Adv.newO st1.sH hpn
        have st2 := st1.adv a2
        refine m2.2.1 (.O .T) (.tup [d1, .lst ds]) (.ref p) _ G1 [p, q] st2.adv0 ⟨⟨p, v1, q, vs, d1, ds, rfl, rfl, rfl, upd_same, rv.1, by rw [upd_ne hqp]; exact hp, rs⟩, ?_, fun b hb => ?_⟩ (hd _)
        · exact List.nodup_cons.mpr ⟨by simpa using Ne.symm hqp, by simp⟩
        · rcases List.mem_cons.mp hb with z | z
          · rw [z]
            exact ⟨st1.sB.free hpn, st1.sH.free hpn, _, upd_same⟩
          · have z : b = q := by simpa using z
            rw [z]
            exact ⟨o2, o1, _, by rw [upd_ne hqp]; exact hp⟩
    | _ => exact m1.elim⟩⟩
theorem sv_retTD {i : Nat} {x1} {tp : Pos} (he : EV X W B G0 κ en e .F r) (p : PE X ex (tVar i)) (hk : κ[i]? = some (.L .F) := by rfl) (hd0 : en[i]? = some d0 := by rfl)
    (hs : starEach [e, ex] X.env = (false, eval e X.env) :: starEach [ex] X.env := by rfl) (hs2 : starEach [ex] X.env = (false, eval ex X.env) :: starEach [] X.env := by rfl) :
    SV X W B G0 κ en (.Return (some (.Tuple [e, ex] x1 tp)) pos :: rest) (dDef (.O .T)) (r.bind fun d1 => (toL d0).bind fun xs => .ok (.tup [d1, .lst xs])) :=
  sv_retT (g := id) (δ := dDef (.O .T)) he p (fun d => ⟨rfl, rfl⟩) hk hd0 True.intro hs hs2
/-- a, x = e, of a pair whose second item is a list of our own -/
def unT : D → R (D × D)
  | .tup [a, .lst xs] => .ok (a, .lst xs)
  | _ => .bad
theorem sv_unT {i j : Nat} {tg : Expr} {f : D × D → R α} (he : EV X W B G0 κ en e (.O .T) r) (h : PG X tg (gTup X.K 2 (gNames [i, j]))) (hr : ∀ p : D × D, SV X W B G0 ((κ.set i .F).set j (.L .F)) ((en.set i p.1).set j p.2) rest δ (f p)) (hi : i < κ.length := by first | decide | simp) (hj : j < κ.length := by first | decide | simp)
    (hij : i ≠ j := by decide) (hex : δ.ex κ en := by exact True.intro) (hs : swapsWithSole [tg] e pos.line X.env = pure false := by rfl) (hw : swappedStores [tg] e X.env = pure none := by rfl)
    (h1 : (assignEach [tg] X.env).map (·.2) = [assign tg X.env] := by rfl) :
    SV X W B G0 κ en (.Assign [tg] e pos :: rest) δ (r.bind fun d => (unT d).bind f) :=
  ⟨PSs.wk (pss_cons (ps_asg he.pe h hs hw h1) (PSs.all fun p => (hr p).ps)) fun Dn σ H ⟨G, Ss, st, m⟩ => ⟨G, Ss, st, mS.toR st m hex fun d H1 G1 a st1 m1 v S rv => by
    obtain ⟨⟨p, v1, q, ws, d1, ds, e1, e2, e3, h1, r1, h2, r2⟩, nd, own⟩ := rv
    subst e1 e2 e3
    have m2 : mS W (cf X B G0) δ Dn (f (d1, .lst ds)) := m1
    refine ⟨p, _, rfl, SqT.of h1, rfl, v1, [.ref q], rfl, .ref q, [], rfl, rfl, (d1, .lst ds), G1, fun k => if k = j then [q] else if k = i then [] else Ss k, ?_, m2⟩
    have s1 := st.set (i := i) (rk := .F) (S := []) (d := d1) (v := v1) a ⟨r1, rfl⟩ hi
    have s2 : St (cf X B G0) ((κ.set i .F).set j (.L .F)) ((en.set i d1).set j (.lst ds)) ((σ.set i (some v1)).set j (some (.ref q))) H1 G1 (fun k => if k = j then [q] else if k = i then [] else Ss k) := by
      have hj' : j < (κ.set i .F).length := by rw [List.length_set]; exact hj
      have oq := own q (by simp)
      refine ⟨by simpa using st.ln, fun k kk hk hn => ?_, fun k b hb => ?_, fun k => ?_, fun k l b hkl hb hc => ?_, s1.sB, s1.sG, s1.sH, s1.new⟩
      · by_cases ej : k = j
        · subst ej
          rw [List.getElem?_set_self hj'] at hk
          cases hk
          refine ⟨.ref q, .lst ds, List.getElem?_set_self (by rw [List.length_set, st.ln.1]; exact hj), List.getElem?_set_self (by rw [List.length_set, st.ln.2]; exact hj), ?_⟩
          rw [if_pos rfl]
          exact RepK.ofL (.lst h2) r2
        · rw [List.getElem?_set_ne (Ne.symm ej)] at hk
          obtain ⟨v', d', g1, g2, g3⟩ := s1.slot k kk hk hn
          refine ⟨v', d', by rw [List.getElem?_set_ne (Ne.symm ej)]; exact g1, by rw [List.getElem?_set_ne (Ne.symm ej)]; exact g2, ?_⟩
          rw [if_neg ej]
          exact g3
      · by_cases ej : k = j
        · rw [if_pos ej] at hb
          have hb : b = q := by simpa using hb
          rw [hb]
          exact ⟨oq.2.1, st.sB.free oq.1, _, h2⟩
        · rw [if_neg ej] at hb
          exact s1.own k b hb
      · by_cases ej : k = j
        · rw [if_pos ej]; simp
        · rw [if_neg ej]; exact s1.nd k
      · by_cases ej : k = j
        · rw [if_pos ej] at hb
          have hb : b = q := by simpa using hb
          rw [if_neg (fun z => hkl (ej.trans z.symm))] at hc
          by_cases el : l = i
          · rw [if_pos el] at hc; cases hc
          · rw [if_neg el] at hc
            obtain ⟨_, _, o, z⟩ := st.own l b hc
            rw [hb, oq.1] at z; cases z
        · rw [if_neg ej] at hb
          by_cases el : l = j
          · rw [if_pos el] at hc
            have hc : b = q := by simpa using hc
            by_cases ei : k = i
            · rw [if_pos ei] at hb; cases hb
            · rw [if_neg ei] at hb
              obtain ⟨_, _, o, z⟩ := st.own k b hb
              rw [hc, oq.1] at z; cases z
          · rw [if_neg el] at hc
            exact s1.dis k l b hkl hb hc
    exact s2⟩⟩
end
end Lw
/-! lists of our own within a list, a dict of our own -/
namespace Lw
open PySem PySem.Spec PyProof.Rows L2
theorem AllR.at {P : D → V → List Addr → Prop} : ∀ {ds : List D} {vs : List V} {S : List Addr} {j : Nat} {d : D}, AllR P ds vs S → ds[j]? = some d → ∃ v T A B, vs[j]? = some v ∧ S = A ++ T ++ B ∧ P d v T ∧ ∀ (P' : D → V → List Addr → Prop) (d' : D), (∀ d v T', (∀ x ∈ T', x ∈ A ∨ x ∈ B) → P d v T' → P' d v T') → P' d' v T → AllR P' (ds.set j d') vs S
  | [], _, _, _, _, _, e => by simp at e
  | d0 :: ds, _, _, 0, d, ⟨v, r, S1, S2, e1, e2, h, q⟩, e => by
    subst e1 e2
    have e : d0 = d := by simpa using e
    subst e
    exact ⟨v, S1, [], S2, rfl, rfl, h, fun P' d' f h' => ⟨v, r, S1, S2, rfl, rfl, h', AllR.imp q fun d v T' hT h => f d v T' (fun x hx => .inr (hT x hx)) h⟩⟩
  | d0 :: ds, _, _, j + 1, d, ⟨v, r, S1, S2, e1, e2, h, q⟩, e => by
    subst e1 e2
    obtain ⟨v', T, A, B, g1, g2, g3, g4⟩ := AllR.at (j := j) q (by simpa using e)
    refine ⟨v', T, S1 ++ A, B, by simpa using g1, by rw [g2]; simp, g3, fun P' d' f h' => ?_⟩
    refine ⟨v, r, S1, S2, rfl, rfl, f _ _ _ (fun x hx => .inl (List.mem_append_left _ hx)) h, g4 P' d' (fun d v T' hT h => f d v T' (fun x hx => (hT x hx).imp (fun z => List.mem_append_right _ z) id) h) h'⟩
def itemsOf : D → List D
  | .lst ds => ds
  | .dct _ ds => ds
  | _ => []
def itemL (d0 : D) (j : Nat) : R (List D) := match (itemsOf d0)[j]? with
  | some (.lst xs) => .ok xs
  | _ => .bad
def setIt (d0 : D) (j : Nat) (y : D) : D := match d0 with
  | .lst ds => .lst (ds.set j y)
  | .dct ks ds => .dct ks (ds.set j y)
  | d => d
/-- which item of a list -/
def plIx (d0 : D) : D → R Nat
  | .int k => match d0 with
    | .lst ds => match ixN ds.length k with
      | some j => .ok j
      | none => .bad
    | _ => .bad
  | _ => .bad
/-- which item of a dict -/
def plDx (d0 k : D) : R Nat := match d0 with
  | .dct ks _ => if isKey k then (match dIdx ks k with
    | some j => .ok j
    | none => .bad) else .bad
  | _ => .bad
theorem Cont.items {H : Hp} {p : Addr} {d : D} {ds : List D} {vs : List V} (h : Cont H p d ds vs) : itemsOf d = ds ∧ vs.length = vs.length := by
  cases h <;> exact ⟨rfl, rfl⟩
theorem Cont.set {H H' : Hp} {p : Addr} {d y : D} {ds : List D} {vs : List V} {j : Nat} (h : Cont H p d ds vs) (e : H' p = H p) : Cont H' p (setIt d j y) (ds.set j y) vs := by
  cases h with
  | lst h => exact .lst (e.trans h)
  | dK h => exact .dK (e.trans h)
theorem Cont.mono {H H' : Hp} {p : Addr} {d : D} {ds : List D} {vs : List V} (h : Cont H p d ds vs) (s : Same H H') : Cont H' p d ds vs := by
  cases h with
  | lst h => exact .lst (s _ _ h)
  | dK h => exact .dK (s _ _ h)
def tPl (W : WX) (c : Cf) (κ : List Kd) (en : List D) (i : Nat) (d0 : D) (r : R Nat) : TE := fun σ H Q => ∃ G Ss, St c κ en σ H G Ss ∧ mR W c σ H G (fun j H' G' => ∀ p ds vs S' v, σ[i]? = some (some (.ref p)) → Ss i = p :: S' → Cont H' p d0 ds vs → AllR (RepK c H' G' (.L .F)) ds vs S' → vs[j]? = some v → Q v H') r
structure PLc (X : Cx) (W : WX) (B G0 : Hp) (κ : List Kd) (en : List D) (o : Expr) (i : Nat) (d0 : D) (r : R Nat) : Prop where
  pe : PE X o (tPl W (cf X B G0) κ en i d0 r)
section
variable {c : Cf} {κ : List Kd} {en : List D} {σ : L2.St} {H G : Hp} {Ss : Nat → List Addr} {i : Nat} {d : D}
theorem St.ownLL (s : St c κ en σ H G Ss) (hk : κ[i]? = some (.L (.L .F))) (he : en[i]? = some d) : ∃ p vs ds S', σ[i]? = some (some (.ref p)) ∧ Ss i = p :: S' ∧ Cont H p d ds vs ∧ AllR (RepK c H G (.L .F)) ds vs S' := by
  obtain ⟨v, d1, h1, h2, p, vs, ds, S', e1, e2, hc, ha⟩ := s.slot i _ hk (by intro z; cases z)
  rw [he] at h2; cases h2
  subst e1
  exact ⟨p, vs, ds, S', h1, e2, hc, ha⟩
/-- an item of ours is changed -/
theorem St.putIt {j : Nat} {p q : Addr} {ds xs ys : List D} {vs ws us : List V} {S' : List Addr} (s : St c κ en σ H G Ss) (hk : κ[i]? = some (.L (.L .F))) (hv : σ[i]? = some (some (.ref p))) (hS : Ss i = p :: S') (hc : Cont H p d ds vs) (ha : AllR (RepK c H G (.L .F)) ds vs S')
    (hj : ds[j]? = some (.lst xs)) (hvj : vs[j]? = some (.ref q)) (hr : Reps c.K c.mg G ys us) : H q = some (.lst ws) → q ≠ p → St c κ (en.set i (setIt d j (.lst ys))) σ (upd H q (.lst us)) G Ss := by
  intro hq hqp
  obtain ⟨v, T, A, B, g1, g2, g3, g4⟩ := ha.at hj
  rw [hvj] at g1
  cases g1
  obtain ⟨q', ws', ds', T', e1, e2, hc', ha'⟩ := g3
  cases e1
  have nd := s.nd i
  rw [hS, g2, e2] at nd
  have qm : q ∈ Ss i := by rw [hS, g2, e2]; simp
  have T0 : T' = [] := by
    have aux : ∀ {ds : List D} {vs : List V} {S : List Addr}, AllR (RepK c H G .F) ds vs S → S = [] := by
      intro ds
      induction ds with
      | nil => intro vs S h; exact h.2
      | cons d ds ih =>
        intro vs S ⟨v, r, S1, S2, q1, q2, q3, q4⟩
        rw [q2, q3.2, ih q4] <;> rfl
    exact aux ha'
  subst T0
  refine s.put hk (by intro z; cases z) qm hv ?_
  rw [hS]
  have hpq : (upd H q (.lst us)) p = H p := upd_ne (Ne.symm hqp)
  refine ⟨p, vs, ds.set j (.lst ys), S', rfl, rfl, hc.set hpq, g4 _ _ (fun d v T' hT h => h.at_ (fun x hx o ho => ?_) (.refl _)) ?_⟩
  · have hxq : x ≠ q := fun z => by
      subst z
      have nd2 : ((A ++ [x]) ++ B).Nodup := (List.nodup_cons.mp nd).2
      rw [List.nodup_append, List.nodup_append] at nd2
      rcases hT x hx with z | z
      · exact nd2.1.2.2 x z x (by simp) rfl
      · exact nd2.2.2 x (by simp) x z rfl
    rw [upd_ne hxq]
    exact ho
  · rw [e2]
    exact RepK.ofL (.lst upd_same) hr
end
section
variable {α : Type} {X : Cx} {W : WX} {B G0 : Hp} {κ : List Kd} {en : List D} {e e1 e2 o : Expr} {k : RK} {r r1 r2 : R D} {rp : R Nat} {δ : DE α} {pos : Pos} {rest : List Stmt} {d0 : D} {i : Nat}
theorem pl_ix {x : Str} {px : Pos} {ei : Expr} {ri : R D} {ki : RK} (p : PE X (.Name x px) (tVar i)) (hi : EV X W B G0 κ en ei ki ri) (hk : κ[i]? = some (.L (.L .F)) := by rfl) (hd : en[i]? = some d0 := by rfl) (hs : PlainIx ei := by exact fun _ _ => rfl) : PLc X W B G0 κ en (.Subscript (.Name x px) ei pos) i d0 (ri.bind (plIx d0)) :=
  ⟨PE.wk (pe_ix ix_seq p hi.pe hs) fun σ H Q ⟨G, Ss, st, m⟩ => by
    obtain ⟨p0, vs0, ds0, S0, hv, hS, hc, ha⟩ := st.ownLL hk hd
    refine ⟨_, hv, tEXb st m _ fun j w H2 G2 S2 _ a2 st2 rv2 m2 => ?_⟩
    obtain ⟨p, vs, ds, S', hv2, hS2, hc2, ha2⟩ := st2.ownLL hk hd
    rw [hv] at hv2
    cases hv2
    have hi := st2.rd rv2
    cases j with
    | int q =>
      cases (show w = V.int q from hi)
      cases hc2 with
      | lst hp =>
        have m3 : mR W (cf X B G0) σ H2 G2 (fun j H' G' => ∀ p' ds' vs' S' v, σ[i]? = some (some (.ref p')) → Ss i = p' :: S' → Cont H' p' (.lst ds) ds' vs' → AllR (RepK (cf X B G0) H' G' (.L .F)) ds' vs' S' → vs'[j]? = some v → Q v H') (match ixN ds.length q with | some j => .ok j | none => .bad) := m2
        cases ej : ixN ds.length q with
        | none => rw [ej] at m3; exact m3.elim
        | some j =>
          rw [ej] at m3
          have lv : vs.length = ds.length := by
            have aux : ∀ {ds : List D} {vs : List V} {S : List Addr}, AllR (RepK (cf X B G0) H2 G2 (.L .F)) ds vs S → vs.length = ds.length := by
              intro ds
              induction ds with
              | nil => intro vs S h; rw [h.1]; rfl
              | cons d ds ih =>
                intro vs S ⟨v, r, S1, S2, q1, q2, q3, q4⟩
                rw [q1, List.length_cons, List.length_cons, ih q4]
            exact aux ha2
          have hjl : j < ds.length := by
            unfold ixN at ej
            split at ej
            · split at ej
              · cases ej; omega
              · cases ej
            · split at ej
              · cases ej; omega
              · cases ej
          obtain ⟨w, hvj⟩ : ∃ w, vs[j]? = some w := ⟨_, List.getElem?_eq_getElem (by omega)⟩
          have hat : atI vs q = some w := by
            unfold atI
            rw [lv, ej]
            exact hvj
          exact .inl ⟨p0, vs, q, w, rfl, rfl, SqL.of hp, hat, m3 H2 G2 (.refl st2.sH) p0 ds vs S' w hv hS2 (.lst hp) ha2 hvj⟩
      | dK hp => exact m2.elim
    | _ => exact m2.elim⟩
theorem pl_dix {x : Str} {px : Pos} {ei : Expr} {ri : R D} {ki : RK} (hu : X.A.units + 65 < cLine) (p : PE X (.Name x px) (tVar i)) (hi : EV X W B G0 κ en ei ki ri) (hk : κ[i]? = some (.L (.L .F)) := by rfl) (hd : en[i]? = some d0 := by rfl) (hs : NoSl ei := by exact fun _ _ => rfl) : PLc X W B G0 κ en (.Subscript (.Name x px) ei pos) i d0 (ri.bind (plDx d0)) :=
  ⟨PE.wk (pe_dget (by omega) p hi.pe hs) fun σ H Q ⟨G, Ss, st, m⟩ => by
    obtain ⟨p0, vs0, ds0, S0, hv, hS, hc, ha⟩ := st.ownLL hk hd
    refine ⟨_, hv, tEXb st m _ fun j w H2 G2 S2 _ a2 st2 rv2 m2 => ?_⟩
    obtain ⟨p, vs, ds, S', hv2, hS2, hc2, ha2⟩ := st2.ownLL hk hd
    rw [hv] at hv2
    cases hv2
    have hi := st2.rd rv2
    cases hc2 with
    | lst hp => exact m2.elim
    | @dK ds' kvs hp =>
      have m3 : mR W (cf X B G0) σ H2 G2 (fun j H' G' => ∀ p' ds' vs' S' v, σ[i]? = some (some (.ref p')) → Ss i = p' :: S' → Cont H' p' (.dct (kvs.map fun q => kD q.1) ds) ds' vs' → AllR (RepK (cf X B G0) H' G' (.L .F)) ds' vs' S' → vs'[j]? = some v → Q v H') (if isKey j then (match dIdx (kvs.map fun q => kD q.1) j with | some j => .ok j | none => .bad) else .bad) := m2
      by_cases hkk : isKey j = true
      · rw [if_pos hkk] at m3
        obtain ⟨key, rfl, rfl⟩ := key_of_D hi hkk
        obtain ⟨z1, z2⟩ := valV_dIdx key kvs
        cases ej : dIdx (kvs.map fun q => kD q.1) (kD key) with
        | none => rw [ej] at m3; exact m3.elim
        | some n =>
          rw [ej] at m3
          obtain ⟨w, e1, e2⟩ := z1 n ej
          exact ⟨p0, w, rfl, by rw [← e2]; exact DGet.k hp, m3 H2 G2 (.refl st2.sH) p0 ds _ S' w hv hS2 (.dK hp) ha2 e1⟩
      · rw [if_neg hkk] at m3
        exact m3.elim⟩
/-- the list that stands at an item -/
theorem item_own {c : Cf} {H G : Hp} {ds : List D} {vs : List V} {S' : List Addr} {p : Addr} {j : Nat} {v : V} {xs : List D} {d0 : D} (hc : Cont H p d0 ds vs) (ha : AllR (RepK c H G (.L .F)) ds vs S') (hvj : vs[j]? = some v) (he : itemL d0 j = .ok xs) : ds[j]? = some (.lst xs) ∧ ∃ q ws, v = .ref q ∧ q ∈ S' ∧ H q = some (.lst ws) ∧ Reps c.K c.mg G xs ws := by
  have hd : ds[j]? = some (.lst xs) := by
    unfold itemL at he
    rw [hc.items.1] at he
    split at he
    · rename_i y e
      cases he
      exact e
    · cases he
  refine ⟨hd, ?_⟩
  obtain ⟨v', T, A, B, g1, g2, g3, _⟩ := ha.at hd
  rw [hvj] at g1
  cases g1
  obtain ⟨q, ws, ds', T', e1, e2, hc', ha'⟩ := g3
  cases hc' with
  | lst hq => exact ⟨q, ws, e1, by rw [g2, e2]; simp, hq, ha'.reps fun _ _ _ z => z.1⟩
/-- x[i].append(e) -/
theorem sv_appN {ap cp : Pos} {f : D → R α} (pl : PLc X W B G0 κ en o i d0 rp) (he : EV X W B G0 κ en e .F r) (hr : ∀ d, SV X W B G0 κ (en.set i d) rest δ (f d)) (hk : κ[i]? = some (.L (.L .F)) := by rfl) (hd : en[i]? = some d0 := by rfl)
    (hex : δ.ex κ en := by exact True.intro) (hs : swapsWith (.Call (.Attribute o "append" ap) [e] [] cp) none pos.line X.env = pure false := by rfl)
    (hbase : attributeBase o "append" X.env (eval o X.env) = eval o X.env := by rfl)
    (hfew : ((backTo cp (starEach [e] X.env)).all (fun x => !x.1) && (backToKw cp (keywordEach [] X.env)).all (fun x => x.1.isSome) && decide ([e].length + ([] : List Keyword).length + (if ([] : List Keyword).isEmpty then 0 else 1) < 30)) = true := by rfl)
    (hline : (ap.endLine == cp.line) = true := by rfl) (hst : starEach [e] X.env = (false, eval e X.env) :: starEach [] X.env := by rfl) (hpl : (backTo cp (starEach [] X.env)).any (·.1) = false := by rfl) :
    SV X W B G0 κ en (.Expr (.Call (.Attribute o "append" ap) [e] [] cp) pos :: rest) δ (rp.bind fun j => (itemL d0 j).bind fun xs => r.bind fun d => (appL xs d).bind fun y => (R.ok (setIt d0 j y)).bind f) :=
  ⟨PSs.wk (pss_cons (ps_expr (pe_bm PySem.F.plainAttrs_list PySem.F.slot_list_append PySem.F.type_list_append mt_append pl.pe (pa_cons he.pe pa_nil hst) hbase hfew hline hst hpl) hs) (PSs.all fun d => (hr d).ps)) fun Dn σ H ⟨G, Ss, st, m⟩ => by
    refine ⟨G, Ss, st, mS.toR st m hex fun j H0 G00 a0 st0 m0 p ds vs S' v hv hS hc ha hvj => ?_⟩
    cases ei : itemL d0 j with
    | bad => rw [ei] at m0; exact m0.elim
    | exc x =>
      exfalso
      unfold itemL at ei
      split at ei <;> cases ei
    | ok xs =>
      rw [ei] at m0
      obtain ⟨hdj, q, ws, rfl, hq, hHq, rs⟩ := item_own hc ha hvj ei
      have m1 : mS W (cf X B G0) δ Dn (r.bind fun d => (appL xs d).bind fun y => f (setIt d0 j y)) := m0
      refine ⟨.inl ⟨rfl, ws, SqL.of hHq⟩, G00, Ss, st0, mS.toR st0 m1 hex fun d H1 G1 a st1 m2 v1 S rv => ?_⟩
      have hp1 := a.1 _ _ hHq
      have m3 : mS W (cf X B G0) δ Dn ((if xs.length < 16777216 then .ok (.lst (xs ++ [d])) else R.bad).bind fun y => f (setIt d0 j y)) := m2
      by_cases hl : xs.length < 16777216
      · rw [if_pos hl] at m3
        have hqp : q ≠ p := fun z => by
          have nd := st0.nd i
          rw [hS, ← z] at nd
          exact (List.nodup_cons.mp nd).1 hq
        refine ⟨q, ws, v1, rfl, rfl, hp1, by rw [sizeLine_eq, ← rs.length]; exact hl, setIt d0 j (.lst (xs ++ [d])), G1, Ss, ?_, m3⟩
        exact st1.putIt hk hv hS (hc.mono a.1) (ha.imp fun _ _ _ _ h => h.adv a) hdj hvj ((rs.mono a.2.1).snoc rv.1) hp1 hqp
      · rw [if_neg hl] at m3
        exact m3.elim⟩
/-- x[i].clear() -/
theorem sv_clearN {ap cp : Pos} {f : D → R α} (pl : PLc X W B G0 κ en o i d0 rp) (hr : ∀ d, SV X W B G0 κ (en.set i d) rest δ (f d)) (hk : κ[i]? = some (.L (.L .F)) := by rfl) (hd : en[i]? = some d0 := by rfl)
    (hex : δ.ex κ en := by exact True.intro) (hs : swapsWith (.Call (.Attribute o "clear" ap) [] [] cp) none pos.line X.env = pure false := by rfl)
    (hbase : attributeBase o "clear" X.env (eval o X.env) = eval o X.env := by rfl) (hline : (ap.endLine == cp.line) = true := by rfl) :
    SV X W B G0 κ en (.Expr (.Call (.Attribute o "clear" ap) [] [] cp) pos :: rest) δ (rp.bind fun j => (itemL d0 j).bind fun _ => (R.ok (setIt d0 j (.lst []))).bind f) :=
  ⟨PSs.wk (pss_cons (ps_expr (pe_bm0 PySem.F.plainAttrs_list PySem.F.slot_list_clear PySem.F.type_list_clear mt_clear pl.pe hbase hline) hs) (PSs.all fun d => (hr d).ps)) fun Dn σ H ⟨G, Ss, st, m⟩ => by
    refine ⟨G, Ss, st, mS.toR st m hex fun j H0 G00 a0 st0 m0 p ds vs S' v hv hS hc ha hvj => ?_⟩
    cases ei : itemL d0 j with
    | bad => rw [ei] at m0; exact m0.elim
    | exc x =>
      exfalso
      unfold itemL at ei
      split at ei <;> cases ei
    | ok xs =>
      rw [ei] at m0
      obtain ⟨hdj, q, ws, rfl, hq, hHq, rs⟩ := item_own hc ha hvj ei
      have m1 : mS W (cf X B G0) δ Dn (f (setIt d0 j (.lst []))) := m0
      have hqp : q ≠ p := fun z => by
        have nd := st0.nd i
        rw [hS, ← z] at nd
        exact (List.nodup_cons.mp nd).1 hq
      refine ⟨.inl ⟨rfl, ws, SqL.of hHq⟩, q, ws, rfl, rfl, hHq, setIt d0 j (.lst []), G00, Ss, ?_, m1⟩
      exact st0.putIt hk hv hS hc ha hdj hvj (ys := []) .nil hHq hqp⟩
/-- x[i], to be read: its items frozen -/
theorem ev_itE (pl : PLc X W B G0 κ en o i d0 rp) (hk : κ[i]? = some (.L (.L .F)) := by rfl) : EV X W B G0 κ en o .E (rp.bind fun j => (itemL d0 j).bind fun xs => .ok (.lst xs)) :=
  ⟨PE.wk pl.pe fun σ H Q ⟨G, Ss, st, m⟩ => ⟨G, Ss, st, m.bind.imp fun j H0 G00 _ a0 m0' p ds vs S' v hv hS hc ha hvj => by
    have m0 := m0' a0
    cases ei : itemL d0 j with
    | bad => rw [ei] at m0; exact m0.elim
    | exc x =>
      exfalso
      unfold itemL at ei
      split at ei <;> cases ei
    | ok xs =>
      rw [ei] at m0
      obtain ⟨hdj, q, ws, rfl, hq, hHq, rs⟩ := item_own hc ha hvj ei
      exact m0 H0 G00 (.refl a0.2.2.1) (.ref q) [] ⟨⟨q, ws, xs, rfl, .lst hHq, rs⟩, rfl⟩⟩⟩
/-- [e1, e2] of lists of our own -/
theorem ev_lst2O (h1 : EV X W B G0 κ en e1 (.O (.L .F)) r1) (h2 : EV X W B G0 κ en e2 (.O (.L .F)) r2) (hs : starEach [e1, e2] X.env = (false, eval e1 X.env) :: starEach [e2] X.env := by rfl) (hs2 : starEach [e2] X.env = (false, eval e2 X.env) :: starEach [] X.env := by rfl) :
    EV X W B G0 κ en (.List [e1, e2] pos) (.O (.L (.L .F))) (r1.bind fun d1 => r2.bind fun d2 => .ok (.lst [d1, d2])) :=
  ⟨PE.wk (pe_lst (pa_cons h1.pe (pa_cons h2.pe pa_nil hs2) hs)) fun σ H Q ⟨G, Ss, st0, m0⟩ => ⟨G, Ss, st0, m0.bind.imp fun d1 H1 G1 _ a1 q1 v1 S1 rv1 => ⟨G1, Ss, st0.adv a1, (q1 a1).bind.imp fun d2 H2 G2 _ a2 q2 v2 S2 rv2 => by
    refine ⟨by show 2 ≤ sizeLine; decide, fun p hp => ?_⟩
    have sH2 : Same G2 H2 := a2.2.2.1
    have g2 : G2 p = none := sH2.free hp
    have a3 : Adv H2 G2 G2 (upd H2 p (.lst [v1, v2])) := Adv.newO sH2 hp
    have m3 : mR W (cf X B G0) σ H2 G2 (yV (cf X B G0) H (.O (.L (.L .F))) Q) (.ok (.lst [d1, d2])) := q2 a2
    have n1 : ∀ b ∈ S1, H2 b ≠ none := fun b hb z => by
      obtain ⟨_, _, o, ho⟩ := rv1.2.2 b hb
      rw [a2.1 _ _ ho] at z; cases z
    have n2 : ∀ b ∈ S2, H2 b ≠ none := fun b hb z => by
      obtain ⟨_, _, o, ho⟩ := rv2.2.2 b hb
      rw [ho] at z; cases z
    refine m3 _ G2 a3 (.ref p) (p :: (S1 ++ S2)) ⟨⟨p, [v1, v2], [d1, d2], S1 ++ S2, rfl, rfl, .lst upd_same, v1, [v2], S1, S2, rfl, rfl, (rv1.1.adv a2).adv a3, v2, [], S2, [], rfl, by simp, rv2.1.adv a3, rfl, rfl⟩, ?_, fun b hb => ?_⟩
    · refine List.nodup_cons.mpr ⟨fun hm => ?_, List.nodup_append.mpr ⟨rv1.2.1, rv2.2.1, fun b hb b' hb' z => ?_⟩⟩
      · rcases List.mem_append.mp hm with z | z
        · exact n1 p z hp
        · exact n2 p z hp
      · subst z
        obtain ⟨_, _, o, ho⟩ := rv1.2.2 b hb
        rw [(rv2.2.2 b hb').1] at ho; cases ho
    · rcases List.mem_cons.mp hb with z | z
      · subst z
        exact ⟨(a1.1.trans a2.1).free hp, g2, _, upd_same⟩
      · rcases List.mem_append.mp z with z | z
        · obtain ⟨z1, z2, o, ho⟩ := rv1.2.2 b z
          have ho2 := a2.1 _ _ ho
          exact ⟨z1, a2.gone ho z2, o, a3.1 _ _ ho2⟩
        · obtain ⟨z1, z2, o, ho⟩ := rv2.2.2 b z
          exact ⟨a1.1.free z1, z2, o, a3.1 _ _ ho⟩⟩⟩⟩
end
end Lw
/-! a new list of our own, put into a dict of our own -/
namespace Lw
open PySem PySem.Spec PyProof.Rows L2
theorem AllR.snoc {P : D → V → List Addr → Prop} {d : D} {v : V} {T : List Addr} : ∀ {ds : List D} {vs : List V} {S : List Addr}, AllR P ds vs S → P d v T → AllR P (ds ++ [d]) (vs ++ [v]) (S ++ T)
  | [], vs, S, h, hd => by
    obtain ⟨rfl, rfl⟩ := h
    exact ⟨v, [], T, [], rfl, by simp, hd, rfl, rfl⟩
  | d0 :: ds, vs, S, ⟨v0, r, S1, S2, e1, e2, h, q⟩, hd => by
    subst e1 e2
    exact ⟨v0, r ++ [v], S1, S2 ++ T, rfl, by simp, h, AllR.snoc q hd⟩
def pDputN (kx : List D × List D) (k d : D) : R D := if isKey k && (!kx.1.any (fun z => keyEq z k) && decide (kx.2.length < 16777216)) then .ok (.dct (kx.1 ++ [k]) (kx.2 ++ [d])) else .bad
theorem AllR.len {P : D → V → List Addr → Prop} : ∀ {ds : List D} {vs : List V} {S : List Addr}, AllR P ds vs S → ds.length = vs.length
  | [], vs, S, h => by rw [h.1]; rfl
  | d :: ds, vs, S, ⟨v, r, S1, S2, e1, e2, h, q⟩ => by rw [e1, List.length_cons, List.length_cons, AllR.len q]
section
variable {α : Type} {X : Cx} {W : WX} {B G0 : Hp} {κ : List Kd} {en : List D} {e : Expr} {r : R D} {δ : DE α} {pos : Pos} {rest : List Stmt} {d0 : D}
theorem sv_setDN {i : Nat} {x : Str} {px sp : Pos} {ei : Expr} {ri : R D} {ki : RK} {f : D → R α} (hu : X.A.units + 65 < cLine) (pn : PE X (.Name x px) (tVar i)) (he : EV X W B G0 κ en e (.O (.L .F)) r) (hi : EV X W B G0 κ en ei ki ri) (hr : ∀ d, SV X W B G0 κ (en.set i d) rest δ (f d)) (hk : κ[i]? = some (.L (.L .F)) := by rfl) (hd : en[i]? = some d0 := by rfl)
    (hex : δ.ex κ en := by exact True.intro) (hs : swapsWith e (some (.Subscript (.Name x px) ei sp)) pos.line X.env = pure false := by rfl) :
    SV X W B G0 κ en (.Assign [.Subscript (.Name x px) ei sp] e pos :: rest) δ (r.bind fun d => (toDct d0).bind fun kx => ri.bind fun j => (pDputN kx j d).bind f) :=
  ⟨PSs.wk (pss_cons (ps_dput (by omega) pn hi.pe he.pe hs) (PSs.all fun d => (hr d).ps)) fun Dn σ H ⟨G, Ss, st, m⟩ => ⟨G, Ss, st, mS.toR st m hex fun d H1 G1 a st1 m1 v S rv => by
    obtain ⟨p, vs, ds, S', hv, hS, hc, ha⟩ := st1.ownLL hk hd
    cases hc with
    | lst hp => exact m1.elim
    | @dK ds' kvs hp =>
      refine ⟨_, hv, G1, Ss, st1, mS.toR st1 m1 hex fun j H2 G2 a2 st2 m2 w S2 rv2 => ?_⟩
      have hp2 := a2.1 _ _ hp
      have rj := st2.rd rv2
      have m3 : mS W (cf X B G0) δ Dn ((pDputN (kvs.map fun q => kD q.1, ds) j d).bind f) := m2
      unfold pDputN at m3
      by_cases hc : (isKey j && (!(kvs.map fun q => kD q.1).any (fun z => keyEq z j) && decide (ds.length < 16777216))) = true
      · rw [if_pos hc] at m3
        obtain ⟨h1, h2⟩ := Bool.and_eq_true_iff.mp hc
        obtain ⟨h2, h3⟩ := Bool.and_eq_true_iff.mp h2
        obtain ⟨key, rfl, rfl⟩ := key_of_D rj h1
        have h3 := of_decide_eq_true h3
        rw [any_key] at h2
        have hnew : (kvs.any fun kv => decide (kv.1 = key)) = false := by simpa using h2
        have eput : putK kvs key v = kvs ++ [(key, v)] := by
          unfold putK
          rw [if_neg (by rw [hnew]; decide)]
        have hlen := ha.len
        rw [List.length_map] at hlen
        have m4 : mS W (cf X B G0) δ Dn (f (.dct ((kvs.map fun q => kD q.1) ++ [kD key]) (ds ++ [d]))) := m3
        have fresh : ∀ b ∈ S, H2 b ≠ none := fun b hb z => by
          obtain ⟨_, _, o, ho⟩ := rv.2.2 b hb
          rw [a2.1 _ _ ho] at z; cases z
        have pS : p ∉ S := fun hm => by
          obtain ⟨_, _, o, ho⟩ := st.own i p (by rw [hS]; exact List.mem_cons_self)
          rw [(rv.2.2 p hm).1] at ho; cases ho
        have rvk := rv.1.adv a2
        have ha2 : AllR (RepK (cf X B G0) H2 G2 (.L .F)) ds (kvs.map (·.2)) S' := ha.imp fun _ _ _ _ h => h.adv a2
        have pm : p ∈ Ss i := by rw [hS]; exact List.mem_cons_self
        have pnot : p ∉ S' := by
          have nd := st.nd i
          rw [hS] at nd
          exact (List.nodup_cons.mp nd).1
        obtain ⟨g0, b0, u, hu0⟩ := st2.own i p pm
        refine ⟨p, _, rfl, DPut.k hp2 (by rw [sizeLine_eq]; omega), .dct ((kvs.map fun q => kD q.1) ++ [kD key]) (ds ++ [d]), G2, (fun k => if k = i then Ss i ++ S else Ss k), ?_, m4⟩
        have hi' : i < en.length := by rw [st.ln.2]; exact (List.getElem?_eq_some_iff.mp hk).1
        rw [eput]
        refine ⟨by simpa using st2.ln, fun k q hkq hq => ?_, fun k b hb => ?_, fun k => ?_, fun k l b hkl hb hc => ?_, fun b w hb => ?_, st2.sG, fun b w hb => ?_, st2.new⟩
        · by_cases e : k = i
          · subst e
            rw [hk] at hkq; cases hkq
            refine ⟨.ref p, _, hv, List.getElem?_set_self hi', ?_⟩
            rw [if_pos rfl]
            refine ⟨p, (kvs ++ [(key, v)]).map (·.2), ds ++ [d], S' ++ S, rfl, by rw [hS]; rfl, ?_, ?_⟩
            · have z : Cont (upd H2 p (.dK (kvs ++ [(key, v)]))) p (.dct ((kvs ++ [(key, v)]).map fun q => kD q.1) (ds ++ [d])) (ds ++ [d]) ((kvs ++ [(key, v)]).map (·.2)) := .dK upd_same
              rw [List.map_append] at z
              exact z
            · rw [List.map_append]
              refine AllR.snoc (ha2.imp fun d v T hT h => h.at_ (fun x hx o ho => ?_) (.refl _)) (rvk.at_ (fun x hx o ho => ?_) (.refl _))
              · rw [upd_ne (fun z => pnot (by rw [← z]; exact hT x hx))]
                exact ho
              · rw [upd_ne (fun z => pS (by rw [← z]; exact hx))]
                exact ho
          · obtain ⟨v', e', g1, g2, g3⟩ := st2.slot k q hkq hq
            refine ⟨v', e', g1, by rw [List.getElem?_set_ne (Ne.symm e)]; exact g2, ?_⟩
            rw [if_neg e]
            exact g3.at_ (fun x hx w hw => by
              rw [upd_ne (fun z => by rw [z] at hx; exact st2.dis k i p e hx pm)]
              exact hw) (.refl _)
        · have any : ∀ x, (∃ w, H2 x = some w) → ∃ w, (upd H2 p (.dK (kvs ++ [(key, v)]))) x = some w := fun x ⟨w, hw⟩ => by
            by_cases e : x = p
            · subst e; exact ⟨_, upd_same⟩
            · exact ⟨w, by rw [upd_ne e]; exact hw⟩
          by_cases e : k = i
          · rw [if_pos e] at hb
            rcases List.mem_append.mp hb with z | z
            · obtain ⟨q1, q2, q3⟩ := st2.own i b z
              exact ⟨q1, q2, any b q3⟩
            · obtain ⟨z1, z2, o, ho⟩ := rv.2.2 b z
              exact ⟨a2.gone ho z2, st.sB.free z1, any b ⟨o, a2.1 _ _ ho⟩⟩
          · rw [if_neg e] at hb
            obtain ⟨q1, q2, q3⟩ := st2.own k b hb
            exact ⟨q1, q2, any b q3⟩
        · by_cases e : k = i
          · rw [if_pos e]
            refine List.nodup_append.mpr ⟨st.nd i, rv.2.1, fun b hb b' hb' z => ?_⟩
            subst z
            obtain ⟨_, _, o, ho⟩ := st.own i b hb
            rw [(rv.2.2 b hb').1] at ho; cases ho
          · rw [if_neg e]
            exact st.nd k
        · have cross : ∀ l b, b ∈ S → b ∈ Ss l → False := fun l b hb hc => by
            obtain ⟨_, _, o, ho⟩ := st.own l b hc
            rw [(rv.2.2 b hb).1] at ho; cases ho
          by_cases e : k = i
          · rw [if_pos e] at hb
            rw [if_neg (fun z => hkl (e.trans z.symm))] at hc
            rcases List.mem_append.mp hb with z | z
            · exact st.dis i l b (fun z2 => hkl (e.trans z2)) z hc
            · exact cross l b z hc
          · rw [if_neg e] at hb
            by_cases el : l = i
            · rw [if_pos el] at hc
              rcases List.mem_append.mp hc with z | z
              · exact st.dis k i b e hb z
              · exact cross k b z hb
            · rw [if_neg el] at hc
              exact st.dis k l b hkl hb hc
        · rw [upd_ne (fun z => by rw [z, b0] at hb; cases hb)]
          exact st2.sB _ _ hb
        · rw [upd_ne (fun z => by rw [z, g0] at hb; cases hb)]
          exact st2.sH _ _ hb
      · rw [if_neg hc] at m3
        exact m3.elim⟩⟩
end
end Lw
/-! slices of lists that are at hand -/
namespace Lw
open PySem PySem.Spec PyProof.Rows L2
def ejI : RK → Bool
  | .J => true
  | .E => true
  | _ => false
theorem ejI_fr {k : RK} (h : ejI k = true) : frI k = true := by cases k <;> first | rfl | cases h
theorem RV.noScr {c : Cf} {H0 H G : Hp} {k : RK} {v : V} {S : List Addr} {xs : List D} (h : RV c H0 H G k (.scr xs) v S) (hk : ejI k = true) : False := by
  cases k with
  | J =>
    obtain ⟨⟨p, vs, ds, e, hc, r⟩, _⟩ := h
    cases hc
  | E =>
    obtain ⟨⟨p, vs, ds, e, hc, r⟩, _⟩ := h
    cases hc
  | _ => cases hk
section
variable {X : Cx} {W : WX} {B G0 : Hp} {κ : List Kd} {en : List D} {e : Expr} {k : RK} {r : R D} {p2 pos : Pos} {lo hi : Option Expr} {rl rh : R (Option Int)}
theorem ev_slLg (he : EV X W B G0 κ en e k r) (hl : EO X W B G0 κ en lo rl) (hh : EO X W B G0 κ en hi rh) (hk : ejI k = true := by rfl) : EV X W B G0 κ en (.Subscript e (.Slice lo hi none p2) pos) (.O (.L .F)) (sl3 r rl rh pSlL) :=
  ⟨PE.wk (pe_slice sl_list he.pe hl.po hh.po) fun σ H Q ⟨G, Ss, st, m⟩ => tEVb st m _ fun d v H1 G1 S _ a st1 rv m1 => mR_po st1 m1 fun o H2 G2 a2 st2 m2 => mR_po st2 m2 fun o2 H3 G3 a3 st3 m3 => by
    have rv3 := (rv.adv a2 (frI_o (ejI_fr hk))).adv a3 (frI_o (ejI_fr hk))
    cases d with
    | lst xs =>
      obtain ⟨p, vs, ev, q, rs⟩ := rv3.fri (ejI_fr hk) st3.sB st3.sH
      subst ev
      refine ⟨p, vs, rfl, SqL.of q, fun l hl => ?_⟩
      have m4 : mR W (cf X B G0) σ H3 G3 (yV (cf X B G0) H1 (.O (.L .F)) Q) (.ok (.lst (cutD xs o o2))) := m3
      refine m4 _ G3 (Adv.newO st3.sH hl) (.ref l) [l] ⟨⟨l, cutV vs o o2, cutD xs o o2, [], rfl, rfl, .lst upd_same, AllR.frozen rs.cut⟩, by simp, fun q hq => ?_⟩
      have e : q = l := by simpa using hq
      subst e
      exact ⟨(a2.1.trans a3.1).free hl, st3.sH.free hl, _, upd_same⟩
    | scr xs => exact (rv3.noScr hk).elim
    | _ => exact m3.elim⟩
end
end Lw
/-! list(reversed(a list)) -/
namespace Lw
open PySem PySem.Spec PyProof.Rows L2 RT
section
variable {prog : Program} {w : World} {A : Around} {E : Value → Shared → Prop} {s : Shared}
theorem extend_rev {R : Result → Shared → Prop} {it l : Addr} {items : Array Value} (hh : A.handled = none) (hit : s.heap.IsRevIter it l ((items.size : Int) - 1)) (hl : s.heap.IsList l items) (hne : l ≠ it) (hn : items.size ≤ sizeLine) (S : Addr) (res : Value) (c₀ : Nat) (hS : s.heap.get? S = some { cls := .type "list", data := .seq #[] c₀ }) (hSi : S ≠ it) (hSl : S ≠ l)
    (hR : ∀ h' tk acc' c', (∀ b o, b ≠ S → b ≠ it → s.heap.get? b = some o → h'.get? b = some o) → h'.get? S = some { cls := .type "list", dict := none, data := .seq acc' c', slots := #[] } →
      ItemsOf (fun i v => items[items.size - 1 - i]? = some v) acc' items.size → R (.ok (.ret res)) { s with heap := h', toks := tk }) :
    wpAny (model prog w) A.in1 (Builtin.List.listExtendWith (.ref S) (.ref it) res)
      (fun fin s' => match fin with | .done f => R (.ok f) s' | .again c' => c'.quiet = true ∧ codeAny (model prog w) A c' R s') (fun e s' => R (.error e) s') s := by
  have W := (Walks.listRev (prog := prog) (w := w) (A := A.in1) hh it l hne items).toS
  have hSf : S ∉ [it, l] := by simp only [List.mem_cons, List.not_mem_nil, or_false, not_or]; exact ⟨hSi, hSl⟩
  have hT : s.TypeIs (.ref it) "list_reverseiterator" := Heap.IsRevIter.typeIs hit
  have h1 : Builtin.List.listSameRef (.ref S) (.ref it) = false := by simp [Builtin.List.listSameRef, hSi]
  unfold Builtin.List.listExtendWith
  refine wpAny_bind (wpAny_typeOf hT ?_)
  rw [if_neg (by rw [h1]; decide)]
  refine wpAny_bind (wpAny_pyIter_revIter hit ?_)
  refine wpAny_bind (wpAny_holding ?_)
  unfold Builtin.List.listLengthHint
  refine wpAny_bind (wpAny_specialOf hT nolen_lri ?_)
  show wpAny _ A.in1 (specialOf (Value.ref it) (Str.ofString "__length_hint__") >>= _) _ _ _
  refine wpAny_bind (wpAny_specialOf hT hint_lri ?_)
  generalize hid : ("list_reverseiterator.__length_hint__" : String) = id0
  wp_delta
  rw [show splitId id0 = some ("list_reverseiterator", "__length_hint__") from by subst hid; decide +kernel]
  subst hid
  refine wpAny_bind (wpAny_isInstance (b := true) hT (by rw [isSubtype_type]; kernel_rfl) ?_)
  refine wpAny_pure ?_
  rw [if_neg (by decide)]
  have e0 : ((items.size : Nat) : Int) - 1 - ((0 : Nat) : Int) = (items.size : Int) - 1 := by omega
  refine wpAny_pure ⟨plainId_quiet F.plain_extend_loop _, codeAny_extend_loopS W hn S hSf res items.size 0 _ #[] c₀ rfl (Nat.zero_le _) ⟨Nat.zero_le _, by rw [e0]; exact hit, hl⟩ hS (ItemsOf.nil _) fun s' acc' c' hm hS' hacc => ?_⟩
  rw [Moved.eq_with hm]
  refine hR s'.heap s'.toks acc' c' (fun b o hb hb2 e => hm.heap b o (fun hmem => ?_) e) hS' hacc
  rcases List.mem_cons.mp hmem with e' | hmem
  · exact hb e'
  · exact hb2 (List.mem_singleton.mp hmem)
theorem init_rev {R : Result → Shared → Prop} {it l : Addr} {items : Array Value} (hh : A.handled = none) (hit : s.heap.IsRevIter it l ((items.size : Int) - 1)) (hl : s.heap.IsList l items) (hne : l ≠ it) (hn : items.size ≤ sizeLine) (S : Addr) (hS : s.heap.get? S = some { cls := .type "list", data := .seq #[] }) (hSi : S ≠ it) (hSl : S ≠ l)
    (hR : ∀ h' tk acc' c', (∀ b o, b ≠ S → b ≠ it → s.heap.get? b = some o → h'.get? b = some o) → h'.get? S = some { cls := .type "list", dict := none, data := .seq acc' c', slots := #[] } →
      ItemsOf (fun i v => items[items.size - 1 - i]? = some v) acc' items.size → R (.ok (.ret .none)) { s with heap := h', toks := tk }) :
    wpAny (model prog w) A.in1 (Builtin.«list.__init__» ⟨[.ref S, .ref it], []⟩)
      (fun fin s' => match fin with | .done f => R (.ok f) s' | .again c' => c'.quiet = true ∧ codeAny (model prog w) A c' R s') (fun e s' => R (.error e) s') s := by
  show wpAny _ _ (do let old ← Builtin.List.listItems (.ref S); Builtin.List.listUpdate (.ref S) (fun _ => #[]); letGo old.toList.reverse; Builtin.List.listExtendWith (.ref S) (.ref it) .none) _ _ s
  refine wpAny_bind ?_
  unfold Builtin.List.listItems
  refine wpAny_bind (wpAny_seqItems hS rfl (wpAny_pure ?_))
  show wpAny _ _ (updateSeq S (fun _ => #[]) >>= fun _ => letGo (#[] : Array Value).toList.reverse >>= fun _ => Builtin.List.listExtendWith (.ref S) (.ref it) .none) _ _ s
  refine wpAny_bind (wpAny_updateSeq hS rfl ?_)
  have hS₂ := Heap.get?_update_self (Obj.mapSeq (fun _ => (#[] : Array Value))) hS rfl
  have oth : ∀ b o, b ≠ S → s.heap.get? b = some o → (s.heap.update S (Obj.mapSeq (fun _ => (#[] : Array Value)))).get? b = some o :=
    fun b o hb e => (Heap.get?_update_other _ _ (Ne.symm hb)).trans e
  have sb : Heap.SameBut S s.heap (s.heap.update S (Obj.mapSeq (fun _ => (#[] : Array Value)))) := Heap.SameBut.update _ _ _
  refine wpAny_bind (wpAny_letGo ?_)
  refine extend_rev hh (hit.at fun o e => oth it o (Ne.symm hSi) e) (hl.extBut sb.extBut (Ne.symm hSl)) hne hn S .none _ hS₂ hSi hSl fun h' tk acc' c' hk hS' hacc => ?_
  exact hR h' tk acc' c' (fun b o hb hb2 e => hk b o hb hb2 (oth b o hb e)) hS' hacc
theorem call_list_rev {it l : Addr} {items : Array Value} {Q : Value → Shared → Prop} (hh : A.handled = none) (hit : s.heap.IsRevIter it l ((items.size : Int) - 1)) (hl : s.heap.IsList l items) (hne : l ≠ it) (hn : items.size ≤ sizeLine)
    (hQ : ∀ h' tk acc' c', (∀ b o, b ≠ it → s.heap.get? b = some o → h'.get? b = some o) →
      h'.get? s.heap.objs.size = some { cls := .type "list", dict := none, data := .seq acc' c', slots := #[] } → ItemsOf (fun i v => items[items.size - 1 - i]? = some v) acc' items.size → Q (.ref s.heap.objs.size) { s with heap := h', toks := tk }) :
    wpAny (model prog w) A (call (.type "list") [.ref it]) Q E s := by
  obtain ⟨oi, hoi, _⟩ := id hit
  obtain ⟨ol, hol, _⟩ := id hl
  refine callType_codes (Q₁ := fun obj s₁ => obj = .ref s.heap.objs.size ∧ s₁ = { s with heap := s.heap.push { cls := .type "list", data := .seq #[] } }) F.called_list (F.typeCall_list_1 _) F.entry_list_init
    (code_list_new _ ⟨rfl, rfl⟩) fun obj s₁ h₁ => ?_
  obtain ⟨rfl, rfl⟩ := h₁
  have hS : (s.heap.push { cls := .type "list", data := .seq #[] }).get? s.heap.objs.size = some { cls := .type "list", data := .seq #[] } := Heap.get?_push_size _ rfl
  refine ⟨⟨_, hS, rfl⟩, F.args_list_init_2 _ _, init_rev (A := A.in1) hh (hit.at fun o e => Heap.get?_push_of_some _ e) (hl.push _) hne hn _ hS (Nat.ne_of_gt (Heap.lt_size hoi)) (Nat.ne_of_gt (Heap.lt_size hol)) fun h' tk acc' c' hk hS' hacc => ?_⟩
  exact ⟨rfl, hQ h' tk acc' c' (fun b o hb e => hk b o (Nat.ne_of_lt (Heap.lt_size e)) hb (Heap.get?_push_of_some _ e)) hS' hacc⟩
end
def tLstRev (K : PySem.W.Frag) (te : TE) : TE := fun σ H Q => te σ H fun v H1 => ∃ (a : Addr) (xs : List V), v = .ref a ∧ SqL K H1 a xs ∧ ∀ q, H1 q = none → Q (.ref q) (upd H1 q (.lst xs.reverse))
theorem pe_lstRev {X : Cx} {e : Expr} {te : TE} {p p2 pos pos2 : Pos} (hc : X.calm = true) (hg : Gl X "list") (hm : X.mg "list" = none) (hg2 : Gl X "reversed") (hm2 : X.mg "reversed" = none) (he : PE X e te)
    (hs : starEach [e] X.env = (false, eval e X.env) :: starEach [] X.env := by rfl)
    (hs2 : starEach [.Call (.Name "reversed" p2) [e] [] pos2] X.env = (false, eval (.Call (.Name "reversed" p2) [e] [] pos2) X.env) :: starEach [] X.env := by rfl) :
    PE X (.Call (.Name "list" p) [.Call (.Name "reversed" p2) [e] [] pos2] [] pos) (tLstRev X.K te) := by
  refine ⟨fun pins s σ H Q I h => ?_⟩
  refine Call_ (ld_blt I hg hm boot_list (PyProof.Rows.callWith_type1 (args_cons (Call_ (ld_blt I hg2 hm2 PyProof.Rows.boot_reversed (PyProof.Rows.callWith_type1 (args_cons (thn (he.run pins s σ H _ I h) fun u s1 ⟨v, H1, I1, r1, q1⟩ => args_nil ?_) hs) hs rfl))) hs2) hs2 rfl))
  obtain ⟨a, xs, ev, hq, q⟩ := q1
  subst ev
  obtain rfl : u = Value.ref a := r1
  obtain ⟨its, rv, p', hz⟩ := I1.list hq
  refine call_reversed_list p'.isList (args_nil ?_)
  have k0 : ∀ b o, s1.heap.get? b = some o → (s1.heap.push (revObj a ((its.toArray.size : Int) - 1))).get? b = some o := fun b o e => Heap.get?_push_of_some _ e
  have I2 : Inv X pins σ H1 { s1 with heap := s1.heap.push (revObj a ((its.toArray.size : Int) - 1)) } := I1.kept (t' := s1.toks) k0
  obtain ⟨f0, f1, f2, f3, f4, f5⟩ := I1.fpOk (H' := H1) (b := s1.heap.objs.size) (Nat.le_refl _) (I1.hok.fresh (Nat.le_refl _))
  have hl := p'.isList
  obtain ⟨ol, hol, _⟩ := id hl
  have hne : a ≠ s1.heap.objs.size := Nat.ne_of_lt (Heap.lt_size hol)
  have hn : its.toArray.size ≤ sizeLine := by rw [List.size_toArray, ← rv.length]; exact hz
  refine call_list_rev (s := { s1 with heap := s1.heap.push (revObj a ((its.toArray.size : Int) - 1)) }) (I1.ok.hd hc) ⟨_, Heap.get?_push_size _ rfl, rfl, rfl⟩ (hl.push _) hne hn fun h' tk acc c' hk hS' hi => ?_
  have hsz : (s1.heap.push (revObj a ((its.toArray.size : Int) - 1))).objs.size = s1.heap.objs.size + 1 := Heap.size_push ..
  have I3 : Inv X pins σ H1 { s1 with heap := h', toks := tk } := I2.turned (t' := tk) (fun b o hb e => hk b o hb e) f0 f1 f3 f4 f5
  refine ⟨.ref (s1.heap.push (revObj a ((its.toArray.size : Int) - 1))).objs.size, upd H1 (s1.heap.push (revObj a ((its.toArray.size : Int) - 1))).objs.size (.lst xs.reverse), ?_, rfl, q _ (I2.hok.fresh (Nat.le_refl _))⟩
  have J : Inv X pins σ H1 { s1 with heap := PySem.W.hideAll (s1.heap.push (revObj a ((its.toArray.size : Int) - 1))) [s1.heap.objs.size], toks := tk } := I2.turned (t' := tk) (fun b o hb e => PySem.W.hideAll_get [s1.heap.objs.size] e (by simpa using hb)) f0 f1 f3 f4 f5
  refine J.laid (t' := tk) (fun b u e => ?_) (by rw [PySem.W.hideAll_size]; exact Nat.le_refl _) (show ObjOk X.prog X.w _ _ _ (.lst xs.reverse) from ⟨by rw [List.length_reverse]; exact hz, acc.toList, c', vals_rev rv hi, ?_⟩)
  · have hb : b ≠ s1.heap.objs.size := fun z => by
      have e' : (PySem.W.hideAll (s1.heap.push (revObj a ((its.toArray.size : Int) - 1))) [s1.heap.objs.size]).get? b = some u := e
      rw [PySem.W.hideAll_none [s1.heap.objs.size] (by simp [z])] at e'
      cases e'
    exact hk b u hb (PySem.W.of_hideAll [s1.heap.objs.size] e)
  · rw [Array.toArray_toList]
    exact hS'
section
variable {X : Cx} {W : WX} {B G0 : Hp} {κ : List Kd} {en : List D} {e : Expr} {k : RK} {r : R D} {p p2 pos pos2 : Pos}
def pListRev : D → R D
  | .lst xs => .ok (.lst xs.reverse)
  | _ => .bad
theorem Reps.rev {K : PySem.W.Frag} {mg : Str → Option Value} {G : Hp} : ∀ {ds : List D} {vs : List V}, Reps K mg G ds vs → Reps K mg G ds.reverse vs.reverse
  | [], vs, h => by
    have e : vs = [] := h
    rw [e]
    exact .nil
  | d :: ds, vs, ⟨v, r, e, h, q⟩ => by
    rw [e, List.reverse_cons, List.reverse_cons]
    exact (Reps.rev q).snoc h
theorem ev_lstRev (he : EV X W B G0 κ en e k r) (hm : X.mg "list" = none) (hm2 : X.mg "reversed" = none) (hc : X.calm = true := by rfl) (hg : Gl X "list" := by rfl) (hg2 : Gl X "reversed" := by rfl) (hk : frI k = true := by rfl)
    (hs : starEach [e] X.env = (false, eval e X.env) :: starEach [] X.env := by rfl)
    (hs2 : starEach [.Call (.Name "reversed" p2) [e] [] pos2] X.env = (false, eval (.Call (.Name "reversed" p2) [e] [] pos2) X.env) :: starEach [] X.env := by rfl) :
    EV X W B G0 κ en (.Call (.Name "list" p) [.Call (.Name "reversed" p2) [e] [] pos2] [] pos) (.O (.L .F)) (r.bind pListRev) :=
  ⟨PE.wk (pe_lstRev hc hg hm hg2 hm2 he.pe hs hs2) fun σ H Q ⟨G, Ss, st, m⟩ => tEVb st m _ fun d v H1 G1 S _ a1 st1 rv m1 => by
    cases d with
    | lst xs =>
      obtain ⟨p, vs, ev, q, rs⟩ := rv.fri hk st1.sB st1.sH
      exact ⟨p, vs, ev, SqL.of q, mk_list m1 st1.sH (.refl _) rs.rev⟩
    | _ => exact m1.elim⟩
end
end Lw
namespace Lw
open PySem PySem.Spec PyProof.Rows L2
/-! ### dicts whose keys are tuples of ints and texts -/
def keysEq : List D → List D → Bool
  | [], [] => true
  | a :: as, b :: bs => keyEq a b && keysEq as bs
  | _, _ => false
def tupEq : D → D → Bool
  | .tup a, .tup b => keysEq a b
  | _, _ => false
def isKeyT : D → Bool
  | .tup xs => xs.all isKey
  | _ => false
abbrev kT (k : List Key) : D := .tup (k.map kD)
def dIdxT (ks : List D) (k : D) : Option Nat := ks.findIdx? fun z => tupEq z k
def toDcT : D → R (List D × List D)
  | .dcT ks xs => .ok (ks, xs)
  | _ => .bad
def pTget (kx : List D × List D) (k y : D) : R D := if isKeyT k then (match dIdxT kx.1 k with
  | some j => (match kx.2[j]? with
    | some x => .ok x
    | none => .bad)
  | none => .ok y) else .bad
def pTix (kx : List D × List D) (k : D) : R D := if isKeyT k then (match dIdxT kx.1 k with
  | some j => (match kx.2[j]? with
    | some x => .ok x
    | none => .bad)
  | none => .bad) else .bad
def dPutT (ks xs : List D) (k d : D) : D := if ks.any (fun z => tupEq z k) = true then .dcT ks (List.zipWith (fun z x => if tupEq z k = true then d else x) ks xs) else .dcT (ks ++ [k]) (xs ++ [d])
def pTput (kx : List D × List D) (k d : D) : R D := if isKeyT k && decide (kx.2.length < 16777216) then .ok (dPutT kx.1 kx.2 k d) else .bad
theorem keysEq_k : ∀ {a b : List Key}, keysEq (a.map kD) (b.map kD) = decide (a = b)
  | [], [] => rfl
  | [], _ :: _ => rfl
  | _ :: _, [] => rfl
  | x :: a, y :: b => by
    rw [List.map_cons, List.map_cons]
    show (keyEq (kD x) (kD y) && keysEq (a.map kD) (b.map kD)) = _
    rw [keyEq_k, keysEq_k, Bool.eq_iff_iff]
    simp
theorem tupEq_k {a b : List Key} : tupEq (kT a) (kT b) = decide (a = b) := keysEq_k
theorem keys_of_D {K : PySem.W.Frag} {mg : Str → Option Value} {H : Hp} : ∀ {ds : List D} {vs : List V}, Reps K mg H ds vs → ds.all isKey = true → ∃ k : List Key, ds = k.map kD ∧ vs = k.map kV
  | [], _, h, _ => ⟨[], rfl, h⟩
  | d :: ds, _, ⟨v, r, e, h, q⟩, hk => by
    rw [List.all_cons, Bool.and_eq_true] at hk
    obtain ⟨k, e1, e2⟩ := key_of_D h hk.1
    obtain ⟨ks, e3, e4⟩ := keys_of_D q hk.2
    subst e e1 e2 e3 e4
    exact ⟨k :: ks, rfl, rfl⟩
theorem valV_dIdxT (k : List Key) : ∀ (kvs : List (List Key × V)), (∀ j, dIdxT (kvs.map fun q => kT q.1) (kT k) = some j → ∃ w, (kvs.map (·.2))[j]? = some w ∧ valV kvs k = some w) ∧ (dIdxT (kvs.map fun q => kT q.1) (kT k) = none → valV kvs k = none)
  | [] => ⟨fun j h => by simp [dIdxT] at h, fun _ => rfl⟩
  | p :: r => by
    obtain ⟨h1, h2⟩ := valV_dIdxT k r
    by_cases e : p.1 = k
    · rw [valV_pos e]
      refine ⟨fun j h => ?_, fun h => ?_⟩
      · unfold dIdxT at h
        rw [List.map_cons, List.findIdx?_cons, tupEq_k, decide_eq_true e, if_pos rfl] at h
        cases h
        exact ⟨p.2, rfl, rfl⟩
      · unfold dIdxT at h
        rw [List.map_cons, List.findIdx?_cons, tupEq_k, decide_eq_true e, if_pos rfl] at h
        cases h
    · rw [valV_neg e]
      refine ⟨fun j h => ?_, fun h => ?_⟩
      · unfold dIdxT at h
        rw [List.map_cons, List.findIdx?_cons, tupEq_k, decide_eq_false e, if_neg (by decide)] at h
        obtain ⟨i, hi, rfl⟩ := Option.map_eq_some_iff.mp h
        obtain ⟨w, e1, e2⟩ := h1 i hi
        exact ⟨w, by simpa using e1, e2⟩
      · unfold dIdxT at h
        rw [List.map_cons, List.findIdx?_cons, tupEq_k, decide_eq_false e, if_neg (by decide)] at h
        exact h2 (Option.map_eq_none_iff.mp h)
theorem any_keyT (k : List Key) (kvs : List (List Key × V)) : (kvs.map fun q => kT q.1).any (fun z => tupEq z (kT k)) = kvs.any fun kv => decide (kv.1 = k) := by
  rw [List.any_map]
  congr 1
  funext p
  exact tupEq_k
theorem dPutT_ok {K : PySem.W.Frag} {mg : Str → Option Value} {G : Hp} {k : List Key} {kvs : List (List Key × V)} {xs : List D} {d : D} {v : V} (r : Reps K mg G xs (kvs.map (·.2))) (h : Rep K mg G d v) :
    ∃ xs', dPutT (kvs.map fun q => kT q.1) xs (kT k) d = .dcT ((putK kvs k v).map fun q => kT q.1) xs' ∧ Reps K mg G xs' ((putK kvs k v).map (·.2)) := by
  unfold dPutT putK
  rw [any_keyT]
  by_cases e : (kvs.any fun kv => decide (kv.1 = k)) = true
  · rw [if_pos e, if_pos e]
    refine ⟨List.zipWith (fun z x => if tupEq z (kT k) = true then d else x) (kvs.map fun q => kT q.1) xs, ?_, ?_⟩
    · congr 1
      rw [List.map_map]
      refine List.map_congr_left fun p _ => ?_
      show kT p.1 = kT (if p.1 = k then (p.1, v) else p).1
      by_cases e2 : p.1 = k
      · rw [if_pos e2]
      · rw [if_neg e2]
    · clear e
      induction kvs generalizing xs with
      | nil =>
        cases xs with
        | nil => exact r
        | cons x xs => obtain ⟨_, _, e, _⟩ := r; simp at e
      | cons p kvs ih =>
        cases xs with
        | nil => exact absurd r (by simp [Reps])
        | cons x xs =>
          obtain ⟨w, rr, e, h1, h2⟩ := r
          rw [List.map_cons] at e
          injection e with e1 e2
          subst e1 e2
          rw [List.map_cons, List.zipWith_cons_cons, List.map_cons, List.map_cons, tupEq_k]
          by_cases e2 : p.1 = k
          · rw [decide_eq_true e2, if_pos rfl, if_pos e2]
            exact .cons h (ih h2)
          · rw [decide_eq_false e2, if_neg (by decide), if_neg e2]
            exact .cons h1 (ih h2)
  · rw [if_neg e, if_neg e]
    exact ⟨xs ++ [d], by rw [List.map_append]; rfl, by rw [List.map_append]; exact r.snoc h⟩
section
variable {X : Cx} {W : WX} {B G0 : Hp} {κ : List Kd} {en : List D} {e x a b : Expr} {r rx : R D} {d k0 d0 : D} {i j : Nat} {pos apos : Pos}
/-- a slot's laid tuple -/
theorem St.keyK {c : Cf} {σ : L2.St} {H G : Hp} {Ss : Nat → List Addr} (st : St c κ en σ H G Ss) (hk : κ[j]? = some .K) (hd : en[j]? = some k0) :
    ∃ p vs ds, σ[j]? = some (some (.ref p)) ∧ k0 = .tup ds ∧ G p = some (.tup vs) ∧ Reps c.K c.mg G ds vs := by
  obtain ⟨v, d', h1, h2, ⟨p, vs, ds, e1, e2, g, r⟩, _⟩ := st.slot j .K hk (by intro z; cases z)
  rw [hd] at h2; cases h2
  subst e1
  exact ⟨p, vs, ds, h1, e2, g, r⟩
theorem St.dictQ {c : Cf} {σ : L2.St} {H G : Hp} {Ss : Nat → List Addr} (st : St c κ en σ H G Ss) (hk : κ[i]? = some .Q) (hd : en[i]? = some d0) :
    ∃ p kvs ds, σ[i]? = some (some (.ref p)) ∧ Ss i = [p] ∧ d0 = .dcT (kvs.map fun q : List Key × V => kT q.1) ds ∧ H p = some (.dT kvs) ∧ Reps c.K c.mg G ds (kvs.map (·.2)) := by
  obtain ⟨v, d', h1, h2, p, kvs, ds, e1, e2, e3, g, r⟩ := st.slot i .Q hk (by intro z; cases z)
  rw [hd] at h2; cases h2
  subst e1
  exact ⟨p, kvs, ds, h1, e2, e3, g, r⟩
theorem ev_varK (p : PE X e (tVar i)) (hk : κ[i]? = some .K) (hd : en[i]? = some d) : EV X W B G0 κ en e .F (.ok d) :=
  ⟨PE.wk p fun σ H Q ⟨G, Ss, st, m⟩ => by
    obtain ⟨p, vs, ds, h1, rfl, g, r⟩ := st.keyK hk hd
    exact ⟨_, h1, m H G (.refl st.sH) _ [] ⟨⟨p, vs, rfl, SqT.of g, r⟩, rfl⟩⟩⟩
/-- a tuple that can be a key -/
theorem ev_tupK {es : List Expr} {pk : List PK} {rs : R (List D)} {x1} (h : EA X W B G0 κ en es pk rs) (hp : ∀ b ∈ pk, b.isF = true := by decide) : EV X W B G0 κ en (.Tuple es x1 pos) (.O .K) (rs.bind mkT) :=
  ⟨PE.wk (pe_tup h.pa) fun σ H Q ⟨G, Ss, st, m⟩ => ⟨G, Ss, st, m.thn fun ds H1 G1 a m vs args => by
    unfold mkT at m
    by_cases hl : ds.length ≤ 16777216
    · rw [if_pos hl] at m
      have r := args.reps hp
      refine ⟨by rw [← r.length, sizeLine_eq]; exact hl, fun p hp => ?_⟩
      have a2 := Adv.newF (o := .tup vs) a.2.2.1 hp
      exact m.ok a2 (.ref p) [] ⟨⟨⟨p, vs, ds, rfl, rfl, upd_same, r.mono a2.2.1⟩, rfl⟩, .nil, fun y hy => nomatch hy⟩
    · rw [if_neg hl] at m; exact m.elim⟩⟩
/-- {}: a dict of our own, its keys tuples -/
theorem ev_dT0 : EV X W B G0 κ en (.Dict [] [] pos) (.O .Q) (.ok (.dcT [] [])) :=
  ⟨PE.wk pe_dnewT fun σ H Q ⟨G, Ss, st, m⟩ p hp => m _ _ (Adv.newO st.sH hp) _ [p] ⟨⟨p, [], [], rfl, rfl, rfl, upd_same, rfl⟩, by simp, fun y hy => by
    rw [List.mem_singleton.mp hy]
    exact ⟨hp, st.sH.free hp, _, upd_same⟩⟩⟩
/-- d.get(k, x) -/
theorem ev_tget (hu : X.A.units + 65 < cLine) (p : PE X a (tVar i)) (q : PE X b (tVar j)) (hx : EV X W B G0 κ en x .F rx) (hk : κ[i]? = some .Q := by rfl) (hd : en[i]? = some d0 := by rfl) (hk2 : κ[j]? = some .K := by rfl) (hd2 : en[j]? = some k0 := by rfl)
    (m : M2 X a "get" apos b x pos := by exact ⟨rfl, rfl, rfl, rfl⟩) : EV X W B G0 κ en (.Call (.Attribute a "get" apos) [b, x] [] pos) .F (R.bind (toDcT d0) fun kx => R.bind rx fun y => pTget kx k0 y) :=
  ⟨PE.wk (pe_dget2 (by omega) p q hx.pe m) fun σ H Q ⟨G, Ss, st, m⟩ => by
    obtain ⟨p, kvs, ds, h1, hS, rfl, hp, r⟩ := st.dictQ hk hd
    obtain ⟨b, vs, es, g1, rfl, gb, rb⟩ := st.keyK hk2 hd2
    refine ⟨_, h1, p, rfl, .inr ⟨kvs, .inl hp⟩, _, g1, tEVb st m _ fun y u H1 G1 S _ a st1 rv m1 => ?_⟩
    have m2 : mR W (cf X B G0) σ H1 G1 (yV (cf X B G0) H1 .F Q) (if isKeyT (.tup es) then (match dIdxT (kvs.map fun q : List Key × V => kT q.1) (.tup es) with
      | some j => (match ds[j]? with
        | some x => .ok x
        | none => .bad)
      | none => .ok y) else .bad) := m1
    by_cases hkk : isKeyT (.tup es) = true
    · rw [if_pos hkk] at m2
      obtain ⟨key, rfl, rfl⟩ := keys_of_D rb hkk
      obtain ⟨z1, z2⟩ := valV_dIdxT key kvs
      have hp1 : H1 p = some (.dT kvs) := a.1 _ _ hp
      have gb1 : H1 b = some (.tup (key.map kV)) := a.1 _ _ (st.sH _ _ gb)
      cases ej : dIdxT (kvs.map fun q : List Key × V => kT q.1) (kT key) with
      | none =>
        rw [show dIdxT (kvs.map fun q : List Key × V => kT q.1) (.tup (key.map kD)) = none from ej] at m2
        exact ⟨none, by rw [← z2 ej]; exact DGet.t hp1 gb1, m2 H1 G1 (.refl st1.sH) u [] ⟨rv.1, rfl⟩⟩
      | some j =>
        rw [show dIdxT (kvs.map fun q : List Key × V => kT q.1) (.tup (key.map kD)) = some j from ej] at m2
        obtain ⟨w, e1, e2⟩ := z1 j ej
        cases ex : ds[j]? with
        | none => simp only [ex] at m2; exact m2.elim
        | some y =>
          simp only [ex] at m2
          obtain ⟨w', e3, rw'⟩ := r.get ex
          rw [e1] at e3
          cases e3
          exact ⟨some w, by rw [← e2]; exact DGet.t hp1 gb1, m2 H1 G1 (.refl st1.sH) w [] ⟨rw'.mono a.2.1, rfl⟩⟩
    · rw [if_neg hkk] at m2
      exact m2.elim⟩
/-- d[k] -/
theorem ev_tix (hu : X.A.units + 65 < cLine) (p : PE X a (tVar i)) (q : PE X b (tVar j)) (hk : κ[i]? = some .Q := by rfl) (hd : en[i]? = some d0 := by rfl) (hk2 : κ[j]? = some .K := by rfl) (hd2 : en[j]? = some k0 := by rfl)
    (hs : NoSl b := by exact fun _ _ => rfl) : EV X W B G0 κ en (.Subscript a b pos) .F (R.bind (toDcT d0) fun kx => pTix kx k0) :=
  ⟨PE.wk (pe_dget (by omega) p q hs) fun σ H Q ⟨G, Ss, st, m⟩ => by
    obtain ⟨p, kvs, ds, h1, hS, rfl, hp, r⟩ := st.dictQ hk hd
    obtain ⟨b, vs, es, g1, rfl, gb, rb⟩ := st.keyK hk2 hd2
    refine ⟨_, h1, _, g1, ?_⟩
    have m2 : mR W (cf X B G0) σ H G (yV (cf X B G0) H .F Q) (if isKeyT (.tup es) then (match dIdxT (kvs.map fun q : List Key × V => kT q.1) (.tup es) with
      | some j => (match ds[j]? with
        | some x => .ok x
        | none => .bad)
      | none => .bad) else .bad) := m
    by_cases hkk : isKeyT (.tup es) = true
    · rw [if_pos hkk] at m2
      obtain ⟨key, rfl, rfl⟩ := keys_of_D rb hkk
      obtain ⟨z1, z2⟩ := valV_dIdxT key kvs
      have gb1 : H b = some (.tup (key.map kV)) := st.sH _ _ gb
      cases ej : dIdxT (kvs.map fun q : List Key × V => kT q.1) (kT key) with
      | none =>
        rw [show dIdxT (kvs.map fun q : List Key × V => kT q.1) (.tup (key.map kD)) = none from ej] at m2
        exact m2.elim
      | some j =>
        rw [show dIdxT (kvs.map fun q : List Key × V => kT q.1) (.tup (key.map kD)) = some j from ej] at m2
        obtain ⟨w, e1, e2⟩ := z1 j ej
        cases ex : ds[j]? with
        | none => simp only [ex] at m2; exact m2.elim
        | some y =>
          simp only [ex] at m2
          obtain ⟨w', e3, rw'⟩ := r.get ex
          rw [e1] at e3
          cases e3
          exact ⟨p, w, rfl, by rw [← e2]; exact DGet.t hp gb1, m2 H G (.refl st.sH) w [] ⟨rw', rfl⟩⟩
    · rw [if_neg hkk] at m2
      exact m2.elim⟩
end
section
variable {α : Type} {X : Cx} {W : WX} {B G0 : Hp} {κ : List Kd} {en : List D} {e : Expr} {r : R D} {δ : DE α} {pos : Pos} {rest : List Stmt} {d0 k0 : D}
/-- d[k] = e -/
theorem sv_tput {i j : Nat} {x y : Str} {px sp py : Pos} {f : D → R α} (hu : X.A.units + 65 < cLine) (p : PE X (.Name x px) (tVar i)) (q : PE X (.Name y py) (tVar j)) (he : EV X W B G0 κ en e .F r) (hr : ∀ d, SV X W B G0 κ (en.set i d) rest δ (f d))
    (hk : κ[i]? = some .Q := by rfl) (hd : en[i]? = some d0 := by rfl) (hk2 : κ[j]? = some .K := by rfl) (hd2 : en[j]? = some k0 := by rfl)
    (hex : δ.ex κ en := by exact True.intro) (hs : swapsWith e (some (.Subscript (.Name x px) (.Name y py) sp)) pos.line X.env = pure false := by rfl) :
    SV X W B G0 κ en (.Assign [.Subscript (.Name x px) (.Name y py) sp] e pos :: rest) δ (r.bind fun d => (toDcT d0).bind fun kx => (pTput kx k0 d).bind f) :=
  ⟨PSs.wk (pss_cons (ps_dput (by omega) p q he.pe hs) (PSs.all fun d => (hr d).ps)) fun Dn σ H ⟨G, Ss, st, m⟩ => ⟨G, Ss, st, mS.toR st m hex fun d H1 G1 a st1 m1 v S rv => by
    obtain ⟨p, kvs, ds, h1, hS, rfl, hp, r⟩ := st1.dictQ hk hd
    obtain ⟨b, vs, es, g1, rfl, gb, rb⟩ := st1.keyK hk2 hd2
    refine ⟨_, h1, _, g1, ?_⟩
    have m3 : mS W (cf X B G0) δ Dn ((if isKeyT (.tup es) && decide (ds.length < 16777216) then (.ok (dPutT (kvs.map fun q : List Key × V => kT q.1) ds (.tup es) d) : R D) else .bad).bind f) := m1
    by_cases hc : (isKeyT (.tup es) && decide (ds.length < 16777216)) = true
    · rw [if_pos hc] at m3
      obtain ⟨z1, z2⟩ := Bool.and_eq_true_iff.mp hc
      obtain ⟨key, rfl, rfl⟩ := keys_of_D rb z1
      obtain ⟨xs', ed, rp⟩ := dPutT_ok (k := key) r rv.1
      refine ⟨p, _, rfl, DPut.t hp (st1.sH _ _ gb) (by rw [sizeLine_eq]; have := r.length; rw [List.length_map] at this; have := of_decide_eq_true z2; omega), dPutT (kvs.map fun q : List Key × V => kT q.1) ds (kT key) d, G1, Ss, ?_, m3⟩
      exact st1.put hk (by intro z; cases z) (by rw [hS]; exact List.mem_cons_self) h1 (by
        rw [hS, ed]
        exact ⟨p, _, xs', rfl, rfl, rfl, upd_same, rp⟩)
    · rw [if_neg hc] at m3
      exact m3.elim⟩⟩
end
end Lw
/-! for k, x in d.items(), d a frozen dict: it is locked while the loop runs -/
namespace Lw
open PySem PySem.Spec PyProof.Rows L2
/-- what stands at a is z -/
def lk (a : Addr) (z : HO) (H : Hp) : Hp := fun b => if b = a then (H b).map (fun _ => z) else H b
def Dk (kvs : List (Key × V)) (o : HO) : Prop := o = .dK kvs ∨ ∃ od, o = .frz od (.dK kvs)
section
variable {a b : Addr} {z w o : HO} {G H H' : Hp} {kvs : List (Key × V)}
theorem lk_at (h : H a = some o) : lk a z H a = some z := by unfold lk; rw [if_pos rfl, h]; rfl
theorem lk_ne (h : b ≠ a) : lk a z H b = H b := by unfold lk; rw [if_neg h]
theorem lk_none (h : H b = none) : lk a z H b = none := by
  unfold lk
  split
  · rw [h]; rfl
  · exact h
theorem lk_free (h : lk a z H b = none) : H b = none := by
  unfold lk at h
  split at h
  · cases q : H b with
    | none => rfl
    | some o => rw [q] at h; cases h
  · exact h
theorem lk_upd (h : H a = some o) : lk a z H = upd H a z := by
  funext b
  by_cases e : b = a
  · rw [e, lk_at h, upd_same]
  · rw [lk_ne e, upd_ne e]
theorem lk_same (s : Same G H) : Same (lk a z G) (lk a z H) := fun b u h => by
  by_cases e : b = a
  · subst e
    cases q : G b with
    | none => rw [lk_none q] at h; cases h
    | some v =>
      rw [lk_at q] at h
      cases h
      exact lk_at (s _ _ q)
  · rw [lk_ne e] at h ⊢
    exact s _ _ h
theorem lk_back (h : ∀ o, G a = some o → o = w) : lk a w (lk a z G) = G := by
  funext b
  by_cases e : b = a
  · subst e
    cases q : G b with
    | none => exact lk_none (lk_none q)
    | some v => rw [lk_at (lk_at q), h v q]
  · rw [lk_ne e, lk_ne e]
theorem Dk.ne {kvs : List (Key × V)} (h : ∀ o, G a = some o → Dk kvs o) (e : G b = some o) (n : ∀ k, ¬ Dk k o) : lk a z G b = some o := by
  by_cases q : b = a
  · subst q
    exact absurd (h _ e) (n _)
  · rw [lk_ne q]; exact e
theorem Dk.rd (h : Dk kvs z) (e : H a = some z) : Rd H a (.dK kvs) := by
  rcases h with h | ⟨od, h⟩
  · exact .inl (by rw [e, h])
  · exact .inr ⟨od, by rw [e, h]⟩
theorem Dk.of_rd (h : Rd H a (.dK kvs)) : ∃ w, H a = some w ∧ Dk kvs w := by
  rcases h with h | ⟨od, h⟩
  · exact ⟨_, h, .inl rfl⟩
  · exact ⟨_, h, .inr ⟨_, rfl⟩⟩
theorem Dk.uniq {k1 k2 : List (Key × V)} (h1 : Dk k1 o) (h2 : Dk k2 o) : k1 = k2 := by
  rcases h1 with h1 | ⟨_, h1⟩ <;> rcases h2 with h2 | ⟨_, h2⟩ <;> rw [h1] at h2 <;> cases h2 <;> rfl
end
theorem ndk {o : HO} {k : List (Key × V)} (h : Dk k o) : match o with | .dK _ => True | .frz _ (.dK _) => True | _ => False := by
  rcases h with h | ⟨_, h⟩ <;> subst h <;> trivial
section
variable {K : PySem.W.Frag} {mg : Str → Option Value} {a : Addr} {z : HO} {G : Hp} {kvs : List (Key × V)}
mutual
theorem Rep.lk (hz : Dk kvs z) (h : ∀ o, G a = some o → Dk kvs o) : ∀ {d : D} {v : V}, Rep K mg G d v → Rep K mg (lk a z G) d v
  | .non, _, r => r
  | .bl _, _, r => r
  | .int _, _, r => r
  | .str _, _, r => r
  | .lst _, _, ⟨b, vs, e, q, r⟩ => ⟨b, vs, e, Dk.ne h q fun k x => (ndk x), Reps.lk hz h r⟩
  | .scr _, _, ⟨b, vs, e, q, r⟩ => ⟨b, vs, e, q.imp (fun q => q.imp (fun q => Dk.ne h q fun k x => ndk x) fun ⟨o, q⟩ => ⟨o, Dk.ne h q fun k x => ndk x⟩) fun q => q, Reps.lk hz h r⟩
  | .tup _, _, ⟨b, vs, e, q, r⟩ => ⟨b, vs, e, q.imp (fun q => q.imp (fun q => Dk.ne h q fun k x => ndk x) fun ⟨o, q⟩ => ⟨o, Dk.ne h q fun k x => ndk x⟩) fun q => q, Reps.lk hz h r⟩
  | .dct _ _, _, ⟨b, e, k, q, ek, r⟩ => ⟨b, e, k, by
      obtain ⟨w, ew, dw⟩ := Dk.of_rd q
      by_cases eb : b = a
      · subst eb
        have e1 := Dk.uniq dw (h _ ew)
        subst e1
        exact hz.rd (lk_at ew)
      · exact dw.rd (by rw [lk_ne eb]; exact ew), ek, Reps.lk hz h r⟩
  | .dcT _ _, _, ⟨b, e, k, q, ek, r⟩ => ⟨b, e, k, Dk.ne h q fun k x => ndk x, ek, Reps.lk hz h r⟩
  | .obj _ _ _, _, ⟨b, C, dx, fs, e, q, m, n, r⟩ => ⟨b, C, dx, fs, e, Dk.ne h q fun k x => ndk x, m, n, Reps.lk hz h r⟩
  | .exc _ _ _, _, ⟨b, C, xd, e, q, m, r⟩ => ⟨b, C, xd, e, Dk.ne h q fun k x => ndk x, m, r.imp (fun z => z) fun ⟨dx, fs, z0, z1, z2, z3, z4⟩ => ⟨dx, fs, z0, z1, Dk.ne h z2 fun k x => ndk x, z3, Reps.lk hz h z4⟩⟩
theorem Reps.lk (hz : Dk kvs z) (h : ∀ o, G a = some o → Dk kvs o) : ∀ {ds : List D} {vs : List V}, Reps K mg G ds vs → Reps K mg (lk a z G) ds vs
  | [], _, r => r
  | _ :: _, _, ⟨v, r, e, q, t⟩ => ⟨v, r, e, Rep.lk hz h q, Reps.lk hz h t⟩
end
end
def Kd.noE : Kd → Bool
  | .E => false
  | .L k => k.noE
  | _ => true
abbrev lkc (a : Addr) (z : HO) (c : Cf) : Cf := ⟨c.K, c.mg, lk a z c.B, lk a z c.G0⟩
section
variable {c : Cf} {a : Addr} {z : HO} {G H : Hp} {kvs : List (Key × V)} {κ : List Kd} {en : List D} {σ : L2.St} {Ss : Nat → List Addr}
theorem RepK.lk (hz : Dk kvs z) (hG : ∀ o, G a = some o → Dk kvs o) (hB : ∀ o, c.B a = some o → Dk kvs o) : ∀ {k : Kd} {d : D} {v : V} {S : List Addr}, RepK c H G k d v S → k.noE = true → (∀ p ∈ S, p ≠ a) → RepK (lkc a z c) (lk a z H) (lk a z G) k d v S
  | .N, _, _, _, h, _, _ => h
  | .F, _, _, _, ⟨h, e⟩, _, _ => ⟨h.lk hz hG, e⟩
  | .B, _, _, _, ⟨h, e⟩, _, _ => ⟨h.lk hz hB, e⟩
  | .E, _, _, _, _, n, _ => nomatch n
  | .L k, _, _, _, ⟨p, vs, ds, S', e1, e2, hc, ha⟩, n, hS => by
    subst e1 e2
    have np := hS p List.mem_cons_self
    refine ⟨p, vs, ds, S', rfl, rfl, ?_, AllR.imp ha fun d v T hT h => RepK.lk hz hG hB h n fun q hq => hS q (List.mem_cons_of_mem _ (hT q hq))⟩
    cases hc with
    | lst h => exact .lst (by rw [lk_ne np]; exact h)
    | dK h => exact .dK (by rw [lk_ne np]; exact h)
  | .I p, _, _, _, ⟨C, dx, fs, cl, ns, ds, e1, e2, e3, h, m, n, r⟩, _, hS => by
    subst e1 e2
    exact ⟨C, dx, fs, cl, ns, ds, rfl, rfl, e3, by rw [lk_ne (hS p List.mem_cons_self)]; exact h, m, n, r.lk hz hG⟩
  | .T, _, _, _, ⟨p, v1, q, ws, d1, ds, e1, e2, e3, h1, r1, h2, r2⟩, _, hS => by
    subst e1 e2 e3
    exact ⟨p, v1, q, ws, d1, ds, rfl, rfl, rfl, by rw [lk_ne (hS p (by simp))]; exact h1, r1.lk hz hG, by rw [lk_ne (hS q (by simp))]; exact h2, r2.lk hz hG⟩
  | .K, _, _, _, ⟨⟨p, vs, ds, e1, e2, h, r⟩, e3⟩, _, _ => ⟨⟨p, vs, ds, e1, e2, Dk.ne hG h fun k x => ndk x, r.lk hz hG⟩, e3⟩
  | .Q, _, _, _, ⟨p, kv, ds, e1, e2, e3, h, r⟩, _, hS => by
    subst e1 e2 e3
    exact ⟨p, kv, ds, rfl, rfl, rfl, by rw [lk_ne (hS p List.mem_cons_self)]; exact h, r.lk hz hG⟩
theorem St.lk {w : HO} (st : St c κ en σ H G Ss) (hw : G a = some w) (dw : Dk kvs w) (hz : Dk kvs z) (n : κ.all Kd.noE = true) : St (lkc a z c) κ en σ (lk a z H) (lk a z G) Ss := by
  have hG : ∀ o, G a = some o → Dk kvs o := fun o e => by rw [hw] at e; cases e; exact dw
  have hH : H a = some w := st.sH _ _ hw
  have hB : ∀ o, c.B a = some o → Dk kvs o := fun o e => by
    have q := st.sB _ _ e
    rw [hH] at q; cases q; exact dw
  refine ⟨st.ln, fun i k hk hn => ?_, fun i p hp => ?_, st.nd, st.dis, lk_same st.sB, lk_same st.sG, lk_same st.sH, fun b o h => ?_⟩
  · obtain ⟨v, d, h1, h2, h3⟩ := st.slot i k hk hn
    exact ⟨v, d, h1, h2, h3.lk hz hG hB (List.all_eq_true.mp n _ (List.mem_of_getElem? hk)) fun p hp e => by
      have q := (st.own i p hp).1
      rw [e, hw] at q; cases q⟩
  · obtain ⟨h1, h2, o, h3⟩ := st.own i p hp
    have ne : p ≠ a := fun e => by rw [e, hw] at h1; cases h1
    exact ⟨lk_none h1, lk_none h2, o, by rw [lk_ne ne]; exact h3⟩
  · by_cases e : b = a
    · subst e
      rw [lk_at hw] at h
      cases h
      rcases st.new _ _ hw with q | q
      · exact .inl (lk_at q)
      · exact .inr (lk_none q)
    · rw [lk_ne e] at h
      rcases st.new _ _ h with q | q
      · exact .inl (by show Lw.lk a z c.G0 b = _; rw [lk_ne e]; exact q)
      · exact .inr (lk_none q)
end
/-! ### what is walked -/
def keyOk : D → Bool
  | .int _ => true
  | .str s => sOk s
  | _ => false
def itemsL (ks xs : List D) : List D := List.zipWith (fun k x => D.tup [k, x]) ks xs
def pItems : D → R (List D)
  | .dct ks xs => if ks.all keyOk = true then .ok (itemsL ks xs) else .bad
  | _ => .bad
theorem keyOk_rep {K : PySem.W.Frag} {mg : Str → Option Value} {G : Hp} {k : Key} (h : keyOk (kD k) = true) : Rep K mg G (kD k) (kV k) := by
  cases k with
  | inl i => exact rfl
  | inr s => exact ⟨rfl, h⟩
theorem walks_items {c : Cf} {G1 : Hp} {xs : List D} {a : Addr} {od : Obj} {kvs : List (Key × V)} (ha : G1 a = some (.frz od (.dK kvs))) (hk : (kvs.map fun p => kD p.1).all keyOk = true) (rs : Reps c.K c.mg G1 xs (kvs.map (·.2))) :
    Walks c .F (itemsL (kvs.map fun p => kD p.1) xs) (Iti a od kvs) G1 := fun H G s1 s2 s3 => by
  have hH : H a = some (.frz od (.dK kvs)) := s2 _ _ (s1 _ _ ha)
  have rG := rs.mono s1
  have hl := rs.length
  rw [List.length_map] at hl
  refine ⟨fun i hi => ⟨hH, ?_⟩, fun i d hd => ?_⟩
  · unfold itemsL at hi
    rw [List.length_zipWith, List.length_map, hl] at hi
    omega
  unfold itemsL at hd
  rw [List.getElem?_zipWith] at hd
  cases e1 : kvs[i]? with
  | none => rw [List.getElem?_map, e1] at hd; cases hd
  | some p =>
    rw [List.getElem?_map, e1] at hd
    cases e2 : xs[i]? with
    | none => rw [e2] at hd; cases hd
    | some x =>
      rw [e2] at hd
      cases hd
      obtain ⟨w, ew, rw'⟩ := rG.get e2
      rw [List.getElem?_map, e1] at ew
      cases ew
      refine ⟨⟨hH, (List.getElem?_eq_some_iff.mp e1).1⟩, fun v H' ⟨T, k, u, e3, ev, hT, eH⟩ => ?_⟩
      rw [e1] at e3
      cases e3
      subst ev eH
      have a1 := Adv.newF (o := .tup [kV k, u]) s2 hT
      have ok : keyOk (kD k) = true := List.all_eq_true.mp hk _ (List.mem_map.mpr ⟨(k, u), List.mem_of_getElem? e1, rfl⟩)
      exact ⟨_, a1, ⟨T, _, rfl, SqT.of upd_same, .cons (keyOk_rep ok) (.cons (rw'.mono a1.2.1) .nil)⟩, rfl⟩
/-- locked, if it isn't yet -/
def tLockO (t : TS) : TS := fun D σ H => L2.tLock t D σ H ∨ t D σ H
theorem ps_lockO {X : Cx} {st : Stmt} {t : TS} (h : PS X st t) : PS X st (tLockO t) := ⟨fun pins s σ H D I q => q.elim (fun q => (ps_lock h).run pins s σ H D I q) fun q => h.run pins s σ H D I q⟩
section
variable {α τ : Type} {X : Cx} {W : WX} {B G0 : Hp} {κ : List Kd} {en : List D} {δ : DE α} {pos : Pos} {rest body : List Stmt}
theorem sv_forIt {i : Nat} {d0 : D} {elts : List Expr} {kk : Nat} {tpos apos cpos : Pos} {x : Str} {px : Pos} {ρ : Type} {u : D → R ρ} {js : List Nat} {vs : ρ → List D} {ke : Kd} {f : ρ → τ → R τ} {g : τ → R α} (κL : List Kd) (vw : τ → List D) (t0 : τ)
    (p : PE X (.Name x px) (tVar i)) (ht : Tg X (.Tuple elts kk tpos) .F ρ u js vs ke) (h0 : Wk κ en κL (vw t0)) (hb : ∀ B G0 p t, SV X W B G0 (setK κL js ke) (setL (vw t) js (vs p)) body (δ.loop κL vw) (f p t)) (hr : ∀ t, SV X W B G0 κL (vw t) rest δ (g t))
    (hp : PassesOwn (model X.prog X.w) X.A X.env X.xe) (hk : κ[i]? = some .F := by rfl) (hd : en[i]? = some d0 := by rfl) (hn : κL.all Kd.noE = true := by rfl) (hc : X.calm = true := by rfl) (hj : ∀ j ∈ js, j < κL.length := by first | decide | simp)
    (hbase : attributeBase (.Name x px) "items" X.env (eval (.Name x px) X.env) = eval (.Name x px) X.env := by rfl) (hline : (apos.endLine == cpos.line) = true := by rfl)
    (hs : ∀ y, foldedSetIterable (.Call (.Attribute (.Name x px) "items" apos) [] [] cpos) X.env y = pure y := by intro _; rfl) :
    SV X W B G0 κ en (.For (.Tuple elts kk tpos) (.Call (.Attribute (.Name x px) "items" apos) [] [] cpos) body [] pos :: rest) δ ((pItems d0).bind fun xs => (rFor xs t0 fun x t => noX ((u x).bind fun p => f p t)).bind g) := by
  obtain ⟨hux, gt, pg, hgt⟩ := ht
  have hbody : PSs X body (fun Dn σ H => ∃ q : Hp × Hp × ρ × τ, tSV W ⟨X.K, X.mg, q.1, q.2.1⟩ (setK κL js ke) (setL (vw q.2.2.2) js (vs q.2.2.1)) (δ.loop κL vw) (f q.2.2.1 q.2.2.2) Dn σ H) := PSs.all fun q => (hb q.1 q.2.1 q.2.2.1 q.2.2.2).ps
  have hrest : PSs X rest (fun Dn σ H => ∃ t, tSV W (cf X B G0) κL (vw t) δ (g t) Dn σ H) := PSs.all fun t => (hr t).ps
  refine ⟨PSs.wk (pss_cons (ps_lockO (ps_for hp hc (pi_items p hbase hline) pg hbody hs)) hrest) fun Dn σ H ⟨G, Ss, st, m⟩ => ?_⟩
  obtain ⟨v, d, hv, he, hrep⟩ := st.slot i _ hk (fun z => nomatch z)
  rw [hd] at he
  cases he
  cases d0 with
  | dct ks xs =>
    obtain ⟨⟨a, ev, kvs, hR, ek, rs⟩, _⟩ := hrep
    subst ev ek
    by_cases hok : (kvs.map fun p => kD p.1).all keyOk = true
    · have m1 : mS W (cf X B G0) δ Dn ((rFor (itemsL (kvs.map fun p => kD p.1) xs) t0 fun x t => noX ((u x).bind fun p => f p t)).bind g) := by
        have m0 : mS W (cf X B G0) δ Dn ((if (kvs.map fun p => kD p.1).all keyOk = true then (.ok (itemsL (kvs.map fun p => kD p.1) xs) : R (List D)) else .bad).bind fun xs => (rFor xs t0 fun x t => noX ((u x).bind fun p => f p t)).bind g) := m
        rw [if_pos hok] at m0
        exact m0
      obtain ⟨w, hw, dw⟩ := Dk.of_rd hR
      have hHw : H a = some w := st.sH _ _ hw
      let its := itemsL (kvs.map fun p => kD p.1) xs
      have core : ∀ (od : Obj) (D' : L2.Ends), (∀ σ' H', H' a = some (.frz od (.dK kvs)) → (∃ t, tSV W (cf X B G0) κL (vw t) δ (g t) Dn σ' (upd H' a w)) → D'.nx σ' H') →
          tFor (iItems (tVar i)) gt (fun Dn σ H => ∃ q : Hp × Hp × ρ × τ, tSV W ⟨X.K, X.mg, q.1, q.2.1⟩ (setK κL js ke) (setL (vw q.2.2.2) js (vs q.2.2.1)) (δ.loop κL vw) (f q.2.2.1 q.2.2.2) Dn σ H) D' σ (lk a (.frz od (.dK kvs)) H) := by
        intro od D' hD
        have hz : Dk kvs (.frz od (.dK kvs)) := .inr ⟨od, rfl⟩
        have q1 : Same (cf X B G0).G0 G := st.sG
        have n1 := st.new
        have st0 := ((st.toG).weak h0).lk (z := .frz od (.dK kvs)) hw dw hz hn
        have hG : ∀ o, G a = some o → Dk kvs o := fun o e => by rw [hw] at e; cases e; exact dw
        have wk := walks_items (c := ⟨X.K, X.mg, lk a (.frz od (.dK kvs)) B, lk a (.frz od (.dK kvs)) G⟩) (G1 := lk a (.frz od (.dK kvs)) G) (a := a) (lk_at hw) hok (rs.lk hz hG)
        refine ⟨.ref a, hv, a, od, kvs, rfl, lk_at hHw, ?_⟩
        refine ⟨fun i mm σ H => i ≤ its.length ∧ mm = its.length - i ∧ ∃ t G2 Ss, St ⟨X.K, X.mg, lk a (.frz od (.dK kvs)) B, lk a (.frz od (.dK kvs)) G⟩ κL (vw t) σ H G2 Ss ∧ mS W (cf X B G0) δ Dn ((rFor (its.drop i) t fun x t => noX ((u x).bind fun p => f p t)).bind g),
          ⟨its.length, Nat.zero_le _, by simp, t0, _, Ss, st0, by simpa using m1⟩, ?_⟩
        rintro i mm σ2 H2 ⟨hi2, rfl, t, G2, Ss2, st2, m2⟩
        obtain ⟨wstop, wgo⟩ := wk H2 G2 st2.sG st2.sH st2.sB
        rcases Nat.lt_or_ge i its.length with hlt | hge
        · have hd : its[i]? = some its[i] := List.getElem?_eq_getElem hlt
          obtain ⟨jgo, jy⟩ := wgo i _ hd
          refine .inr ⟨jgo, fun σ' H' => i + 1 ≤ its.length ∧ ∃ t G2 Ss, St ⟨X.K, X.mg, lk a (.frz od (.dK kvs)) B, lk a (.frz od (.dK kvs)) G⟩ κL (vw t) σ' H' G2 Ss ∧ mS W (cf X B G0) δ Dn ((rFor (its.drop (i + 1)) t fun x t => noX ((u x).bind fun p => f p t)).bind g), fun σ' H' ⟨h1, z⟩ => ⟨its.length - (i + 1), by omega, h1, rfl, z⟩, fun x H' y => ?_⟩
          obtain ⟨G3, a3, rv3⟩ := jy x H' y
          have st3 := st2.adv a3
          rw [List.drop_eq_getElem_cons hlt] at m2
          have m3 : mS W (cf X B G0) δ Dn (((noX ((u its[i]).bind fun p => f p t)).bind fun t => rFor (its.drop (i + 1)) t fun x t => noX ((u x).bind fun p => f p t)).bind g) := m2
          cases eu : u its[i] with
          | bad => rw [eu] at m3; exact m3.elim
          | exc x => exact (hux _ _ eu).elim
          | ok p =>
            rw [eu] at m3
            have m4 : mS W (cf X B G0) δ Dn (((noX (f p t)).bind fun t => rFor (its.drop (i + 1)) t fun x t => noX ((u x).bind fun p => f p t)).bind g) := m3
            refine hgt _ _ κL (vw t) σ2 H' H2 G3 Ss2 its[i] x p _ st3 rv3 eu hj fun σ4 Ss4 _ st4 => ?_
            refine ⟨⟨_, _, p, t⟩, G3, Ss4, st4, ?_⟩
            cases ef : f p t with
            | bad => rw [ef] at m4; exact m4.elim
            | exc x => rw [ef] at m4; exact m4.elim
            | ok t' =>
              rw [ef] at m4
              have m5 : mS W (cf X B G0) δ Dn ((rFor (its.drop (i + 1)) t' fun x t => noX ((u x).bind fun p => f p t)).bind g) := m4
              exact ⟨fun κ en σ H G Ss st w => ⟨hlt, t', G, Ss, st.weak w, m5⟩, fun _ _ _ _ _ _ _ _ z => z.elim, fun _ _ _ _ _ _ _ z => z.elim, fun κ en σ H G Ss st w => ⟨hlt, t', G, Ss, st.weak w, m5⟩⟩
        · have e : i = its.length := by omega
          subst e
          rw [List.drop_length] at m2
          have m3 : mS W (cf X B G0) δ Dn (g t) := m2
          have hG2 : G2 a = some (.frz od (.dK kvs)) := st2.sG _ _ (lk_at hw)
          have hH2 : H2 a = some (.frz od (.dK kvs)) := st2.sH _ _ hG2
          refine .inl ⟨wstop _ (Nat.le_refl _), hD _ _ hH2 ⟨t, ?_⟩⟩
          have st5 := st2.lk (z := w) hG2 hz dw hn
          have eB : lk a w (lk a (.frz od (.dK kvs)) B) = B := lk_back fun o e => by
            have q := st.sB _ _ e
            rw [hHw] at q; cases q; rfl
          have eG : lk a w (lk a (.frz od (.dK kvs)) G) = G := lk_back fun o e => by rw [hw] at e; cases e; rfl
          have st6 : St ⟨X.K, X.mg, B, G⟩ κL (vw t) σ2 (lk a w H2) (lk a w G2) Ss2 := by
            have e1 : (lkc a w ⟨X.K, X.mg, lk a (.frz od (.dK kvs)) B, lk a (.frz od (.dK kvs)) G⟩ : Cf) = ⟨X.K, X.mg, B, G⟩ := by
              show (⟨X.K, X.mg, lk a w (lk a (.frz od (.dK kvs)) B), lk a w (lk a (.frz od (.dK kvs)) G)⟩ : Cf) = _
              rw [eB, eG]
            rw [← e1]
            exact st5
          rw [← lk_upd hH2]
          exact ⟨_, Ss2, st6.reG (c := cf X B G0) q1 n1, m3⟩
      rcases dw with e | ⟨od, e⟩
      · subst e
        refine .inl ⟨a, .dK kvs, hHw, trivial, fun od => ?_⟩
        rw [← lk_upd hHw]
        exact core od _ fun σ' H' e z => ⟨e, z⟩
      · subst e
        refine .inr ?_
        have eH : lk a (.frz od (.dK kvs)) H = H := by rw [lk_upd hHw]; funext b; by_cases e : b = a
                                                       · rw [e, upd_same, hHw]
                                                       · rw [upd_ne e]
        have z := core od { Dn with nx := fun σ H => ∃ t, tSV W (cf X B G0) κL (vw t) δ (g t) Dn σ H } fun σ' H' e z => by
          have e2 : upd H' a (.frz od (.dK kvs)) = H' := by
            funext b
            by_cases e3 : b = a
            · rw [e3, upd_same, e]
            · rw [upd_ne e3]
          rw [e2] at z
          exact z
        rw [eH] at z
        exact z
    · have m0 : mS W (cf X B G0) δ Dn ((if (kvs.map fun p => kD p.1).all keyOk = true then (.ok (itemsL (kvs.map fun p => kD p.1) xs) : R (List D)) else .bad).bind fun xs => (rFor xs t0 fun x t => noX ((u x).bind fun p => f p t)).bind g) := m
      rw [if_neg hok] at m0
      exact m0.elim
  | _ => exact m.elim
end
end Lw
namespace Lw
open PySem PySem.Spec PyProof.Rows L2
/-! ### sorted(d), the keys texts; d.pop(k) as a statement -/
theorem ltCps_eq : ∀ a b : List Nat, ltCps a b = decide (a < b)
  | [], [] => by simp [ltCps]
  | [], b :: t => by simp [ltCps]
  | a :: r, [] => by simp [ltCps]
  | a :: r, b :: t => by
    show (decide (a < b) || (a == b && ltCps r t)) = _
    rw [ltCps_eq r t]
    by_cases h1 : a < b
    · simp [h1, List.cons_lt_cons_iff]
    · by_cases h2 : a = b
      · subst h2
        simp [List.cons_lt_cons_iff]
      · simp [h1, h2, List.cons_lt_cons_iff]
def leS (a b : Str) : Bool := decide (a.cps.toList ≤ b.cps.toList)
theorem leS_tr (a b c : Str) (h : leS a b = true) (g : leS b c = true) : leS a c = true := decide_eq_true (List.le_trans (of_decide_eq_true h) (of_decide_eq_true g))
theorem leS_tot (a b : Str) : (leS a b || leS b a) = true := by
  rcases List.le_total a.cps.toList b.cps.toList with h | h
  · simp [leS, h]
  · simp [leS, h]
theorem leS_as (a b : Str) (h : leS a b = true) (g : leS b a = true) : a = b := by
  have e := List.le_antisymm (of_decide_eq_true h) (of_decide_eq_true g)
  obtain ⟨⟨a⟩⟩ := a
  obtain ⟨⟨b⟩⟩ := b
  have e2 : a = b := e
  rw [e2]
theorem rising_pw : ∀ (r : List Str) (p : Str), risingS p r = true → (∀ x ∈ r, leS p x = true) ∧ r.Pairwise (fun x y => leS x y = true)
  | [], _, _ => ⟨(fun x h => by cases h), List.Pairwise.nil⟩
  | x :: r, p, h => by
    obtain ⟨h1, h2⟩ := Bool.and_eq_true_iff.mp (show (!ltCps x.cps.toList p.cps.toList && risingS x r) = true from h)
    have h3 : leS p x = true := by
      rw [ltCps_eq] at h1
      have : ¬ x.cps.toList < p.cps.toList := by simpa using h1
      exact decide_eq_true (List.not_lt.mp this)
    obtain ⟨h4, h5⟩ := rising_pw r x h2
    refine ⟨fun y hy => ?_, .cons h4 h5⟩
    rcases List.mem_cons.mp hy with e | hy
    · rw [e]; exact h3
    · exact leS_tr _ _ _ h3 (h4 y hy)
def sortS (l : List Str) : List Str := l.mergeSort leS
theorem sortS_the {l ys : List Str} (hp : ys.Perm l) (hs : sortedS ys = true) : ys = sortS l := by
  refine PySem.W.Srt.the_of_perm leS leS_tr leS_tot leS_as hp ?_
  cases ys with
  | nil => exact .nil
  | cons x r => exact .cons (rising_pw r x hs).1 (rising_pw r x hs).2
theorem sortS_perm (l : List Str) : (sortS l).Perm l := List.mergeSort_perm l _
def pSortedD : List D → R D
  | [.dct ks _] => match toStrs ks with
    | some ss => if (decide (ss.length < 64) && ss.all sOk) = true then .ok (.lst ((sortS ss).map D.str)) else .bad
    | none => .bad
  | _ => .bad
def rSortedD (xs : List V) (H : Hp) (Q : VK) : Prop := ∃ (a : Addr) (kvs : List (Key × V)) (ks : List Str), xs = [.ref a] ∧ Rd H a (.dK kvs) ∧ kvs.map (·.1) = ks.map Sum.inr ∧ ks.length < 64 ∧
    ∀ ys p, ys.Perm ks → sortedS ys = true → H p = none → Q (.ref p) (upd H p (.lst (ys.map V.str)))
theorem cr_sortedD {X : Cx} (hcalm : X.calm = true) : CallR X (.builtin "sorted") rSortedD := call_sortedD hcalm
theorem keys_strs : ∀ {kvs : List (Key × V)} {ss : List Str}, toStrs (kvs.map fun q => kD q.1) = some ss → kvs.map (·.1) = ss.map Sum.inr
  | [], ss, h => by
    have e : some [] = some ss := h
    cases e
    rfl
  | (k, v) :: kvs, ss, h => by
    cases k with
    | inl i => cases h
    | inr s =>
      have h' : (toStrs (kvs.map fun q => kD q.1)).map (s :: ·) = some ss := h
      obtain ⟨zs, h1, rfl⟩ := Option.map_eq_some_iff.mp h'
      rw [List.map_cons, List.map_cons, keys_strs h1]
theorem strs_reps {K : PySem.W.Frag} {mg : Str → Option Value} {G : Hp} : ∀ {ys : List Str}, ys.all sOk = true → Reps K mg G (ys.map D.str) (ys.map V.str)
  | [], _ => .nil
  | y :: ys, h => by
    obtain ⟨h1, h2⟩ := Bool.and_eq_true_iff.mp (show (sOk y && ys.all sOk) = true from h)
    exact .cons (d := .str y) (v := .str y) ⟨rfl, h1⟩ (strs_reps h2)
section
variable {K : PySem.W.Frag} {mg : Str → Option Value}
theorem bf_sortedD : BfD K mg rSortedD [.B] (.O (.L .F)) pSortedD := by
  intro W B G0 κ en σ H G Ss Q ds vs st args m
  obtain ⟨d, v, rfl, rfl, r⟩ := args.one
  cases d with
  | dct ks xs =>
    obtain ⟨a, e, kvs, q, ek, rs⟩ := r
    subst e ek
    have m2 : mR W ⟨K, mg, B, G0⟩ σ H G (yV ⟨K, mg, B, G0⟩ H (.O (.L .F)) Q) (match toStrs (kvs.map fun q => kD q.1) with
      | some ss => if (decide (ss.length < 64) && ss.all sOk) = true then .ok (.lst ((sortS ss).map D.str)) else .bad
      | none => .bad) := m
    cases ei : toStrs (kvs.map fun q => kD q.1) with
    | none => rw [ei] at m2; exact m2.elim
    | some ss =>
      simp only [ei] at m2
      by_cases hc : (decide (ss.length < 64) && ss.all sOk) = true
      · rw [if_pos hc] at m2
        obtain ⟨h1, h2⟩ := Bool.and_eq_true_iff.mp hc
        refine ⟨a, kvs, ss, rfl, q, keys_strs ei, of_decide_eq_true h1, fun ys p hp hs hn => ?_⟩
        have e := sortS_the hp hs
        rw [← e] at m2
        have h3 : ys.all sOk = true := List.all_eq_true.mpr fun y hy => List.all_eq_true.mp h2 y (hp.mem_iff.mp hy)
        exact mk_list m2 st.sH (.refl _) (strs_reps h3) p hn
      · rw [if_neg hc] at m2
        exact m2.elim
  | _ => exact m.elim
end
/-! ### len(d) -/
def rLenD (xs : List V) (H : Hp) (Q : VK) : Prop := ∃ (a : Addr) (kvs : List (Key × V)), xs = [V.ref a] ∧ Rd H a (.dK kvs) ∧ Q (.int kvs.length) H
theorem cr_lenD {X : Cx} : CallR X (.builtin "len") rLenD := by
  intro pins s σ H xs us Q I r h
  obtain ⟨a, kvs, rfl, ha, q⟩ := h
  obtain ⟨u, rfl, ru⟩ := vals1 r
  cases ru
  exact d_len I ha fun t s' I' => ⟨.int kvs.length, H, I', ⟨t, rfl⟩, q⟩
def pLenD : List D → R D
  | [.dct ks _] => .ok (.int ks.length)
  | _ => .bad
theorem bf_lenD {K : PySem.W.Frag} {mg : Str → Option Value} : BfD K mg rLenD [.B] .F pLenD := by
  intro W B G0 κ en σ H G Ss Q ds vs st args m
  obtain ⟨d, v, rfl, rfl, r⟩ := args.one
  cases d with
  | dct ks xs =>
    obtain ⟨a, e, kvs, q, ek, rs⟩ := r
    subst e ek
    refine ⟨a, kvs, rfl, q, ?_⟩
    have m2 : mR W ⟨K, mg, B, G0⟩ σ H G (yV ⟨K, mg, B, G0⟩ H .F Q) (.ok (.int ((kvs.map fun q => kD q.1).length : Nat))) := m
    rw [List.length_map] at m2
    exact mR.int m2 st.sH
  | _ => exact m.elim
/-! ### d.pop(k) -/
def dDrop (ks xs : List D) (k : D) : D := .dct (((ks.zip xs).filter fun p => !keyEq p.1 k).map (·.1)) (((ks.zip xs).filter fun p => !keyEq p.1 k).map (·.2))
def pDpop (kx : List D × List D) (k : D) : R D := if isKey k && kx.1.any (fun z => keyEq z k) then .ok (dDrop kx.1 kx.2 k) else .bad
theorem dDrop_ok {K : PySem.W.Frag} {mg : Str → Option Value} {G : Hp} {k : Key} : ∀ {kvs : List (Key × V)} {xs : List D}, Reps K mg G xs (kvs.map (·.2)) →
    (((kvs.map fun q => kD q.1).zip xs).filter fun p => !keyEq p.1 (kD k)).map (·.1) = (dropK kvs k).map (fun q => kD q.1) ∧ Reps K mg G ((((kvs.map fun q => kD q.1).zip xs).filter fun p => !keyEq p.1 (kD k)).map (·.2)) ((dropK kvs k).map (·.2))
  | [], xs, r => by
    cases xs with
    | nil => exact ⟨rfl, .nil⟩
    | cons x xs =>
      have := r.length
      simp at this
  | p :: kvs, xs, r => by
    cases xs with
    | nil =>
      have := r.length
      simp at this
    | cons x xs =>
      obtain ⟨v, rr, e, h, q⟩ := r
      rw [List.map_cons] at e
      injection e with e1 e2
      subst e1 e2
      obtain ⟨i1, i2⟩ := dDrop_ok (k := k) q
      by_cases hk : p.1 = k
      · have e3 : dropK (p :: kvs) k = dropK kvs k := by
          unfold dropK
          rw [List.filter_cons_of_neg (by simp [hk])]
        rw [List.map_cons, List.zip_cons_cons, List.filter_cons_of_neg (by simp [keyEq_k, hk]), e3]
        exact ⟨i1, i2⟩
      · have e3 : dropK (p :: kvs) k = p :: dropK kvs k := by
          unfold dropK
          rw [List.filter_cons_of_pos (by simp [hk])]
        rw [List.map_cons, List.zip_cons_cons, List.filter_cons_of_pos (by simp [keyEq_k, hk]), e3, List.map_cons, List.map_cons, List.map_cons, List.map_cons]
        exact ⟨by rw [i1], .cons h i2⟩
theorem any_valV {k : Key} : ∀ {kvs : List (Key × V)}, (kvs.map fun q => kD q.1).any (fun z => keyEq z (kD k)) = true → ∃ v, valV kvs k = some v
  | p :: kvs, h => by
    by_cases e : p.1 = k
    · exact ⟨_, valV_pos e⟩
    · rw [List.map_cons, List.any_cons, keyEq_k, decide_eq_false e, Bool.false_or] at h
      obtain ⟨v, hv⟩ := any_valV h
      refine ⟨v, ?_⟩
      rw [← hv]
      simp [valV, List.find?_cons, e]
section
variable {α : Type} {X : Cx} {W : WX} {B G0 : Hp} {κ : List Kd} {en : List D} {δ : DE α} {pos : Pos} {rest : List Stmt} {d0 : D}
theorem sv_popD {i : Nat} {x : Str} {px ap cp : Pos} {ei : Expr} {ri : R D} {ki : RK} {f : D → R α} (p : PE X (.Name x px) (tVar i)) (hi : EV X W B G0 κ en ei ki ri) (hr : ∀ d, SV X W B G0 κ (en.set i d) rest δ (f d)) (hk : κ[i]? = some (.L .F) := by rfl) (hd : en[i]? = some d0 := by rfl)
    (hex : δ.ex κ en := by exact True.intro) (hs : swapsWith (.Call (.Attribute (.Name x px) "pop" ap) [ei] [] cp) none pos.line X.env = pure false := by rfl)
    (m : M1 X (.Name x px) "pop" ap ei cp := by exact ⟨rfl, rfl, rfl, rfl⟩) :
    SV X W B G0 κ en (.Expr (.Call (.Attribute (.Name x px) "pop" ap) [ei] [] cp) pos :: rest) δ ((toDct d0).bind fun kx => ri.bind fun j => (pDpop kx j).bind f) :=
  ⟨PSs.wk (pss_cons (ps_expr (pe_dpop1 p hi.pe m) hs) (PSs.all fun d => (hr d).ps)) fun Dn σ H ⟨G, Ss, st1, m1⟩ => by
    obtain ⟨p, vs, ds, hv, hS, hc, rs⟩ := st1.ownL hk hd
    cases d0 with
    | dct ks xs =>
      obtain ⟨kvs, hp, rfl, rfl, rfl⟩ := hc.dct
      refine ⟨_, hv, p, rfl, .inl ⟨kvs, .inl hp⟩, G, Ss, st1, mS.toR st1 (show mS W (cf X B G0) δ Dn (ri.bind fun j => (pDpop (kvs.map fun q => kD q.1, ds) j).bind f) from m1) hex fun j H2 G2 a2 st2 m2 w S2 rv2 => ?_⟩
      have hp2 := a2.1 _ _ hp
      have rj := st2.rd rv2
      have m3 : mS W (cf X B G0) δ Dn ((if isKey j && (kvs.map fun q => kD q.1).any (fun z => keyEq z j) then (.ok (dDrop (kvs.map fun q => kD q.1) ds j) : R D) else .bad).bind f) := m2
      by_cases hc : (isKey j && (kvs.map fun q => kD q.1).any (fun z => keyEq z j)) = true
      · rw [if_pos hc] at m3
        obtain ⟨h1, h2⟩ := Bool.and_eq_true_iff.mp hc
        obtain ⟨key, rfl, rfl⟩ := key_of_D rj h1
        obtain ⟨v0, hv0⟩ := any_valV h2
        obtain ⟨e1, e2⟩ := dDrop_ok (k := key) (rs.mono a2.2.1)
        refine ⟨kvs, key, v0, hp2, rfl, hv0, dDrop (kvs.map fun (q : Key × V) => kD q.1) ds (kD key), G2, Ss, ?_, (show mS W (cf X B G0) δ Dn (f (dDrop (kvs.map fun (q : Key × V) => kD q.1) ds (kD key))) from m3)⟩
        exact st2.put hk (by intro z; cases z) (by rw [hS]; exact List.mem_cons_self) hv (by
          rw [hS]
          unfold dDrop
          rw [e1]
          exact RepK.ofL (.dK upd_same) e2)
      · rw [if_neg hc] at m3
        exact m3.elim
    | _ => exact m1.elim⟩
end
end Lw
namespace Lw
open PySem PySem.Spec PyProof.Rows L2
/-! ### str(int), int(text), f-strings -/
def sStr (i : Int) : Str := toString i
def pStI (i : Int) : R D := if (decide (i.natAbs.log2 < 1920) && sOk (sStr i)) = true then .ok (.str (sStr i)) else .bad
def pStr : List D → R D
  | [.int i] => pStI i
  | _ => .bad
def pIntT : List D → R D
  | [.str s] => if (decide (s.length ≤ 640)) = true then (match intText? s with
    | some n => .ok (.int n)
    | none => .bad) else .bad
  | _ => .bad
section
variable {K : PySem.W.Frag} {mg : Str → Option Value}
theorem bf_str : BfD K mg (fun xs H Q => ∃ i, xs = [.int i] ∧ i.natAbs.log2 < 1920 ∧ Q (.str (toString i)) H) [.B] .F pStr := by
  intro W B G0 κ en σ H G Ss Q ds vs st args m
  obtain ⟨d, v, rfl, rfl, r⟩ := args.one
  cases d with
  | int i =>
    have m2 : mR W ⟨K, mg, B, G0⟩ σ H G (yV ⟨K, mg, B, G0⟩ H .F Q) (if (decide (i.natAbs.log2 < 1920) && sOk (sStr i)) = true then .ok (.str (sStr i)) else .bad) := m
    by_cases hc : (decide (i.natAbs.log2 < 1920) && sOk (sStr i)) = true
    · rw [if_pos hc] at m2
      obtain ⟨h1, h2⟩ := Bool.and_eq_true_iff.mp hc
      exact ⟨i, by rw [(show v = .int i from r)], of_decide_eq_true h1, m2 H G (.refl st.sH) (.str (sStr i)) [] ⟨⟨rfl, h2⟩, rfl⟩⟩
    · rw [if_neg hc] at m2
      exact m2.elim
  | _ => exact m.elim
theorem bf_intT : BfD K mg (fun xs H Q => ∃ a n, xs = [.str a] ∧ PySem.intText? a = some n ∧ a.length ≤ 640 ∧ Q (.int n) H) [.B] .F pIntT := by
  intro W B G0 κ en σ H G Ss Q ds vs st args m
  obtain ⟨d, v, rfl, rfl, r⟩ := args.one
  cases d with
  | str s =>
    have m2 : mR W ⟨K, mg, B, G0⟩ σ H G (yV ⟨K, mg, B, G0⟩ H .F Q) (if (decide (s.length ≤ 640)) = true then (match intText? s with
      | some n => .ok (.int n)
      | none => .bad) else .bad) := m
    by_cases hc : decide (s.length ≤ 640) = true
    · rw [if_pos hc] at m2
      cases e : intText? s with
      | none => rw [e] at m2; exact m2.elim
      | some n =>
        rw [e] at m2
        exact ⟨s, n, by rw [r.1], e, of_decide_eq_true hc, mR.int m2 st.sH⟩
    · rw [if_neg hc] at m2
      exact m2.elim
  | _ => exact m.elim
end
def pFmt : D → R D
  | .str s => .ok (.str s)
  | .int i => pStI i
  | _ => .bad
def pJs : List (R D) → Str → R D
  | [], acc => .ok (.str acc)
  | r :: rs, acc => r.bind fun d => match d with
    | .str y => if (decide (acc.length + y.length ≤ 16777216)) = true then pJs rs (acc ++ y) else .bad
    | _ => .bad
section
variable {X : Cx} {W : WX} {B G0 : Hp} {κ : List Kd} {en : List D} {e : Expr} {es : List Expr} {k : RK} {r : R D} {rs : List (R D)} {pos : Pos}
theorem ev_fmt (h : EV X W B G0 κ en e k r) : EV X W B G0 κ en (.FormattedValue e (-1) none pos) .F (r.bind pFmt) :=
  ⟨PE.wk (pe_fmt h.pe) fun σ H Q ⟨G, Ss, st, m⟩ => tEVb st m _ fun d v H1 G1 S _ a1 st1 rv m1 => by
    have rd := st1.rd rv
    cases d with
    | str s =>
      have m2 : mR W (cf X B G0) σ H1 G1 (yV (cf X B G0) H1 .F Q) (.ok (.str s)) := m1
      obtain ⟨ev, ok⟩ := rd
      subst ev
      exact .inl ⟨s, rfl, by rw [sizeLine_eq]; exact sOk_len ok, m2 H1 G1 (.refl st1.sH) (.str s) [] ⟨⟨rfl, ok⟩, rfl⟩⟩
    | int i =>
      have m2 : mR W (cf X B G0) σ H1 G1 (yV (cf X B G0) H1 .F Q) (if (decide (i.natAbs.log2 < 1920) && sOk (sStr i)) = true then .ok (.str (sStr i)) else .bad) := m1
      by_cases hc : (decide (i.natAbs.log2 < 1920) && sOk (sStr i)) = true
      · rw [if_pos hc] at m2
        obtain ⟨h1, h2⟩ := Bool.and_eq_true_iff.mp hc
        exact .inr ⟨i, rd, of_decide_eq_true h1, m2 H1 G1 (.refl st1.sH) (.str (sStr i)) [] ⟨⟨rfl, h2⟩, rfl⟩⟩
      · rw [if_neg hc] at m2
        exact m2.elim
    | _ => exact m1.elim⟩
/-- an f-string's parts -/
structure EJ (X : Cx) (W : WX) (B G0 : Hp) (κ : List Kd) (en : List D) (es : List Expr) (rs : List (R D)) : Prop where
  pj : PJ X es (rs.map fun r => tEV W (cf X B G0) κ en .F r)
theorem ej_nil : EJ X W B G0 κ en [] [] := ⟨.nil⟩
theorem ej_cons (h : EV X W B G0 κ en e .F r) (q : EJ X W B G0 κ en es rs) : EJ X W B G0 κ en (e :: es) (r :: rs) := ⟨.cons h.pe q.pj⟩
theorem tjs_of {σ : L2.St} {Q : VK} : ∀ (rs : List (R D)) (acc : Str) (H G : Hp) (Ss : Nat → List Addr), sOk acc = true → St (cf X B G0) κ en σ H G Ss → mR W (cf X B G0) σ H G (yV (cf X B G0) H .F Q) (pJs rs acc) →
    tJs (rs.map fun r => tEV W (cf X B G0) κ en .F r) acc σ H fun out H1 => Q (.str out) H1
  | [], acc, H, G, Ss, ok, st, m => (show mR W (cf X B G0) σ H G (yV (cf X B G0) H .F Q) (.ok (.str acc)) from m) H G (.refl st.sH) (.str acc) [] ⟨⟨rfl, ok⟩, rfl⟩
  | r :: rs, acc, H, G, Ss, ok, st, m => tEVb st (show mR W (cf X B G0) σ H G (yV (cf X B G0) H .F Q) (r.bind fun d => match d with
      | .str y => if (decide (acc.length + y.length ≤ 16777216)) = true then pJs rs (acc ++ y) else .bad
      | _ => .bad) from m) _ fun d v H1 G1 S _ a1 st1 rv m1 => by
    have rd := st1.rd rv
    cases d with
    | str y =>
      have m2 : mR W (cf X B G0) σ H1 G1 (yV (cf X B G0) H1 .F Q) (if (decide (acc.length + y.length ≤ 16777216)) = true then pJs rs (acc ++ y) else .bad) := m1
      obtain ⟨ev, oy⟩ := rd
      subst ev
      by_cases hc : decide (acc.length + y.length ≤ 16777216) = true
      · rw [if_pos hc] at m2
        have ho := sOk_append ok oy (of_decide_eq_true hc)
        exact ⟨y, rfl, by rw [sizeLine_eq]; exact sOk_len ho, tjs_of rs (acc ++ y) H1 G1 Ss ho st1 m2⟩
      · rw [if_neg hc] at m2
        exact m2.elim
    | _ => exact m1.elim
theorem ev_joined {v1 v2 : Expr} {rest : List Expr} (h : EJ X W B G0 κ en (v1 :: v2 :: rest) rs) : EV X W B G0 κ en (.JoinedStr (v1 :: v2 :: rest) pos) .F (pJs rs Str.empty) :=
  ⟨PE.wk (pe_joined h.pj) fun σ H Q ⟨G, Ss, st, m⟩ => tjs_of rs Str.empty H G Ss (by decide +kernel) st m⟩
end
end Lw
/-! what stands behind the program's top, read by a hook of our own: no more of the heap than is asked -/
namespace Lw
open PySem PySem.Spec PyProof.Rows L2
def refsOf (g : Addr → Option Obj) (f : Obj → List Addr) (as : List Addr) : List Addr := as.flatMap fun a => match g a with
  | some o => f o
  | none => []
def dictRefs (o : Obj) : List Addr := match o.data with
  | .dict es _ => es.toList.flatMap fun e => He.refV e.val
  | _ => []
def nextRefs (o : Obj) : List Addr := match o.data with
  | .func fd => He.refV fd.code ++ He.refV fd.defaults
  | .cls cd => [cd.ns]
  | _ => []
/-- the globals' dict, what it holds, functions' codes and classes' dicts, methods, their codes -/
def asL (g : Addr → Option Obj) : List Addr :=
  let a1 := refsOf g dictRefs [mainGlobals]
  let a2 := refsOf g nextRefs a1
  let a3 := refsOf g dictRefs a2
  mainGlobals :: PySem.cStatics :: (a1 ++ (a2 ++ (a3 ++ refsOf g nextRefs a3)))
abbrev AlL : Type := He.AlD × Bool
def obsL (fa : List He.Fa) (fn : List He.DefD) (ex : PySem.W.Frag → Bool) (K : PySem.W.Frag) : AlL := (He.obsD fa fn K, ex K)
def obsLG (fa : List He.Fa) (fn : List He.DefD) (ex : PySem.W.Frag → Bool) (g : Addr → Option Obj) : AlL := obsL fa fn ex (He.frG g (asL g))
structure SaysL (fa : List He.Fa) (fn : List He.DefD) (ex : PySem.W.Frag → Bool) (K : PySem.W.Frag) : Prop where
  d : He.SaysD fa fn K
  x : ex K = true
def hookL (fa : List He.Fa) (fn : List He.DefD) (ex : PySem.W.Frag → Bool) : PySem.W.Hook where
  α := AlL
  obs := fun s => obsLG fa fn ex s.heap.get?
  val := fun _ => (He.valD fn, true)
  says := fun _ h => ∃ K : PySem.W.Frag, K.In h ∧ SaysL fa fn ex K
  of := fun _ _ e => ⟨_, He.frG_in, congrArg (fun z : AlL => z.1) e, congrArg (fun z : AlL => z.2) e⟩
  keeps := fun _ _ _ ⟨K, hK, c⟩ k => ⟨K, PySem.W.Frag.In.keeps hK k, c⟩
theorem obsLG_eq {fa : List He.Fa} {fn : List He.DefD} {ex : PySem.W.Frag → Bool} {g : Addr → Option Obj} {s : Shared} (h : ∀ a, g a = s.heap.get? a) : obsLG fa fn ex g = (hookL fa fn ex).obs s := by
  have e : g = s.heap.get? := funext h
  rw [e] <;> rfl
/-- what isinstance asks of a class's instances, of its exceptions -/
def insB (K : PySem.W.Frag) (x : Str) : Bool := (He.Fa.cls x).ok K && (He.eqO (PySem.W.findIn K (.ref (He.ga K x)) "__class__") (some (some (.builtin "object.__class__"))) &&
  (He.eqO (PySem.W.specialIn K (.builtin "object.__class__") "__get__") (some (some (.builtin "getset_descriptor.__get__"))) && (decide (PySem.W.takesIn K (.builtin "object.__class__") = some true) && decide (PySem.W.mroIn K (He.ga K x) (.type "object") = some true))))
theorem insB_ok {K : PySem.W.Frag} {x : Str} (c : insB K x = true) : InsC K (He.ga K x) := by
  obtain ⟨c1, c⟩ := He.ba c
  obtain ⟨c2, c⟩ := He.ba c
  obtain ⟨c3, c⟩ := He.ba c
  obtain ⟨c4, c5⟩ := He.ba c
  exact ⟨He.cls_ok c1, He.eqO_ok c2, He.eqO_ok c3, of_decide_eq_true c4, of_decide_eq_true c5⟩
def excB (K : PySem.W.Frag) (x : Str) : Bool := He.eqO (PySem.W.findIn K (.ref (He.ga K x)) "__getattribute__") (some (some (.builtin "BaseException.__getattribute__"))) && (He.eqO (PySem.W.findIn K (.ref (He.ga K x)) "__getattr__") (some none) &&
  (decide (PySem.W.subIn K (.ref (He.ga K x)) (.type "BaseException") = some true) && (PySem.W.hasDictIn K (He.ga K x) && (He.eqO (PySem.W.findIn K (.ref (He.ga K x)) "__class__") (some (some (.builtin "object.__class__"))) &&
  (He.eqO (PySem.W.specialIn K (.builtin "object.__class__") "__get__") (some (some (.builtin "getset_descriptor.__get__"))) && (decide (PySem.W.takesIn K (.builtin "object.__class__") = some true) && decide (PySem.W.mroIn K (He.ga K x) (.type "object") = some true)))))))
theorem excB_ok {K : PySem.W.Frag} {x : Str} (c : excB K x = true) : ExcC K (He.ga K x) := by
  obtain ⟨c1, c⟩ := He.ba c
  obtain ⟨c2, c⟩ := He.ba c
  obtain ⟨c3, c⟩ := He.ba c
  obtain ⟨c4, c⟩ := He.ba c
  obtain ⟨c5, c⟩ := He.ba c
  obtain ⟨c6, c⟩ := He.ba c
  obtain ⟨c7, c8⟩ := He.ba c
  exact ⟨He.eqO_ok c1, He.eqO_ok c2, of_decide_eq_true c3, c4, He.eqO_ok c5, He.eqO_ok c6, of_decide_eq_true c7, of_decide_eq_true c8⟩
/-- a class that is made without arguments -/
def mk0B (K : PySem.W.Frag) (x : Str) : Bool := PySem.W.makesIn K (He.ga K x) && (He.eqO (PySem.W.findIn K (.ref (He.ga K x)) "__init__") (some (some (.builtin "object.__init__"))) && PySem.W.keepIn K (.ref (He.ga K x)))
theorem mk0B_ok {K : PySem.W.Frag} {h : Heap} {mg : Str → Option Value} (X : K.In h) (G : h.Ns mainGlobals mg) {x : Str} (g : (He.Fa.glo x).ok K = true) (c : mk0B K x = true) : MkD K mg x := by
  obtain ⟨c1, c⟩ := He.ba c
  obtain ⟨c2, c3⟩ := He.ba c
  exact ⟨_, He.glo_ok X G g, c1, He.eqO_ok c2, c3⟩
theorem exc_ok {K : PySem.W.Frag} {h : Heap} {mg : Str → Option Value} (X : K.In h) (G : h.Ns mainGlobals mg) {x : Str} (g : (He.Fa.glo x).ok K = true) (c : (He.Fa.exc x).ok K = true) : ExD K mg x := by
  obtain ⟨c1, c2, c3, c4⟩ := He.exc_ok c
  exact ⟨_, He.glo_ok X G g, c1, c2, c3, c4⟩
/-- facts beyond the kit's own -/
inductive Ck where
  | mk0 (x : Str)
  | isI (y : Str) (T : List (Str × Bool))
  | isE (y : Str) (T : List (Str × Bool))
  | isB (y : String) (T : List (Str × Bool))
  | cat (y : Str) (T : List Str)
  | leb (x : Str)
  | oex (x : Str)
  | xfd (x f : Str)
def lebB (K : PySem.W.Frag) (x : Str) : Bool := He.eqO (PySem.W.specialIn K (.ref (He.ga K x)) "__getattribute__") (some (some (.builtin "type.__getattribute__"))) && (PySem.W.readsIn K (He.ga K x) (.type "type") && (match PySem.W.findCls K (.ref (He.ga K x)) (.type "type") "__init__" with
  | some (.val v) => decide (v = .builtin "ValueError.__init__")
  | _ => false))
theorem lebB_ok {K : PySem.W.Frag} {h : Heap} {mg : Str → Option Value} (X : K.In h) (G : h.Ns mainGlobals mg) {x : Str} (g : (He.Fa.glo x).ok K = true) (c : lebB K x = true) : LbC K mg x := by
  obtain ⟨c1, c⟩ := He.ba c
  obtain ⟨c2, c3⟩ := He.ba c
  refine ⟨_, He.glo_ok X G g, He.eqO_ok c1, c2, ?_⟩
  split at c3
  · rename_i v e
    rw [e, of_decide_eq_true c3]
  · cases c3
def oexB (K : PySem.W.Frag) (C : Addr) : Bool := match K.lookup C with
  | some ⟨.type "type", _, .cls cd, sl⟩ => (match cd.mro, sl.toList with
    | .ref C' :: bm, [_, _, _, _, some (.builtin n), _] => decide (C' = C) && (decide (n = "ValueError.__new__") && (cd.hasDict && (!cd.hasDel && PySem.HandSPX.refsVE bm)))
    | _, _ => false)
  | _ => false
theorem oexB_ok {K : PySem.W.Frag} {C : Addr} (q : oexB K C = true) : ∃ nm q N bs bm sn sub ab col dd k0 k1 k2 k3 k5, K.lookup C = some (excClassObj nm q C N bs bm true sn sub ab col dd k0 k1 k2 k3 k5 "ValueError.__new__") ∧ PySem.HandSPX.refsVE bm = true := by
  unfold oexB at q
  split at q
  · rename_i dd cd sl ho
    split at q
    · rename_i C' bm k0 k1 k2 k3 n k5 hm hs
      obtain ⟨q1, q⟩ := He.ba q
      obtain ⟨q2, q⟩ := He.ba q
      obtain ⟨q3, q⟩ := He.ba q
      obtain ⟨q4, q5⟩ := He.ba q
      have q1 := of_decide_eq_true q1
      have q2 := of_decide_eq_true q2
      obtain ⟨nm, bs, mro, ns, qn, hd, sn, sub, ab, col, del⟩ := cd
      dsimp only at hm q3 q4
      have q4 : del = false := by simpa using q4
      subst hm q1 q2 q3 q4
      have hsl : sl = #[k0, k1, k2, k3, some (.builtin "ValueError.__new__"), k5] := by
        obtain ⟨l⟩ := sl
        simp only at hs
        rw [hs]
      subst hsl
      exact ⟨nm, qn, ns, bs, bm, sn, sub, ab, col, dd, k0, k1, k2, k3, k5, ho, q5⟩
    · cases q
  · cases q
def oexA (K : PySem.W.Frag) (x : Str) : Bool := oexB K (He.ga K x) && (He.eqO (PySem.W.findIn K (.ref (He.ga K x)) "__setattr__") (some (some (.builtin "object.__setattr__"))) && (decide (PySem.W.subIn K (.ref (He.ga K x)) (.type "BaseException") = some true) && (decide (PySem.W.typeIn K (.ref (He.ga K x)) = some (.type "type")) && PySem.W.keepIn K (.ref (He.ga K x)))))
theorem oexA_ok {K : PySem.W.Frag} {x : Str} (c : oexA K x = true) : OexC K (He.ga K x) := by
  obtain ⟨c1, c⟩ := He.ba c
  obtain ⟨c2, c⟩ := He.ba c
  obtain ⟨c3, c⟩ := He.ba c
  obtain ⟨c4, c5⟩ := He.ba c
  exact ⟨oexB_ok c1, He.eqO_ok c2, of_decide_eq_true c3, of_decide_eq_true c4, c5⟩
def kitB (K : PySem.W.Frag) (u : Value) (x : Str) (b : Bool) : Bool := decide (PySem.W.kitOne K (.ref (He.ga K x)) u = some b)
def Ck.ok (K : PySem.W.Frag) : Ck → Bool
  | .mk0 x => (He.Fa.glo x).ok K && mk0B K x
  | .isI y T => (He.Fa.glo y).ok K && T.all fun t => (He.Fa.glo t.1).ok K && (insB K t.1 && kitB K (.ref (He.ga K y)) t.1 t.2)
  | .isE y T => (He.Fa.glo y).ok K && T.all fun t => (He.Fa.glo t.1).ok K && (excB K t.1 && kitB K (.ref (He.ga K y)) t.1 t.2)
  | .isB y T => T.all fun t => (He.Fa.glo t.1).ok K && (excB K t.1 && kitB K (.type y) t.1 t.2)
  | .cat y T => (He.Fa.glo y).ok K && T.all fun t => (He.Fa.glo t).ok K && decide (PySem.W.exmOne K (.ref (He.ga K t)) (.ref (He.ga K y)) = some true)
  | .leb x => (He.Fa.glo x).ok K && lebB K x
  | .oex x => oexA K x
  | .xfd x f => (He.Fa.glo x).ok K && (xfB K (He.ga K x) && (He.Fa.noat x f).ok K)
section
variable {K : PySem.W.Frag} {h : Heap} {mg : Str → Option Value} (X : K.In h) (G : h.Ns mainGlobals mg)
include X G
theorem Ck.mk0_ok {x : Str} (c : (Ck.mk0 x).ok K = true) : MkD K mg x := mk0B_ok X G (He.ba c).1 (He.ba c).2
theorem Ck.isI_ok {y : Str} {T : List (Str × Bool)} (c : (Ck.isI y T).ok K = true) : IsIO K mg y T := by
  obtain ⟨c1, c2⟩ := He.ba c
  refine ⟨_, He.glo_ok X G c1, fun t ht => ?_⟩
  obtain ⟨c3, c4⟩ := He.ba (List.all_eq_true.mp c2 t ht)
  obtain ⟨c4, c5⟩ := He.ba c4
  exact ⟨_, He.glo_ok X G c3, of_decide_eq_true c5, insB_ok c4⟩
theorem Ck.isE_ok {y : Str} {T : List (Str × Bool)} (c : (Ck.isE y T).ok K = true) : IsEO K mg y T := by
  obtain ⟨c1, c2⟩ := He.ba c
  refine ⟨_, He.glo_ok X G c1, fun t ht => ?_⟩
  obtain ⟨c3, c4⟩ := He.ba (List.all_eq_true.mp c2 t ht)
  obtain ⟨c4, c5⟩ := He.ba c4
  exact ⟨_, He.glo_ok X G c3, of_decide_eq_true c5, excB_ok c4⟩
theorem Ck.isB_ok {y : String} {T : List (Str × Bool)} (c : (Ck.isB y T).ok K = true) : IsEB K mg y T := by
  intro t ht
  obtain ⟨c3, c4⟩ := He.ba (List.all_eq_true.mp (show (T.all fun t => (He.Fa.glo t.1).ok K && (excB K t.1 && kitB K (.type y) t.1 t.2)) = true from c) t ht)
  obtain ⟨c4, c5⟩ := He.ba c4
  exact ⟨_, He.glo_ok X G c3, of_decide_eq_true c5, excB_ok c4⟩
theorem Ck.cat_ok {y : Str} {T : List Str} (c : (Ck.cat y T).ok K = true) : CatO K mg y T := by
  obtain ⟨c1, c2⟩ := He.ba c
  refine ⟨_, He.glo_ok X G c1, fun t ht => ?_⟩
  obtain ⟨c3, c4⟩ := He.ba (List.all_eq_true.mp c2 t ht)
  exact ⟨_, He.glo_ok X G c3, of_decide_eq_true c4⟩
theorem Ck.leb_ok {x : Str} (c : (Ck.leb x).ok K = true) : LbC K mg x := lebB_ok X G (He.ba c).1 (He.ba c).2
omit X G in
theorem Ck.oex_ok {x : Str} (c : (Ck.oex x).ok K = true) : OexC K (He.ga K x) := oexA_ok c
theorem Ck.xfd_ok {x f : Str} (c : (Ck.xfd x f).ok K = true) : XfD K mg x f := by
  obtain ⟨c1, c⟩ := He.ba c
  obtain ⟨c2, c3⟩ := He.ba c
  exact ⟨_, He.glo_ok X G c1, xfB_ok c2, He.eqO_ok c3⟩
end
theorem SaysL.ck {fa : List He.Fa} {fn : List He.DefD} {cks : List Ck} {K : PySem.W.Frag} (c : SaysL fa fn (fun K => cks.all fun c => c.ok K) K) (i : Nat) {f : Ck} (h : cks[i]? = some f := by rfl) : f.ok K = true := List.all_eq_true.mp c.x f (List.mem_of_getElem? h)
theorem SaysL.fa {fa : List He.Fa} {fn : List He.DefD} {ex : PySem.W.Frag → Bool} {K : PySem.W.Frag} (c : SaysL fa fn ex K) (i : Nat) {f : He.Fa} (h : fa[i]? = some f := by rfl) : f.ok K = true := c.d.fact i h
theorem SaysL.fn {fa : List He.Fa} {fn : List He.DefD} {ex : PySem.W.Frag → Bool} {K : PySem.W.Frag} (c : SaysL fa fn ex K) (i : Nat) {d : He.DefD} (h : fn[i]? = some d := by rfl) : ∃ fd, FunD K d.name d.qual d.params d.body d.scope (d.dvs K) (d.kws K) (He.fAd K d.at_) fd := c.d.def_ i h
/-- the script is a list of ints: what the law gives of it -/
theorem law_sp {K : PySem.W.Frag} {mg : Str → Option Value} {f : List D → R D} {a : Addr} {ns : List Int} {H : Hp} (hS : SqL K H a (ns.map V.int)) (hf : f [.scr (ns.map D.int)] = .ok (.bl true)) : spF K mg f [.F] .F [.ref a] H (fun v _ => v = .bl true) fun _ _ _ => False := by
  have rs : ∀ l : List Int, Reps K mg H (l.map D.int) (l.map V.int) := by
    intro l
    induction l with
    | nil => exact .nil
    | cons x l ih => exact .cons (d := .int x) (v := .int x) rfl ih
  refine ⟨H, [.scr (ns.map D.int)], .refl _, ⟨⟨a, ns.map V.int, rfl, hS, rs ns⟩, trivial⟩, ?_⟩
  rw [hf]
  exact fun H' G' a v S q => q.1
/-- the end of a law's row: the law's own def, what it gives -/
theorem walk_end {l : PySem.W.OpenLaw} {k : Nat} {q : Program} {loose : List Str} {XP : (Str → Option Value) → Heap → Prop} {YP : World → Heap → Prop} {d : DefRec} {x : Str} (hn : l.most = some 63) (hdf : d.params.defaults = []) (hr : Room k callerA)
    (F : ∀ (w : World) (mg : Str → Option Value) (fa : Addr) (h : Heap), YP w h → h.Ns mainGlobals mg → mg d.name = some (.ref fa) →
      ∃ (K : PySem.W.Frag) (f : List D → R D) (fa' : Addr) (fd : FuncData), K.In h ∧ fa' = fa ∧ (∀ (s : Shared) (u : Value), BindsTo s fd ⟨[u], []⟩ [(x, u)]) ∧ (∀ base : Heap, FnOk l.prog w K mg base (L2.CX l.prog w) k fa' fd [x] (spF K mg f [.F] .F)) ∧
        ∀ ns : List Int, ns.length ≤ 63 → (∀ n ∈ ns, Builtin.Int.intBits n ≤ 1048576) → f [.scr (ns.map D.int)] = .ok (.bl true)) :
    PySem.W.WalkO q loose XP YP l.row.toRowW d [] (fun f vs => PySem.call f vs) := by
  refine Att.attach_callB hn hdf fun w s₀ s₁ mg mb fa o pm cd doc a vs ns G Y ho hd hcd hmg hobj hints hlen hbits hg => ?_
  obtain ⟨K, f, fa', fd, KX, e, hb, hF, hf⟩ := F w mg fa _ Y G.T.g hmg
  subst e
  exact law_call KX G.T.g G.T.b G.T.builtins G.T.nolimit hg hobj hints (Nat.le_trans hlen (by decide)) hr (fun base _ _ => hF base) hb (fun H hO hS => law_sp hS (hf ns hlen hbits)) fun H e s' z => by
    obtain ⟨_, _, _, _, z⟩ := z
    simp at z
theorem same_fa {mg : Str → Option Value} {n m : Str} {fa fb : Addr} (hn : n = m) (hg : mg n = some (.ref fa)) (e : mg m = some (.ref fb)) : fb = fa := by
  subst hn
  rw [hg] at e
  injection e with e
  injection e with e
  exact e.symm
end Lw
/-! what the operators give, as rewriting rules -/
namespace Lw
open PySem PySem.Spec PyProof.Rows L2
section
variable {a b : Int} {xs : List D} {d e : D} {r : R D}
@[simp] theorem pAdd_ii : pAdd (.int a) (.int b) = .ok (.int (a + b)) := Eq.trans rfl rfl
@[simp] theorem pSub_ii : pSub (.int a) (.int b) = .ok (.int (a - b)) := Eq.trans rfl rfl
@[simp] theorem pLt_ii : pLt (.int a) (.int b) = .ok (.bl (decide (a < b))) := Eq.trans rfl rfl
@[simp] theorem pLe_ii : pLe (.int a) (.int b) = .ok (.bl (decide (a ≤ b))) := Eq.trans rfl rfl
@[simp] theorem pGt_ii : pGt (.int a) (.int b) = .ok (.bl (decide (b < a))) := Eq.trans rfl rfl
@[simp] theorem pGe_ii : pGe (.int a) (.int b) = .ok (.bl (decide (b ≤ a))) := Eq.trans rfl rfl
@[simp] theorem pNeg_i : pNeg (.int a) = .ok (.int (-a)) := Eq.trans rfl rfl
@[simp] theorem pMod_ii (h : 0 < b) : pMod (.int a) (.int b) = .ok (.int (a % b)) := by
  show (if 0 < b then _ else _) = _
  rw [if_pos h]
def divOk (b : Int) : Bool := decide (0 < b ∧ b.natAbs.log2 < 9000)
theorem pDiv_ii (h : divOk b = true) : pDiv (.int a) (.int b) = .ok (.int (a / b)) := by
  show (if 0 < b ∧ b.natAbs.log2 < 9000 then _ else _) = _
  rw [if_pos (of_decide_eq_true h)]
theorem pMul_ii (h : mulOk a b = true) : pMul (.int a) (.int b) = .ok (.int (a * b)) := by
  show (if mulOk a b = true then _ else _) = _
  rw [if_pos h]
def powOk (a b : Int) : Bool := decide (0 ≤ b ∧ b ≤ 1000000 ∧ a.natAbs < 2 ^ 64)
theorem pPow_ii (h : powOk a b = true) : pPow (.int a) (.int b) = .ok (.int (a ^ b.toNat)) := by
  show (if 0 ≤ b ∧ b ≤ 1000000 ∧ a.natAbs < 2 ^ 64 then _ else _) = _
  rw [if_pos (of_decide_eq_true h)]
@[simp] theorem toB_bl {c : Bool} : toB (.bl c) = .ok c := Eq.trans rfl rfl
@[simp] theorem notV_bl {c : Bool} : notV (.bl c) = .ok (.bl !c) := Eq.trans rfl rfl
@[simp] theorem andT_t {q : R Bool} : andT (.ok true) q = q := Eq.trans rfl rfl
@[simp] theorem andT_f {q : R Bool} : andT (.ok false) q = .ok false := Eq.trans rfl rfl
@[simp] theorem orT_t {q : R Bool} : orT (.ok true) q = .ok true := Eq.trans rfl rfl
@[simp] theorem orT_f {q : R Bool} : orT (.ok false) q = q := Eq.trans rfl rfl
theorem andT_ok {c c2 : Bool} : andT (.ok c) (.ok c2) = .ok (c && c2) := by cases c <;> rfl
theorem orT_ok {c c2 : Bool} : orT (.ok c) (.ok c2) = .ok (c || c2) := by cases c <;> rfl
@[simp] theorem notT_ok {c : Bool} : notT (.ok c) = .ok (!c) := Eq.trans rfl rfl
@[simp] theorem andV_t {q : R D} : andV (.ok (.bl true)) q = q := Eq.trans rfl rfl
@[simp] theorem andV_f {q : R D} : andV (.ok (.bl false)) q = .ok (.bl false) := Eq.trans rfl rfl
@[simp] theorem orV_t {q : R D} : orV (.ok (.bl true)) q = .ok (.bl true) := Eq.trans rfl rfl
@[simp] theorem orV_f {q : R D} : orV (.ok (.bl false)) q = q := Eq.trans rfl rfl
theorem andV_ok {c c2 : Bool} : andV (.ok (.bl c)) (.ok (.bl c2)) = .ok (.bl (c && c2)) := by cases c <;> rfl
@[simp] theorem pEq_ii : pEq (.int a) (.int b) = .ok (.bl (a == b)) := by
  show (if pl (.int a) 20 && pl (.int b) 20 then _ else _) = _
  simp [pl, deq]
@[simp] theorem pNe_ii : pNe (.int a) (.int b) = .ok (.bl (!(a == b))) := by
  show (if pl (.int a) 20 && pl (.int b) 20 then _ else _) = _
  simp [pl, deq]
@[simp] theorem pEq_ss {x y : Str} : pEq (.str x) (.str y) = .ok (.bl (x == y)) := by
  show (if pl (.str x) 20 && pl (.str y) 20 then _ else _) = _
  simp [pl, deq]
@[simp] theorem pNe_ss {x y : Str} : pNe (.str x) (.str y) = .ok (.bl (!(x == y))) := by
  show (if pl (.str x) 20 && pl (.str y) 20 then _ else _) = _
  simp [pl, deq]
mutual
theorem deq_refl : ∀ (d : D) (n : Nat), pl d n = true → deq d d = true
  | .non, _, _ => rfl
  | .bl b, _, _ => by simp [deq]
  | .int i, _, _ => by simp [deq]
  | .str s, _, _ => by simp [deq]
  | .lst xs, n, h => by
    cases n with
    | zero => simp [pl] at h
    | succ m => simp only [deq]; exact deqs_refl xs m (by simpa [pl] using h)
  | .tup xs, n, h => by
    cases n with
    | zero => simp [pl] at h
    | succ m => simp only [deq]; exact deqs_refl xs m (by simpa [pl] using h)
  | .scr _, _, h => by simp [pl] at h
  | .dct _ _, _, h => by simp [pl] at h
  | .dcT _ _, _, h => by simp [pl] at h
  | .obj _ _ _, _, h => by simp [pl] at h
  | .exc _ _ _, _, h => by simp [pl] at h
theorem deqs_refl : ∀ (xs : List D) (n : Nat), pls xs n = true → deqs xs xs = true
  | [], _, _ => rfl
  | x :: xs, n, h => by
    obtain ⟨h1, h2⟩ := Bool.and_eq_true_iff.mp (show (pl x n && pls xs n) = true by simpa [pls] using h)
    simp only [deqs, deq_refl x n h1, deqs_refl xs n h2, Bool.and_self]
end
theorem pEq_refl (h : pl d 20 = true) : pEq d d = .ok (.bl true) := by
  unfold pEq
  rw [h, deq_refl d 20 h] <;> rfl
theorem mkL_ok (h : xs.length ≤ 16777216) : mkL xs = .ok (.lst xs) := by
  unfold mkL
  rw [if_pos h]
theorem mkT_ok (h : xs.length ≤ 16777216) : mkT xs = .ok (.tup xs) := by
  unfold mkT
  rw [if_pos h]
@[simp] theorem mkL_0 : mkL [] = .ok (.lst []) := mkL_ok (by simp)
@[simp] theorem mkL_1 {a : D} : mkL [a] = .ok (.lst [a]) := mkL_ok (by simp)
@[simp] theorem mkL_2 {a b : D} : mkL [a, b] = .ok (.lst [a, b]) := mkL_ok (by simp)
@[simp] theorem mkL_3 {a b c : D} : mkL [a, b, c] = .ok (.lst [a, b, c]) := mkL_ok (by simp)
@[simp] theorem mkL_4 {a b c d : D} : mkL [a, b, c, d] = .ok (.lst [a, b, c, d]) := mkL_ok (by simp)
@[simp] theorem mkT_2 {a b : D} : mkT [a, b] = .ok (.tup [a, b]) := mkT_ok (by simp)
@[simp] theorem mkT_3 {a b c : D} : mkT [a, b, c] = .ok (.tup [a, b, c]) := mkT_ok (by simp)
@[simp] theorem mkT_4 {a b c d : D} : mkT [a, b, c, d] = .ok (.tup [a, b, c, d]) := mkT_ok (by simp)
@[simp] theorem pLen_l : pLen [.lst xs] = .ok (.int xs.length) := Eq.trans rfl rfl
@[simp] theorem pLen_c : pLen [.scr xs] = .ok (.int xs.length) := Eq.trans rfl rfl
@[simp] theorem pLen_t : pLen [.tup xs] = .ok (.int xs.length) := Eq.trans rfl rfl
@[simp] theorem pLen_s {s : Str} : pLen [.str s] = .ok (.int s.length) := Eq.trans rfl rfl
@[simp] theorem toSeq_l : toSeq (.lst xs) = .ok xs := Eq.trans rfl rfl
@[simp] theorem toSeq_c : toSeq (.scr xs) = .ok xs := Eq.trans rfl rfl
@[simp] theorem toSeq_t : toSeq (.tup xs) = .ok xs := Eq.trans rfl rfl
@[simp] theorem toL_l : toL (.lst xs) = .ok xs := Eq.trans rfl rfl
theorem pIx_l {i : Int} (h : atI xs i = some d) : pIx (.lst xs) (.int i) = .ok d := by
  show (match atI xs i with | some d => (R.ok d : R D) | none => .bad) = _
  rw [h]
theorem pIx_c {i : Int} (h : atI xs i = some d) : pIx (.scr xs) (.int i) = .ok d := by
  show (match atI xs i with | some d => (R.ok d : R D) | none => .bad) = _
  rw [h]
theorem pIx_t {i : Int} (h : atI xs i = some d) : pIx (.tup xs) (.int i) = .ok d := by
  show (match atI xs i with | some d => (R.ok d : R D) | none => .bad) = _
  rw [h]
theorem atI_nat {α : Type} {l : List α} {i : Nat} (h : i < l.length) : atI l (i : Int) = some l[i] := by
  unfold atI ixN
  have e : ¬ ((i : Int) < 0) := by omega
  simp [e, h]
theorem atI_neg {α : Type} {l : List α} {i : Int} (h : i < 0) (h2 : -(l.length : Int) ≤ i) : atI l i = l[(i + l.length).toNat]? := by
  unfold atI ixN
  have e : (i + (l.length : Int)).toNat < l.length := by omega
  have e2 : ¬ (0 ≤ i) := by omega
  simp [h2, e, e2]
@[simp] theorem pIx_0 {x : D} : pIx (.lst (x :: xs)) (.int 0) = .ok x := pIx_l (atI_nat (i := 0) (by simp))
@[simp] theorem pIx_1 {x y : D} : pIx (.lst (x :: y :: xs)) (.int 1) = .ok y := pIx_l (atI_nat (i := 1) (by simp))
@[simp] theorem pIx_2 {x y z : D} : pIx (.lst (x :: y :: z :: xs)) (.int 2) = .ok z := pIx_l (atI_nat (i := 2) (by simp))
@[simp] theorem pIx_t0 {x : D} : pIx (.tup (x :: xs)) (.int 0) = .ok x := pIx_t (atI_nat (i := 0) (by simp))
@[simp] theorem pIx_t1 {x y : D} : pIx (.tup (x :: y :: xs)) (.int 1) = .ok y := pIx_t (atI_nat (i := 1) (by simp))
@[simp] theorem pIx_t2 {x y z : D} : pIx (.tup (x :: y :: z :: xs)) (.int 2) = .ok z := pIx_t (atI_nat (i := 2) (by simp))
theorem pRange1_ok {n : Nat} (h : n < 2 ^ 62) : pRange1 (.int n) = .ok (rngL 0 n) := by
  have h2 : -(2 ^ 62) ≤ (n : Int) ∧ (n : Int) < 2 ^ 62 := by omega
  unfold pRange1
  exact (if_pos h2).trans (by rw [Int.toNat_natCast])
theorem pRange2_ok {i j : Int} (h : -(2 ^ 62) ≤ i ∧ i < 2 ^ 62 ∧ -(2 ^ 62) ≤ j ∧ j < 2 ^ 62) : pRange2 (.int i) (.int j) = .ok (rngL i (j - i).toNat) := by
  unfold pRange2
  exact if_pos h
@[simp] theorem isTy_int {T : String} : pIsTy T (.int a) = .ok (.bl ("int" == T || ("int" == "bool" && T == "int"))) := Eq.trans rfl rfl
@[simp] theorem isTy_bl {T : String} {c : Bool} : pIsTy T (.bl c) = .ok (.bl ("bool" == T || ("bool" == "bool" && T == "int"))) := Eq.trans rfl rfl
@[simp] theorem isTy_str {T : String} {c : Str} : pIsTy T (.str c) = .ok (.bl ("str" == T || ("str" == "bool" && T == "int"))) := Eq.trans rfl rfl
@[simp] theorem isTy_lst {T : String} : pIsTy T (.lst xs) = .ok (.bl ("list" == T || ("list" == "bool" && T == "int"))) := Eq.trans rfl rfl
@[simp] theorem isTy_tup {T : String} : pIsTy T (.tup xs) = .ok (.bl ("tuple" == T || ("tuple" == "bool" && T == "int"))) := Eq.trans rfl rfl
@[simp] theorem isTy_non {T : String} : pIsTy T .non = .ok (.bl ("NoneType" == T || ("NoneType" == "bool" && T == "int"))) := Eq.trans rfl rfl
@[simp] theorem scal_int : scal (.int a) = .ok (.int a) := Eq.trans rfl rfl
@[simp] theorem scal_str {s : Str} : scal (.str s) = .ok (.str s) := Eq.trans rfl rfl
@[simp] theorem scal_bl {s : Bool} : scal (.bl s) = .ok (.bl s) := Eq.trans rfl rfl
@[simp] theorem scal_non : scal .non = .ok .non := Eq.trans rfl rfl
theorem appL_ok (h : xs.length < 16777216) : appL xs d = .ok (.lst (xs ++ [d])) := by
  unfold appL
  rw [if_pos h]
end
/-! ### sizes -/
def bd (n : Nat) (a : Int) : Prop := a.natAbs < 2 ^ n
theorem bd.mono {m n : Nat} {a : Int} (h : bd m a) (l : m ≤ n) : bd n a := Nat.lt_of_lt_of_le h (Nat.pow_le_pow_right (by decide) l)
theorem bd.mul {m n : Nat} {a b : Int} (h : bd m a) (g : bd n b) : bd (m + n) (a * b) := by
  unfold bd at *
  rw [Int.natAbs_mul, Nat.pow_add]
  exact Nat.mul_lt_mul'' h g
theorem bd.add {n : Nat} {a b : Int} (h : bd n a) (g : bd n b) : bd (n + 1) (a + b) := by
  unfold bd at *
  have := Int.natAbs_add_le a b
  rw [Nat.pow_succ]
  omega
theorem bd.sub {n : Nat} {a b : Int} (h : bd n a) (g : bd n b) : bd (n + 1) (a - b) := by
  unfold bd at *
  have := Int.natAbs_sub_le a b
  rw [Nat.pow_succ]
  omega
theorem bd.div {n : Nat} {a b : Int} (h : bd n a) (g : 0 < b) : bd n (a / b) := by
  unfold bd at *
  have e : (a / b).natAbs ≤ a.natAbs := Int.natAbs_ediv_le_natAbs a b
  omega
theorem log2_lt {n : Nat} {a : Nat} (h : a < 2 ^ n) : a.log2 ≤ n := by
  by_cases h0 : a = 0
  · subst h0
    simp
  · exact Nat.le_of_lt ((Nat.log2_lt h0).mpr h)
theorem bd.mulOk {m n : Nat} {a b : Int} (h : bd m a) (g : bd n b) (l : m + n < 134000000) : mulOk a b = true := by
  have h1 := log2_lt h
  have h2 := log2_lt g
  exact decide_eq_true (by omega)
theorem bd_zero {n : Nat} : bd n 0 := Nat.two_pow_pos n
theorem bd_of {n : Nat} {a : Int} (h : Builtin.Int.intBits a ≤ n) : bd n a := by
  unfold Builtin.Int.intBits at h
  unfold bd
  by_cases h0 : a.natAbs = 0
  · rw [h0]; exact Nat.two_pow_pos n
  · have e : a.natAbs.log2 < n := by
      by_cases e0 : a = 0
      · subst e0; simp at h0
      · rw [if_neg (by simpa using e0)] at h
        omega
    exact (Nat.log2_lt h0).mp e
theorem bd_le {n : Nat} {a m : Int} (h : -m ≤ a) (h2 : a ≤ m) (h3 : m < 2 ^ n) : bd n a := by
  unfold bd
  have e : ((2 ^ n : Nat) : Int) = 2 ^ n := by norm_cast
  omega
/-! ### loops -/
theorem rForX_nx {τ α : Type} {f : D → τ → R (Lp τ α)} {t : τ} : ∀ {xs : List D}, (∀ x ∈ xs, f x t = .ok (.nx t)) → rForX xs t f = .ok (.go t)
  | [], _ => rfl
  | x :: xs, h => by
    unfold rForX
    rw [h x List.mem_cons_self]
    exact rForX_nx fun y hy => h y (List.mem_cons_of_mem _ hy)
@[simp] theorem thn_go {τ α : Type} {f : τ → R α} {t : τ} : Go.thn f (.go t) = f t := Eq.trans rfl rfl
@[simp] theorem thn_out {τ α : Type} {f : τ → R α} {a : α} : Go.thn f (.out a) = .ok a := Eq.trans rfl rfl
theorem rMapF_ok {ρ : Type} {u : D → R ρ} {f : ρ → R D} {g : D → D} : ∀ {xs : List D}, (∀ x ∈ xs, ∃ p, u x = .ok p ∧ f p = .ok (g x)) → rMapF u (fun p => noX (.ok true)) (fun p => noX (f p)) xs = .ok (xs.map g)
  | [], _ => rfl
  | x :: xs, h => by
    obtain ⟨p, h1, h2⟩ := h x List.mem_cons_self
    unfold rMapF
    rw [h1]
    show ((noX (f p)).bind fun y => (rMapF u (fun p => noX (.ok true)) (fun p => noX (f p)) xs).bind fun ys => .ok (y :: ys)) = _
    rw [h2, rMapF_ok (g := g) fun y hy => h y (List.mem_cons_of_mem _ hy)]
    rfl
/-- a comprehension without a test -/
theorem pComp_ok {xs : List D} {f : D → R D} {g : D → D} (h : ∀ x ∈ xs, f x = .ok (g x)) (hl : xs.length ≤ 16777216) : pComp (.ok xs) (fun d => .ok d) (fun _ => .ok true) f = .ok (.lst (xs.map g)) := by
  unfold pComp
  show (rMapF (fun d => .ok d) (fun p => noX (.ok true)) (fun p => noX (f p)) xs).bind mkL = _
  rw [rMapF_ok (g := g) fun x hx => ⟨x, rfl, h x hx⟩]
  exact mkL_ok (by simpa using hl)
theorem mem_rngL {d : D} {lo : Int} {n : Nat} (h : d ∈ rngL lo n) : ∃ i, i < n ∧ d = .int (lo + (i : Nat)) := by
  obtain ⟨i, hi, e⟩ := List.mem_map.mp h
  exact ⟨i, List.mem_range.mp hi, e.symm⟩
end Lw
/-! more of the plain law: texts, lists, loops -/
namespace Lw
open PySem PySem.Spec PyProof.Rows L2
theorem bind_eq {α β : Type} {r : R α} {a : α} {f : α → R β} (h : r = .ok a) : R.bind r f = f a := by rw [h, R.bind_ok]
theorem rForX_inv {τ α : Type} {f : D → τ → R (Lp τ α)} {I : τ → Prop} : ∀ {xs : List D} {t : τ}, (∀ x ∈ xs, ∀ t, I t → ∃ t', f x t = .ok (.nx t') ∧ I t') → I t → ∃ t', rForX xs t f = .ok (.go t') ∧ I t'
  | [], t, _, i => ⟨t, rfl, i⟩
  | x :: xs, t, h, i => by
    obtain ⟨t1, e1, i1⟩ := h x List.mem_cons_self t i
    obtain ⟨t2, e2, i2⟩ := rForX_inv (fun y hy => h y (List.mem_cons_of_mem _ hy)) i1
    refine ⟨t2, ?_, i2⟩
    unfold rForX
    rw [e1]
    exact e2
theorem rFor_inv {τ : Type} {f : D → τ → R τ} : ∀ {xs : List D} {t : τ} (I : Nat → τ → Prop), (∀ k x t, xs[k]? = some x → I k t → ∃ t', f x t = .ok t' ∧ I (k + 1) t') → I 0 t → ∃ t', rFor xs t f = .ok t' ∧ I xs.length t'
  | [], t, I, _, i => ⟨t, rfl, i⟩
  | x :: xs, t, I, h, i => by
    obtain ⟨t1, e1, i1⟩ := h 0 x t rfl i
    obtain ⟨t2, e2, i2⟩ := rFor_inv (f := f) (xs := xs) (t := t1) (fun k => I (k + 1)) (fun k y t hy hi => h (k + 1) y t (by simpa using hy) hi) i1
    refine ⟨t2, ?_, i2⟩
    unfold rFor
    rw [e1]
    exact e2
theorem rFor_same {τ : Type} {f : D → τ → R τ} {t : τ} : ∀ {xs : List D}, (∀ x ∈ xs, f x t = .ok t) → rFor xs t f = .ok t
  | [], _ => rfl
  | x :: xs, h => by
    unfold rFor
    rw [h x List.mem_cons_self]
    exact rFor_same fun y hy => h y (List.mem_cons_of_mem _ hy)
theorem rFor_fold {τ σ : Type} {f : D → τ → R τ} {g : σ → τ → τ} {m : σ → D} {t : τ} : ∀ {xs : List σ} {t : τ}, (∀ x ∈ xs, ∀ t, f (m x) t = .ok (g x t)) → rFor (xs.map m) t f = .ok (xs.foldl (fun t x => g x t) t)
  | [], _, _ => rfl
  | x :: xs, t, h => by
    rw [List.map_cons]
    unfold rFor
    rw [h x List.mem_cons_self]
    exact rFor_fold (t := t) (fun y hy => h y (List.mem_cons_of_mem _ hy))
theorem rFor_foldE {τ σ ρ : Type} {f : D → τ → R τ} {g : ρ → σ → ρ} {m : σ → D} {e : ρ → τ} : ∀ {xs : List σ} {t : ρ}, (∀ x ∈ xs, ∀ t, f (m x) (e t) = .ok (e (g t x))) → rFor (xs.map m) (e t) f = .ok (e (xs.foldl g t))
  | [], _, _ => rfl
  | x :: xs, t, h => by
    rw [List.map_cons]
    unfold rFor
    rw [h x List.mem_cons_self t]
    exact rFor_foldE (t := g t x) (fun y hy => h y (List.mem_cons_of_mem _ hy))
theorem foldl_same {ρ σ : Type} {g : ρ → σ → ρ} {t : ρ} : ∀ {xs : List σ}, (∀ x ∈ xs, g t x = t) → xs.foldl g t = t
  | [], _ => rfl
  | x :: xs, h => by
    rw [List.foldl_cons, h x List.mem_cons_self]
    exact foldl_same fun y hy => h y (List.mem_cons_of_mem _ hy)
theorem rngL_at {lo : Int} {n k : Nat} {x : D} (h : (rngL lo n)[k]? = some x) : k < n ∧ x = .int (lo + (k : Nat)) := rngL_get h
/-! ### texts as lists of signs -/
def mkS (l : List Nat) : Str := ⟨l.toArray⟩
theorem mkS_cps (l : List Nat) : (mkS l).cps.toList = l := by simp [mkS]
theorem mkS_len (l : List Nat) : (mkS l).length = l.length := by simp [mkS, Str.length]
theorem mkS_inj {a b : List Nat} : mkS a = mkS b ↔ a = b := ⟨fun h => by
  have := congrArg (fun s : Str => s.cps.toList) h
  simpa [mkS] using this, fun h => by rw [h]⟩
theorem mkS_app (a b : List Nat) : mkS a ++ mkS b = mkS (a ++ b) := by
  have e : (mkS a ++ mkS b).cps = (mkS (a ++ b)).cps := by
    show (mkS a).cps ++ (mkS b).cps = (mkS (a ++ b)).cps
    simp [mkS]
  show (⟨(mkS a ++ mkS b).cps⟩ : Str) = ⟨(mkS (a ++ b)).cps⟩
  rw [e]
theorem pAdd_mk {a b : List Nat} (h : a.length + b.length ≤ 16777216) : pAdd (.str (mkS a)) (.str (mkS b)) = .ok (.str (mkS (a ++ b))) := by
  show (if (mkS a).length + (mkS b).length ≤ 16777216 then _ else _) = _
  rw [mkS_len, mkS_len, if_pos h, mkS_app]
theorem pAdd_ss {a b : Str} (h : a.length + b.length ≤ 16777216) : pAdd (.str a) (.str b) = .ok (.str (a ++ b)) := by
  show (if a.length + b.length ≤ 16777216 then _ else _) = _
  rw [if_pos h]
theorem cutD_to {α : Type} (l : List α) (k : Nat) : cutD l none (some (k : Int)) = l.take k := by
  unfold cutD
  rw [HT.sIx_none, HT.sIx_nat, List.drop_zero, Nat.sub_zero]
  rcases Nat.le_total k l.length with h | h
  · rw [Nat.min_eq_left h]
  · rw [Nat.min_eq_right h, List.take_of_length_le (Nat.le_refl _), List.take_of_length_le h]
theorem cutD_fr {α : Type} (l : List α) (k : Nat) : cutD l (some (k : Int)) none = l.drop k := by
  unfold cutD
  rw [HT.sIx_none, HT.sIx_nat]
  rcases Nat.le_total k l.length with h | h
  · rw [Nat.min_eq_left h, List.take_of_length_le (by simp)]
  · rw [Nat.min_eq_right h, Nat.sub_self, List.take_zero, List.drop_of_length_le h]
theorem cutS_mk (l : List Nat) (o o2 : Option Int) : cutS (mkS l) o o2 = mkS (cutD l o o2) := by
  unfold cutS cutD
  rw [mkS_cps, mkS_len]
  rfl
theorem slS_to {l : List Nat} {k : Nat} : sl3 (.ok (.str (mkS l))) (.ok none) (R.bind (.ok (.int (k : Int))) toI) pSlS = .ok (.str (mkS (l.take k))) := by
  show (R.ok (.str (cutS (mkS l) none (some (k : Int)))) : R D) = _
  rw [cutS_mk, cutD_to]
theorem slS_fr {l : List Nat} {k : Nat} {r : R D} (h : r = .ok (.int (k : Int))) : sl3 (.ok (.str (mkS l))) (R.bind r toI) (.ok none) pSlS = .ok (.str (mkS (l.drop k))) := by
  rw [h]
  show (R.ok (.str (cutS (mkS l) (some (k : Int)) none)) : R D) = _
  rw [cutS_mk, cutD_fr]
theorem slL_to {l : List D} {k : Nat} : sl3 (.ok (.lst l)) (.ok none) (R.bind (.ok (.int (k : Int))) toI) pSlL = .ok (.lst (l.take k)) := by
  show (R.ok (.lst (cutD l none (some (k : Int)))) : R D) = _
  rw [cutD_to]
theorem pIx_mk {l : List Nat} {k : Nat} (h : k < l.length) : pIx (.str (mkS l)) (.int (k : Int)) = .ok (.str (mkS [l[k]])) := by
  show (match atI (mkS l).cps.toList (k : Int) with | some c => (R.ok (.str ⟨#[c]⟩) : R D) | none => .bad) = _
  rw [mkS_cps, atI_nat h]
  rfl
theorem pIx_ln {l : List D} {k : Nat} (h : k < l.length) : pIx (.lst l) (.int (k : Int)) = .ok l[k] := pIx_l (atI_nat h)
def az : List Nat := (List.range 26).map (97 + ·)
theorem az_eq : ("abcdefghijklmnopqrstuvwxyz" : Str) = mkS az := by decide +kernel
theorem al_eq : ("abcdefghijkl" : Str) = mkS ((List.range 12).map (97 + ·)) := by decide +kernel
theorem az_at {k : Nat} (h : k < 26) : pIx (.str (mkS az)) (.int (k : Int)) = .ok (.str (mkS [97 + k])) := by
  rw [pIx_mk (by simpa [az] using h)]
  simp [az]
theorem al_at {k : Nat} (h : k < 12) : pIx (.str (mkS ((List.range 12).map (97 + ·)))) (.int (k : Int)) = .ok (.str (mkS [97 + k])) := by
  rw [pIx_mk (by simpa using h)]
  simp
/-- small letters -/
def low (l : List Nat) : Prop := ∀ c ∈ l, 97 ≤ c ∧ c < 123
theorem low_az {c : Nat} (h : 97 ≤ c ∧ c < 123) : c ∈ az := List.mem_map.mpr ⟨c - 97, List.mem_range.mpr (by omega), by omega⟩
theorem strs_pl : ∀ (ns : List Str) (n : Nat), pls (ns.map D.str) n = true
  | [], _ => rfl
  | x :: ns, n => by simp [pls, pl, strs_pl ns n]
theorem any_strs {s : Str} : ∀ l : List Str, (l.map D.str).any (fun z => deq z (.str s)) = decide (s ∈ l)
  | [] => rfl
  | x :: l => by
    rw [List.map_cons, List.any_cons, any_strs l]
    by_cases h : x = s
    · subst h
      simp [deq]
    · have h2 : ¬ s = x := fun e => h e.symm
      simp [deq, h, h2]
theorem pIn_strs (s : Str) (l : List Str) : pInL (.str s) (.lst (l.map D.str)) = .ok (.bl (decide (s ∈ l))) := by
  have e1 : (pl (.str s) 20 && pl (.lst (l.map D.str)) 20) = true := by simp [pl, strs_pl]
  show (if pl (.str s) 20 && pl (.lst (l.map D.str)) 20 then (R.ok (.bl ((l.map D.str).any fun z => deq z (.str s))) : R D) else R.bad) = _
  rw [e1, if_pos rfl, any_strs]
theorem pNotIn_strs (s : Str) (l : List Str) : pNotInL (.str s) (.lst (l.map D.str)) = .ok (.bl (!decide (s ∈ l))) := by
  have e1 : (pl (.str s) 20 && pl (.lst (l.map D.str)) 20) = true := by simp [pl, strs_pl]
  show (if pl (.str s) 20 && pl (.lst (l.map D.str)) 20 then (R.ok (.bl (!(l.map D.str).any fun z => deq z (.str s))) : R D) else R.bad) = _
  rw [e1, if_pos rfl, any_strs]
theorem pNotInS_one {c : Nat} {l : List Nat} : pNotInS (.str (mkS [c])) (.str (mkS l)) = .ok (.bl (!decide (c ∈ l))) := by
  show (if (mkS [c]).cps.size = 1 then (R.ok (.bl (!decide ((mkS [c]).cps.getD 0 0 ∈ (mkS l).cps.toList))) : R D) else R.bad) = _
  rw [if_pos (show (mkS [c]).cps.size = 1 from rfl), mkS_cps]
  rfl
theorem chrL_mk (l : List Nat) : chrL (mkS l) = l.map fun c => D.str (mkS [c]) := by
  unfold chrL
  rw [mkS_cps]
  rfl
theorem toChr_s {s : Str} : toChr (.str s) = .ok (chrL s) := Eq.trans rfl rfl
theorem toLs_l {xs : List D} : toLs (.lst xs) = .ok xs := Eq.trans rfl rfl
theorem toI_i {i : Int} : toI (.int i) = .ok (some i) := Eq.trans rfl rfl
theorem enumL_get {xs : List D} {k : Nat} {x : D} (h : (enumL xs)[k]? = some x) : ∃ y, xs[k]? = some y ∧ x = .tup [.int (k : Nat), y] := by
  unfold enumL at h
  rw [List.getElem?_mapIdx] at h
  obtain ⟨y, h1, h2⟩ := Option.map_eq_some_iff.mp h
  exact ⟨y, h1, h2.symm⟩
theorem pInt_b {b : Bool} : pInt [.bl b] = .ok (.int (if b then 1 else 0)) := Eq.trans rfl rfl
theorem pList_l {xs : List D} : pList [.lst xs] = .ok (.lst xs) := Eq.trans rfl rfl
theorem pTuple_l {xs : List D} : pTuple [.lst xs] = .ok (.tup xs) := Eq.trans rfl rfl
theorem pTuple_t {xs : List D} : pTuple [.tup xs] = .ok (.tup xs) := Eq.trans rfl rfl
theorem pMax2_i {a b : Int} : pMax2 [.int a, .int b] = .ok (.int (if b > a then b else a)) := Eq.trans rfl rfl
theorem pComp_map {σ : Type} {m g : σ → D} {f : D → R D} {xs : List σ} (h : ∀ x ∈ xs, f (m x) = .ok (g x)) (hl : xs.length ≤ 16777216) : pComp (.ok (xs.map m)) (fun d => .ok d) (fun _ => .ok true) f = .ok (.lst (xs.map g)) := by
  have aux : ∀ (xs : List σ), (∀ x ∈ xs, f (m x) = .ok (g x)) → rMapF (fun d => .ok d) (fun _ => noX (.ok true)) (fun p => noX (f p)) (xs.map m) = .ok (xs.map g) := by
    intro xs
    induction xs with
    | nil => intro _; rfl
    | cons x xs ih =>
      intro h
      rw [List.map_cons]
      unfold rMapF
      show ((noX (f (m x))).bind fun y => (rMapF (fun d => .ok d) (fun _ => noX (.ok true)) (fun p => noX (f p)) (xs.map m)).bind fun ys => .ok (y :: ys)) = _
      rw [h x List.mem_cons_self, ih fun y hy => h y (List.mem_cons_of_mem _ hy)]
      rfl
  unfold pComp
  show (rMapF (fun d => .ok d) (fun p => noX (.ok true)) (fun p => noX (f p)) (xs.map m)).bind mkL = _
  rw [aux xs h]
  exact mkL_ok (by simpa using hl)
theorem pEq_self {d : D} (h : pl d 20 = true) : pEq d d = .ok (.bl true) := pEq_refl h
theorem pNe_self {d : D} (h : pl d 20 = true) : pNe d d = .ok (.bl false) := by
  unfold pNe
  rw [h, deq_refl d 20 h] <;> rfl
theorem rMapF_ex {σ : Type} {m : σ → D} {f : D → R D} : ∀ {xs : List D} (P : Nat → σ → Prop), (∀ k x, xs[k]? = some x → ∃ y, f x = .ok (m y) ∧ P k y) → ∃ ys : List σ, rMapF (fun d => .ok d) (fun _ => noX (.ok true)) (fun p => noX (f p)) xs = .ok (ys.map m) ∧ ys.length = xs.length ∧ ∀ k y, ys[k]? = some y → P k y
  | [], P, _ => ⟨[], rfl, rfl, fun k y h => by simp at h⟩
  | x :: xs, P, h => by
    obtain ⟨y, e1, p1⟩ := h 0 x rfl
    obtain ⟨ys, e2, l2, p2⟩ := rMapF_ex (m := m) (f := f) (xs := xs) (fun k => P (k + 1)) fun k z hz => h (k + 1) z (by simpa using hz)
    refine ⟨y :: ys, ?_, by simp [l2], fun k z hz => ?_⟩
    · unfold rMapF
      show ((noX (f x)).bind fun y => (rMapF (fun d => .ok d) (fun _ => noX (.ok true)) (fun p => noX (f p)) xs).bind fun ys => .ok (y :: ys)) = _
      rw [e1, e2]
      rfl
    · cases k with
      | zero =>
        have e : y = z := by simpa using hz
        rw [← e]
        exact p1
      | succ k => exact p2 k z (by simpa using hz)
theorem pComp_ex {σ : Type} {m : σ → D} {f : D → R D} {xs : List D} (P : Nat → σ → Prop) (h : ∀ k x, xs[k]? = some x → ∃ y, f x = .ok (m y) ∧ P k y) (hl : xs.length ≤ 16777216) : ∃ ys : List σ, pComp (.ok xs) (fun d => .ok d) (fun _ => .ok true) f = .ok (.lst (ys.map m)) ∧ ys.length = xs.length ∧ ∀ k y, ys[k]? = some y → P k y := by
  obtain ⟨ys, e, l, p⟩ := rMapF_ex P h
  refine ⟨ys, ?_, l, p⟩
  unfold pComp
  show (rMapF (fun d => .ok d) (fun p => noX (.ok true)) (fun p => noX (f p)) xs).bind mkL = _
  rw [e]
  exact mkL_ok (by simpa [l] using hl)
/-! ### loops that look for something -/
theorem rForX_all {τ α σ : Type} {f : D → τ → R (Lp τ α)} {p : σ → Bool} {m : σ → D} {t : τ} {o : α} : ∀ {xs : List σ}, (∀ x ∈ xs, f (m x) t = .ok (if p x = true then .nx t else .out o)) → rForX (xs.map m) t f = .ok (if xs.all p = true then .go t else .out o)
  | [], _ => rfl
  | x :: xs, h => by
    rw [List.map_cons]
    unfold rForX
    rw [h x List.mem_cons_self, List.all_cons]
    by_cases e : p x = true
    · rw [if_pos e, e, Bool.true_and]
      exact rForX_all fun y hy => h y (List.mem_cons_of_mem _ hy)
    · rw [if_neg e, Bool.not_eq_true _ |>.mp e, Bool.false_and]
      rfl
theorem rForX_find {τ α σ ε : Type} {f : D → τ → R (Lp τ α)} {g : σ → Option ε} {m : σ → D} {t : τ} {o : ε → α} : ∀ {xs : List σ}, (∀ x ∈ xs, f (m x) t = .ok (match g x with | none => .nx t | some e => .out (o e))) → rForX (xs.map m) t f = .ok (match xs.findSome? g with | none => .go t | some e => .out (o e))
  | [], _ => rfl
  | x :: xs, h => by
    rw [List.map_cons]
    unfold rForX
    rw [h x List.mem_cons_self, List.findSome?_cons]
    cases e : g x with
    | none => exact rForX_find fun y hy => h y (List.mem_cons_of_mem _ hy)
    | some v => rfl
theorem rFor_exc {τ σ ε : Type} {f : D → τ → R τ} {g : σ → Option ε} {m : σ → D} {t : τ} {o : ε → Ex} : ∀ {xs : List σ}, (∀ x ∈ xs, f (m x) t = match g x with | none => .ok t | some e => .exc (o e)) → rFor (xs.map m) t f = match xs.findSome? g with | none => .ok t | some e => .exc (o e)
  | [], _ => rfl
  | x :: xs, h => by
    rw [List.map_cons]
    unfold rFor
    rw [h x List.mem_cons_self, List.findSome?_cons]
    cases e : g x with
    | none => exact rFor_exc fun y hy => h y (List.mem_cons_of_mem _ hy)
    | some v => rfl
theorem enumL_map {σ : Type} {m : σ → D} {xs : List σ} : enumL (xs.map m) = xs.zipIdx.map fun p => D.tup [.int (p.2 : Nat), m p.1] := by
  apply List.ext_getElem?
  intro i
  unfold enumL
  simp [List.getElem?_mapIdx, List.getElem?_map, List.getElem?_zipIdx]
  cases xs[i]? <;> rfl
theorem bind_exc_eq {α β : Type} {r : R α} {e : Ex} {f : α → R β} (h : r = .exc e) : R.bind r f = .exc e := by rw [h]; rfl
theorem slT_to {l : List D} {k : Nat} : sl3 (.ok (.tup l)) (.ok none) (R.bind (.ok (.int (k : Int))) toI) pSlT = .ok (.tup (l.take k)) := by
  show (R.ok (.tup (cutD l none (some (k : Int)))) : R D) = _
  rw [cutD_to]
theorem slT_fr {l : List D} {k : Nat} {r : R D} (h : r = .ok (.int (k : Int))) : sl3 (.ok (.tup l)) (R.bind r toI) (.ok none) pSlT = .ok (.tup (l.drop k)) := by
  rw [h]
  show (R.ok (.tup (cutD l (some (k : Int)) none)) : R D) = _
  rw [cutD_fr]
theorem slL_fr {l : List D} {k : Nat} {r : R D} (h : r = .ok (.int (k : Int))) : sl3 (.ok (.lst l)) (R.bind r toI) (.ok none) pSlL = .ok (.lst (l.drop k)) := by
  rw [h]
  show (R.ok (.lst (cutD l (some (k : Int)) none)) : R D) = _
  rw [cutD_fr]
theorem pCatL_ok {a b : List D} (h : a.length + b.length ≤ 16777216) : pCatL (.lst a) (.lst b) = .ok (.lst (a ++ b)) := by
  show (if a.length + b.length ≤ 16777216 then _ else _) = _
  rw [if_pos h]
theorem pCatT_ok {a b : List D} (h : a.length + b.length ≤ 16777216) : pCatT (.tup a) (.tup b) = .ok (.tup (a ++ b)) := by
  show (if a.length + b.length ≤ 16777216 then _ else _) = _
  rw [if_pos h]
theorem str_mk (s : Str) : s = mkS s.cps.toList := by
  obtain ⟨c⟩ := s
  simp [mkS]
theorem lit_at {ds : List D} {i : Int} (h : 0 ≤ i) (h2 : i < ds.length) : ∃ d, d ∈ ds ∧ pIx (.lst ds) (.int i) = .ok d := by
  obtain ⟨k, rfl⟩ := Int.eq_ofNat_of_zero_le h
  have hk : k < ds.length := by omega
  exact ⟨ds[k], List.getElem_mem hk, pIx_ln hk⟩
theorem pMul_rep {l : List Nat} {n : Nat} (h : l.length * n ≤ 16777216) (h2 : n < 2 ^ 62) : pMul (.str (mkS l)) (.int (n : Int)) = .ok (.str (mkS (List.replicate n l).flatten)) := by
  have e : repOk (mkS l) (n : Int) = true := decide_eq_true ⟨by omega, by omega, by rw [mkS_len]; simpa using h⟩
  show (if repOk (mkS l) (n : Int) = true then (R.ok (.str (strRep (mkS l) (n : Int))) : R D) else .bad) = _
  rw [if_pos e]
  unfold strRep
  rw [mkS_cps]
  rfl
/-! ### what is given, and what holds of it -/
def Gv {α : Type} (r : R α) (Q : α → Prop) : Prop := ∃ a, r = .ok a ∧ Q a
theorem Gv.ok {α : Type} {a : α} {Q : α → Prop} (h : Q a) : Gv (.ok a) Q := ⟨a, rfl, h⟩
theorem Gv.eq {α : Type} {r : R α} {a : α} {Q : α → Prop} (e : r = .ok a) (h : Q a) : Gv r Q := ⟨a, e, h⟩
theorem Gv.bind {α β : Type} {r : R α} {f : α → R β} {P : α → Prop} {Q : β → Prop} (h : Gv r P) (k : ∀ a, P a → Gv (f a) Q) : Gv (R.bind r f) Q := by
  obtain ⟨a, e, p⟩ := h
  rw [e, R.bind_ok]
  exact k a p
theorem Gv.step {α β : Type} {r : R α} {a : α} {f : α → R β} {Q : β → Prop} (e : r = .ok a) (k : Gv (f a) Q) : Gv (R.bind r f) Q := by
  rw [e, R.bind_ok]
  exact k
theorem Gv.mono {α : Type} {r : R α} {P Q : α → Prop} (h : Gv r P) (k : ∀ a, P a → Q a) : Gv r Q := by
  obtain ⟨a, e, p⟩ := h
  exact ⟨a, e, k a p⟩
theorem Gv.ite {α : Type} {rc : R Bool} {c : Bool} {x y : R α} {Q : α → Prop} (e : rc = .ok c) (h1 : c = true → Gv x Q) (h2 : c = false → Gv y Q) : Gv (R.bind rc fun b => if b = true then x else y) Q := by
  rw [e, R.bind_ok]
  cases c with
  | true => exact h1 rfl
  | false => exact h2 rfl
theorem Gv.rfor {τ : Type} {f : D → τ → R τ} {xs : List D} {t : τ} {Q : τ → Prop} (I : Nat → τ → Prop) (h0 : I 0 t) (hs : ∀ k x t, xs[k]? = some x → I k t → Gv (f x t) (I (k + 1))) (hq : ∀ t, I xs.length t → Q t) : Gv (rFor xs t f) Q := by
  obtain ⟨t', e, i⟩ := rFor_inv (f := f) I (fun k x t hx hi => hs k x t hx hi) h0
  exact ⟨t', e, hq t' i⟩
theorem Gv.rforX {τ α : Type} {f : D → τ → R (Lp τ α)} {xs : List D} {t : τ} {Q : Go τ α → Prop} (I : τ → Prop) (h0 : I t) (hs : ∀ x ∈ xs, ∀ t, I t → Gv (f x t) fun z => ∃ t', z = .nx t' ∧ I t') (hq : ∀ t, I t → Q (.go t)) : Gv (rForX xs t f) Q := by
  obtain ⟨t', e, i⟩ := rForX_inv (f := f) (I := I) (xs := xs) (fun x hx t hi => by
    obtain ⟨z, e, t', ez, i⟩ := hs x hx t hi
    exact ⟨t', by rw [e, ez], i⟩) h0
  exact ⟨_, e, hq t' i⟩
theorem Gv.comp {σ : Type} {m : σ → D} {f : D → R D} {xs : List D} {Q : D → Prop} (P : Nat → σ → Prop) (h : ∀ k x, xs[k]? = some x → Gv (f x) fun d => ∃ y, d = m y ∧ P k y) (hl : xs.length ≤ 16777216) (hq : ∀ ys : List σ, ys.length = xs.length → (∀ k y, ys[k]? = some y → P k y) → Q (.lst (ys.map m))) : Gv (pComp (.ok xs) (fun d => .ok d) (fun _ => .ok true) f) Q := by
  obtain ⟨ys, e, l, p⟩ := pComp_ex (m := m) (f := f) (xs := xs) P (fun k x hx => by
    obtain ⟨d, e, y, ed, p⟩ := h k x hx
    exact ⟨y, by rw [e, ed], p⟩) hl
  exact ⟨_, e, hq ys l p⟩
theorem Gv.conv {α : Type} {r r' : R α} {Q : α → Prop} (e : r = r') (h : Gv r' Q) : Gv r Q := by rw [e]; exact h
theorem orV_ok {c c2 : Bool} : orV (.ok (.bl c)) (.ok (.bl c2)) = .ok (.bl (c || c2)) := by cases c <;> rfl
/-! ### ''.join, ranges in steps, sums -/
theorem toStrs_map {α : Type} (f : α → Str) : ∀ l : List α, toStrs (l.map fun a => D.str (f a)) = some (l.map f)
  | [] => rfl
  | a :: l => by
    show (toStrs (l.map fun a => D.str (f a))).map (f a :: ·) = _
    rw [toStrs_map f l]
    rfl
theorem sum_ones : ∀ l : List Nat, ((l.map fun c => mkS [c]).map (·.length)).sum = l.length
  | [] => rfl
  | c :: l => by
    rw [List.map_cons, List.map_cons, List.sum_cons, sum_ones l, List.length_cons]
    show 1 + l.length = _
    omega
theorem glue_ones (l : List Nat) : Txt.join (Str.ofString "") (l.map fun c => mkS [c]) = mkS l := by
  have aux : ∀ (l : List Nat) (acc : Array Nat), (l.map fun c => mkS [c]).foldl (fun acc p => acc ++ (Str.ofString "").cps ++ p.cps) acc = acc ++ l.toArray := by
    intro l
    induction l with
    | nil => intro acc; simp
    | cons c l ih =>
      intro acc
      rw [List.map_cons, List.foldl_cons, ih]
      have e : (Str.ofString "").cps = #[] := rfl
      rw [e]
      show acc ++ #[] ++ #[c] ++ l.toArray = _
      apply Array.toList_inj.mp
      simp
  cases l with
  | nil => rfl
  | cons c l =>
    show (⟨((c :: l).map fun c => mkS [c]).drop 1 |>.foldl (fun acc p => acc ++ (Str.ofString "").cps ++ p.cps) (((c :: l).map fun c => mkS [c]).headD Str.empty).cps⟩ : Str) = mkS (c :: l)
    rw [List.map_cons, List.drop_one, List.tail_cons, aux]
    show (⟨#[c] ++ l.toArray⟩ : Str) = _
    unfold mkS
    congr 1
    apply Array.toList_inj.mp
    simp
theorem sOk_low {l : List Nat} (h : low l) (hl : l.length ≤ 16777216) : sOk (mkS l) = true := by
  refine sOk_mk ?_ (by rw [mkS_len]; exact hl)
  unfold PyData.strOk
  rw [Array.all_eq_true_iff_forall_mem]
  intro c hc
  have := h c (by simpa [mkS] using hc)
  exact decide_eq_true (by omega)
theorem pJoin_ones {l : List Nat} (h : low l) (hl : l.length ≤ 16777216) : pJoin (.str "") (.lst (l.map fun c => D.str (mkS [c]))) = .ok (.str (mkS l)) := by
  have e : pJoin (.str "") (.lst (l.map fun c => D.str (mkS [c]))) = (match toStrs (l.map fun c => D.str (mkS [c])) with
    | some ys => if (ys.map (·.length)).sum + ys.length * ("" : Str).length ≤ 16777216 ∧ sOk (Txt.join "" ys) = true then (.ok (.str (Txt.join "" ys)) : R D) else .bad
    | none => .bad) := rfl
  rw [e, toStrs_map fun c => mkS [c]]
  show (if _ then _ else _) = _
  rw [glue_ones, if_pos ⟨by rw [sum_ones]; show l.length + _ * 0 ≤ _; omega, sOk_low h hl⟩]
theorem slS_nil : stOnly (.str "") = .ok (.str "") := Eq.trans rfl rfl
theorem pMin2_i {a b : Int} : pMin2 [.int a, .int b] = .ok (.int (if b < a then b else a)) := Eq.trans rfl rfl
theorem rngSz {i j c : Int} (hc : 0 < c) : 0 ≤ Builtin.Range.rangeSize i j c ∧ (∀ k : Int, 0 ≤ k → k < Builtin.Range.rangeSize i j c → i + k * c < j) ∧ (0 ≤ i → i < 10000 → j < 10000 → Builtin.Range.rangeSize i j c ≤ 10000) := by
  unfold Builtin.Range.rangeSize
  rw [if_pos hc]
  by_cases h : i < j
  · rw [if_pos h]
    have d0 : 0 ≤ (j - i - 1) / c := Int.ediv_nonneg (by omega) (by omega)
    refine ⟨by omega, fun k h0 h1 => ?_, fun h0 h1 h2 => ?_⟩
    · have h2 : k ≤ (j - i - 1) / c := by omega
      have h3 : k * c ≤ j - i - 1 := Int.le_trans (Int.mul_le_mul_of_nonneg_right h2 (by omega)) (Int.ediv_mul_le _ (by omega))
      omega
    · have : (j - i - 1) / c ≤ j - i - 1 := Int.ediv_le_self _ (by omega)
      omega
  · rw [if_neg h]
    exact ⟨by omega, fun k h0 h1 => by omega, fun _ _ _ => by omega⟩
theorem fitsL {a : Int} (h : -100000 ≤ a) (h2 : a ≤ 100000) : Builtin.Range.rangeFitsLong a = true := by
  unfold Builtin.Range.rangeFitsLong
  simp
  omega
/-- a range in steps: what stands in it -/
theorem pRange3_ok {i j c : Int} (hc : 0 < c) (hc2 : c < 10000) (hi : 0 ≤ i) (hi2 : i < 10000) (hj : 0 ≤ j) (hj2 : j < 10000) : ∃ n : Nat, pRange3 (.int i) (.int j) (.int c) = .ok (rngC i c n) ∧ n ≤ 10000 ∧ ∀ k : Nat, k < n → 0 ≤ i + k * c ∧ i + k * c < j := by
  obtain ⟨s0, s1, s2⟩ := rngSz (i := i) (j := j) hc
  have s3 := s2 hi hi2 hj2
  refine ⟨(Builtin.Range.rangeSize i j c).toNat, ?_, by omega, fun k hk => ?_⟩
  · unfold pRange3
    have e : Builtin.Range.small i j c = true := by
      unfold Builtin.Range.small
      rw [fitsL (a := i) (by omega) (by omega), fitsL (a := j) (by omega) (by omega), fitsL (a := c) (by omega) (by omega), fitsL (a := Builtin.Range.rangeSize i j c) (by omega) (by omega), if_pos hc, fitsL (a := j + (c - 1)) (by omega) (by omega)]
      simp
    exact if_pos ⟨by omega, by omega, e, s0⟩
  · have := s1 k (by omega) (by omega)
    have h2 : 0 ≤ (k : Int) * c := Int.mul_nonneg (by omega) (by omega)
    omega
theorem toInts_map (l : List Int) : toInts (l.map D.int) = some l := by
  induction l with
  | nil => rfl
  | cons a l ih =>
    show (toInts (l.map D.int)).map (a :: ·) = _
    rw [ih]
    rfl
theorem pSum_ints (l : List Int) : pSum [.lst (l.map D.int)] = .ok (.int l.sum) := by
  show (match toInts (l.map D.int) with | some ns => (R.ok (.int ns.sum) : R D) | _ => .bad) = _
  rw [toInts_map]
theorem sum_bd {n : Nat} : ∀ {l : List Int} {k : Nat}, (∀ a ∈ l, bd n a) → l.length ≤ 2 ^ k → bd (n + k + 1) l.sum := by
  have aux : ∀ l : List Int, (∀ a ∈ l, bd n a) → l.sum.natAbs ≤ l.length * 2 ^ n := by
    intro l
    induction l with
    | nil => intro _; simp
    | cons a l ih =>
      intro h
      have h1 : a.natAbs < 2 ^ n := h a List.mem_cons_self
      have h2 := ih fun b hb => h b (List.mem_cons_of_mem _ hb)
      rw [List.sum_cons, List.length_cons, Nat.add_mul]
      have := Int.natAbs_add_le a l.sum
      omega
  intro l k h hl
  have h1 := aux l h
  have h2 : l.length * 2 ^ n ≤ 2 ^ k * 2 ^ n := Nat.mul_le_mul_right _ hl
  unfold bd
  have e : 2 ^ (n + k + 1) = 2 ^ k * 2 ^ n * 2 := by rw [Nat.pow_succ, Nat.pow_add, Nat.mul_comm (2 ^ n)]
  rw [e]
  have h3 : 0 < 2 ^ k * 2 ^ n := Nat.mul_pos (Nat.two_pow_pos k) (Nat.two_pow_pos n)
  omega
theorem divOk_small {b : Int} (h : 0 < b) (h2 : b < 2 ^ 62) : divOk b = true :=
  decide_eq_true ⟨h, Nat.lt_of_le_of_lt (log2_lt (n := 62) (show b.natAbs < 2 ^ 62 by omega)) (by decide)⟩
theorem rngC_get {lo c : Int} {n k : Nat} {x : D} (h : (rngC lo c n)[k]? = some x) : k < n ∧ x = .int (lo + (k : Nat) * c) := by
  unfold rngC at h
  rw [List.getElem?_map] at h
  obtain ⟨i, h1, h2⟩ := Option.map_eq_some_iff.mp h
  obtain ⟨h3, h4⟩ := List.getElem?_eq_some_iff.mp h1
  rw [List.getElem_range] at h4
  subst h4
  exact ⟨by simpa using h3, h2.symm⟩
theorem rngC_length {lo c : Int} {n : Nat} : (rngC lo c n).length = n := by simp [rngC]
theorem emodN {a : Int} {b : Int} (h : 0 < b) : ∃ k : Nat, a % b = k ∧ (k : Int) < b := by
  obtain ⟨k, e⟩ := Int.eq_ofNat_of_zero_le (Int.emod_nonneg a (show b ≠ 0 by omega))
  exact ⟨k, e, by have := Int.emod_lt_of_pos a h; omega⟩
theorem low_app {a b : List Nat} (ha : low a) (hb : low b) : low (a ++ b) := fun c h => (List.mem_append.mp h).elim (ha c) (hb c)
theorem low_one {k : Nat} (h : k < 26) : low [97 + k] := fun c hc => by
  have e : c = 97 + k := by simpa using hc
  omega
theorem low_take {a : List Nat} (n : Nat) (h : low a) : low (a.take n) := fun c hc => h c (List.mem_of_mem_take hc)
theorem low_drop {a : List Nat} (n : Nat) (h : low a) : low (a.drop n) := fun c hc => h c (List.mem_of_mem_drop hc)
theorem pComp_filter {σ : Type} {m g : σ → D} {q : σ → Bool} {t : D → R Bool} {f : D → R D} {xs : List σ} (ht : ∀ x ∈ xs, t (m x) = .ok (q x)) (h : ∀ x ∈ xs, q x = true → f (m x) = .ok (g x)) (hl : xs.length ≤ 16777216) : pComp (.ok (xs.map m)) (fun d => .ok d) t f = .ok (.lst ((xs.filter q).map g)) := by
  have aux : ∀ (xs : List σ), (∀ x ∈ xs, t (m x) = .ok (q x)) → (∀ x ∈ xs, q x = true → f (m x) = .ok (g x)) → rMapF (fun d => .ok d) (fun p => noX (t p)) (fun p => noX (f p)) (xs.map m) = .ok ((xs.filter q).map g) := by
    intro xs
    induction xs with
    | nil => intro _ _; rfl
    | cons x xs ih =>
      intro ht h
      rw [List.map_cons]
      unfold rMapF
      show ((noX (t (m x))).bind fun b => if b = true then (noX (f (m x))).bind fun y => (rMapF (fun d => .ok d) (fun p => noX (t p)) (fun p => noX (f p)) (xs.map m)).bind fun ys => .ok (y :: ys) else rMapF (fun d => .ok d) (fun p => noX (t p)) (fun p => noX (f p)) (xs.map m)) = _
      rw [ht x List.mem_cons_self, ih (fun y hy => ht y (List.mem_cons_of_mem _ hy)) fun y hy => h y (List.mem_cons_of_mem _ hy)]
      cases e : q x with
      | true =>
        rw [h x List.mem_cons_self e, List.filter_cons, if_pos e]
        rfl
      | false =>
        rw [List.filter_cons, if_neg (by rw [e]; decide)]
        rfl
  unfold pComp
  show (rMapF (fun d => .ok d) (fun p => noX (t p)) (fun p => noX (f p)) (xs.map m)).bind mkL = _
  rw [aux xs ht h]
  exact mkL_ok (by rw [List.length_map]; exact Nat.le_trans (List.length_filter_le _ _) hl)
theorem pNe_nil {l : List D} (h : pls l 19 = true) : pNe (.lst l) (.lst []) = .ok (.bl (!l.isEmpty)) := by
  unfold pNe
  have e : (pl (.lst l) 20 && pl (.lst []) 20) = true := by
    rw [show pl (.lst l) 20 = pls l 19 by simp [pl], h]
    rfl
  rw [e, if_pos rfl]
  cases l <;> simp [deq, deqs]
theorem findSome_zip {α β : Type} {l : List α} {f : Nat → α → Option β} : (List.range l.length).findSome? (fun i => (l[i]?).bind fun a => f i a) = l.zipIdx.findSome? fun p => f p.2 p.1 := by
  have e : (List.range l.length).map (fun i => (l[i]?).map fun a => (a, i)) = l.zipIdx.map some := by
    apply List.ext_getElem
    · simp
    · intro i h1 h2
      simp at h1
      simp [h1]
  have e1 : (List.range l.length).findSome? (fun i => (l[i]?).bind fun a => f i a) = ((List.range l.length).map (fun i => (l[i]?).map fun a => (a, i))).findSome? (fun o => o.bind fun p => f p.2 p.1) := by
    rw [List.findSome?_map]
    congr 1
    funext i
    show _ = ((l[i]?).map fun a => (a, i)).bind _
    cases l[i]? <;> rfl
  rw [e1, e, List.findSome?_map]
  rfl
theorem rngL_map {n : Nat} : rngL 0 n = (List.range n).map fun (i : Nat) => D.int (i : Int) := by
  unfold rngL
  congr 1
  funext i
  rw [Int.zero_add]
theorem setL1_ok {xs : List D} {k : Nat} {d : D} (h : k < xs.length) : setL1 xs (.int (k : Int)) d = .ok (.lst (xs.set k d)) := by
  have e : ixN xs.length (k : Int) = some k := by
    unfold ixN
    have e1 : ¬ ((k : Int) < 0) := by omega
    simp [h]
  unfold setL1
  simp only [e]
end Lw
/-! more of the plain law: places in lists, dicts by texts, loops that gather -/
namespace Lw
open PySem PySem.Spec PyProof.Rows L2
theorem rFor_foldI {τ σ ρ : Type} {f : D → τ → R τ} {g : ρ → σ → ρ} {m : σ → D} {e : ρ → τ} : ∀ {xs : List σ} {t : ρ} (I : Nat → ρ → Prop), (∀ k x t, xs[k]? = some x → I k t → f (m x) (e t) = .ok (e (g t x)) ∧ I (k + 1) (g t x)) → I 0 t → rFor (xs.map m) (e t) f = .ok (e (xs.foldl g t)) ∧ I xs.length (xs.foldl g t)
  | [], _, I, _, i => ⟨rfl, i⟩
  | x :: xs, t, I, h, i => by
    obtain ⟨h1, h2⟩ := h 0 x t rfl i
    have ih := rFor_foldI (f := f) (g := g) (m := m) (e := e) (xs := xs) (t := g t x) (fun k => I (k + 1)) (fun k y t hy hi => h (k + 1) y t (by simpa using hy) hi) h2
    refine ⟨?_, ih.2⟩
    rw [List.map_cons]
    unfold rFor
    rw [h1]
    exact ih.1
/-! ### all or none -/
def optL {α : Type} : List (Option α) → Option (List α)
  | [] => some []
  | a :: l => match a with
    | none => none
    | some x => (optL l).map (x :: ·)
theorem optL_some {α : Type} : ∀ {l : List (Option α)} {ys : List α}, optL l = some ys → l = ys.map some
  | [], ys, h => by cases h; rfl
  | none :: l, ys, h => by cases h
  | some x :: l, ys, h => by
    obtain ⟨zs, h1, rfl⟩ := Option.map_eq_some_iff.mp (show (optL l).map (x :: ·) = some ys from h)
    rw [List.map_cons, ← optL_some h1]
theorem optL_map {α : Type} : ∀ ys : List α, optL (ys.map some) = some ys
  | [] => rfl
  | y :: ys => by
    show (optL (ys.map some)).map (y :: ·) = _
    rw [optL_map ys]
    rfl
theorem optL_none {α : Type} : ∀ {l : List (Option α)}, optL l = none → none ∈ l
  | [], h => by cases h
  | none :: l, h => List.mem_cons_self
  | some x :: l, h => List.mem_cons_of_mem _ (optL_none (Option.map_eq_none_iff.mp (show (optL l).map (x :: ·) = none from h)))
theorem optL_of_none {α : Type} : ∀ {l : List (Option α)}, none ∈ l → optL l = none
  | a :: l, h => by
    cases a with
    | none => rfl
    | some x =>
      show (optL l).map (x :: ·) = none
      rw [optL_of_none (by simpa using h)]
      rfl
theorem pCompX_opt {σ β : Type} {m : σ → D} {m2 : β → D} {g : σ → Option β} {x : Ex} {f : D → R D} {xs : List σ} (h : ∀ y ∈ xs, f (m y) = match g y with | some z => .ok (m2 z) | none => .exc x) (hl : xs.length ≤ 16777216) : pCompX (.ok (xs.map m)) (fun d => .ok d) (fun _ => .ok true) f = match optL (xs.map g) with | some ys => .ok (.lst (ys.map m2)) | none => .exc x := by
  have aux : ∀ (xs : List σ), (∀ y ∈ xs, f (m y) = match g y with | some z => .ok (m2 z) | none => .exc x) → rMapF (fun d => .ok d) (fun p => noX (.ok true)) f (xs.map m) = match optL (xs.map g) with | some ys => .ok (ys.map m2) | none => .exc x := by
    intro xs
    induction xs with
    | nil => intro _; rfl
    | cons y xs ih =>
      intro h
      rw [List.map_cons]
      unfold rMapF
      show ((f (m y)).bind fun z => (rMapF (fun d => .ok d) (fun p => noX (.ok true)) f (xs.map m)).bind fun ys => .ok (z :: ys)) = _
      rw [h y List.mem_cons_self, ih fun z hz => h z (List.mem_cons_of_mem _ hz), List.map_cons]
      cases e : g y with
      | none => rfl
      | some z =>
        show _ = match (optL (xs.map g)).map (z :: ·) with | some ys => R.ok (ys.map m2) | none => .exc x
        cases optL (xs.map g) <;> rfl
  unfold pCompX
  show (if (xs.map m).length ≤ 16777216 then (rMapF (fun d => .ok d) (fun p => noX (.ok true)) f (xs.map m)).bind mkL else .bad) = _
  rw [if_pos (by simpa using hl), aux xs h]
  cases e : optL (xs.map g) with
  | none => rfl
  | some ys =>
    have l2 := congrArg List.length (optL_some e)
    rw [List.length_map, List.length_map] at l2
    exact mkL_ok (by rw [List.length_map]; omega)
/-- a comprehension with a target of several names -/
theorem pComp_mapU {ρ σ : Type} {m g : σ → D} {u : D → R ρ} {v : σ → ρ} {f : ρ → R D} {xs : List σ} (hu : ∀ x ∈ xs, u (m x) = .ok (v x)) (h : ∀ x ∈ xs, f (v x) = .ok (g x)) (hl : xs.length ≤ 16777216) : pComp (.ok (xs.map m)) u (fun _ => .ok true) f = .ok (.lst (xs.map g)) := by
  have aux : ∀ (xs : List σ), (∀ x ∈ xs, u (m x) = .ok (v x)) → (∀ x ∈ xs, f (v x) = .ok (g x)) → rMapF u (fun p => noX (.ok true)) (fun p => noX (f p)) (xs.map m) = .ok (xs.map g) := by
    intro xs
    induction xs with
    | nil => intro _ _; rfl
    | cons x xs ih =>
      intro hu h
      rw [List.map_cons]
      unfold rMapF
      rw [hu x List.mem_cons_self]
      show ((noX (f (v x))).bind fun y => (rMapF u (fun p => noX (.ok true)) (fun p => noX (f p)) (xs.map m)).bind fun ys => .ok (y :: ys)) = _
      rw [h x List.mem_cons_self, ih (fun y hy => hu y (List.mem_cons_of_mem _ hy)) fun y hy => h y (List.mem_cons_of_mem _ hy)]
      rfl
  unfold pComp
  show (rMapF u (fun p => noX (.ok true)) (fun p => noX (f p)) (xs.map m)).bind mkL = _
  rw [aux xs hu h]
  exact mkL_ok (by simpa using hl)
/-! ### places of texts -/
theorem idxD_strs {s : Str} : ∀ {l : List Str}, s ∈ l → idxD (.str s) (l.map D.str) = some (l.idxOf s)
  | x :: l, h => by
    show (if deq (.str x) (.str s) = true then some 0 else (idxD (.str s) (l.map D.str)).map (· + 1)) = _
    rw [List.idxOf_cons]
    by_cases e : x = s
    · rw [if_pos (by simp [deq, e])]
      simp [e]
    · rw [if_neg (by simp [deq, e]), idxD_strs (by rcases List.mem_cons.mp h with z | z; exact absurd z.symm e; exact z)]
      rw [beq_eq_false_iff_ne.mpr e]
      rfl
theorem pIndex_strs {s : Str} {l : List Str} (h : s ∈ l) : pIndex (.lst (l.map D.str)) (.str s) = .ok (.int (l.idxOf s : Nat)) := by
  show (if pl (.lst (l.map D.str)) 20 && pl (.str s) 20 then (match idxD (.str s) (l.map D.str) with | some j => (R.ok (.int j) : R D) | none => .bad) else .bad) = _
  rw [show (pl (.lst (l.map D.str)) 20 && pl (.str s) 20) = true by simp [pl, strs_pl], if_pos rfl, idxD_strs h]
theorem dIdx_strs {s : Str} : ∀ {l : List Str}, s ∈ l → dIdx (l.map D.str) (.str s) = some (l.idxOf s)
  | x :: l, h => by
    unfold dIdx
    rw [List.map_cons, List.findIdx?_cons, List.idxOf_cons]
    by_cases e : x = s
    · rw [if_pos (by simp [keyEq, e])]
      simp [e]
    · rw [if_neg (by simp [keyEq, e])]
      have ih := dIdx_strs (s := s) (l := l) (by rcases List.mem_cons.mp h with z | z; exact absurd z.symm e; exact z)
      unfold dIdx at ih
      rw [ih, beq_eq_false_iff_ne.mpr e]
      rfl
theorem pDget_strs {s : Str} {l : List Str} {xs : List D} (h : s ∈ l) (e : xs.length = l.length) : pDget (.dct (l.map D.str) xs) (.str s) = .ok (xs[l.idxOf s]'(by rw [e]; exact List.idxOf_lt_length_of_mem h)) := by
  rw [pDget_dct, show isKey (.str s) = true from rfl, if_pos rfl, dIdx_strs h]
  show (match xs[l.idxOf s]? with | some x => (R.ok x : R D) | none => .bad) = _
  rw [List.getElem?_eq_getElem (by rw [e]; exact List.idxOf_lt_length_of_mem h)]
theorem any_keys (s : Str) : ∀ l : List Str, (l.map D.str).any (fun z => keyEq z (.str s)) = decide (s ∈ l)
  | [] => rfl
  | x :: l => by
    rw [List.map_cons, List.any_cons, any_keys s l]
    by_cases e : x = s
    · simp [keyEq, e]
    · have e2 : ¬ s = x := fun z => e z.symm
      simp [keyEq, e, e2]
theorem dPut_new {s : Str} {l : List Str} {xs : List D} {d : D} (h : s ∉ l) : dPut (l.map D.str) xs (.str s) d = .dct ((l ++ [s]).map D.str) (xs ++ [d]) := by
  unfold dPut
  rw [any_keys, decide_eq_false h, if_neg (by decide), List.map_append]
  rfl
theorem pDput_new {s : Str} {l : List Str} {xs : List D} {d : D} (h : s ∉ l) (hl : xs.length < 16777216) : pDput (l.map D.str, xs) (.str s) d = .ok (.dct ((l ++ [s]).map D.str) (xs ++ [d])) := by
  show (if isKey (.str s) && decide (xs.length < 16777216) then (R.ok (dPut (l.map D.str) xs (.str s) d) : R D) else .bad) = _
  rw [show isKey (.str s) = true from rfl, decide_eq_true hl, if_pos (by rfl), dPut_new h]
theorem idxOf_mkS {n : List Nat} : ∀ ns : List (List Nat), (ns.map mkS).idxOf (mkS n) = ns.idxOf n
  | [] => rfl
  | a :: ns => by
    rw [List.map_cons, List.idxOf_cons, List.idxOf_cons, idxOf_mkS ns]
    by_cases e : a = n
    · subst e
      simp
    · have e2 : ¬ mkS a = mkS n := fun z => e (mkS_inj.mp z)
      rw [beq_eq_false_iff_ne.mpr e, beq_eq_false_iff_ne.mpr e2]
theorem take_notMem {α : Type} {l : List α} (h : l.Nodup) {k : Nat} (hk : k < l.length) : l[k] ∉ l.take k := fun hm => by
  obtain ⟨j, hj⟩ := List.mem_iff_getElem?.mp hm
  rw [List.getElem?_take] at hj
  by_cases hjk : j < k
  · rw [if_pos hjk] at hj
    obtain ⟨l1, e1⟩ := List.getElem?_eq_some_iff.mp hj
    have := (List.getElem_inj h).mp e1
    omega
  · rw [if_neg hjk] at hj
    cases hj
theorem zipIdx_at {α : Type} {l : List α} {k : Nat} {p : α × Nat} (h : l.zipIdx[k]? = some p) : p.2 = k ∧ l[k]? = some p.1 := by
  rw [List.getElem?_zipIdx] at h
  obtain ⟨a, h1, rfl⟩ := Option.map_eq_some_iff.mp h
  exact ⟨by simp, h1⟩
end Lw
namespace Lx
open PySem PySem.Spec PyProof.Rows L2 Lw
abbrev top (i : Nat) : Stmt := PySem.Challenge.pw_lapwork_k71_loops_shown_and_read.main.body.getD i (.Pass ⟨0, 0, 0, 0⟩)
abbrev inCls (st : Stmt) (j : Nat) : Stmt := match st with
  | .ClassDef _ _ _ body _ _ _ _ _ _ _ => body.getD j (.Pass ⟨0, 0, 0, 0⟩)
  | s => s
theorem s_0 : sOk "sum" = true := by decide +kernel
theorem s_1 : sOk "less" = true := by decide +kernel
theorem s_2 : sOk "times" = true := by decide +kernel
theorem s_3 : sOk "least" = true := by decide +kernel
theorem s_4 : sOk "most" = true := by decide +kernel
theorem s_5 : sOk "pick" = true := by decide +kernel
theorem s_6 : sOk "same" = true := by decide +kernel
theorem s_7 : sOk "tell" = true := by decide +kernel
theorem s_8 : sOk "take" = true := by decide +kernel
theorem s_9 : sOk "abcdefghijklmnopqrstuvwxyz" = true := by decide +kernel
theorem s_10 : sOk "" = true := by decide +kernel
theorem s_11 : sOk "measure " = true := by decide +kernel
theorem s_12 : sOk " = " = true := by decide +kernel
theorem s_13 : sOk " " = true := by decide +kernel
theorem s_14 : sOk "@" = true := by decide +kernel
theorem s_15 : sOk "\n" = true := by decide +kernel
theorem s_16 : sOk "=" = true := by decide +kernel
theorem s_17 : sOk "0123456789" = true := by decide +kernel
theorem s_18 : sOk "0" = true := by decide +kernel
theorem s_19 : sOk "measure" = true := by decide +kernel
theorem s_20 : sOk "no row can be read at " = true := by decide +kernel
def isI_Loop : List (Str × Bool) := [("Deed", false), ("Sum", false), ("Less", false), ("Times", false), ("Least", false), ("Most", false), ("Pick", false), ("Same", false), ("Tell", false), ("Take", false), ("Loop", true)]
/-- what the program's top has made -/
structure Ctx (K : PySem.W.Frag) (mg : Str → Option Value) : Prop where
  f_bool : mg "bool" = none
  f_enumerate : mg "enumerate" = none
  f_int : mg "int" = none
  f_isinstance : mg "isinstance" = none
  f_len : mg "len" = none
  f_list : mg "list" = none
  f_min : mg "min" = none
  f_range : mg "range" = none
  f_str : mg "str" = none
  f_sum : mg "sum" = none
  f_tuple : mg "tuple" = none
  d_law_cell_at : ∃ fa fd, mg "_law_cell_at" = some (.ref fa) ∧ FunD K "_law_cell_at" "_law_cell_at" (defArgs (top 50)) (defBody (top 50)) (defScope (top 50)) [] [] fa fd
  d_law_sum_at : ∃ fa fd, mg "_law_sum_at" = some (.ref fa) ∧ FunD K "_law_sum_at" "_law_sum_at" (defArgs (top 53)) (defBody (top 53)) (defScope (top 53)) [] [] fa fd
  d_law_words : ∃ fa fd, mg "_law_words" = some (.ref fa) ∧ FunD K "_law_words" "_law_words" (defArgs (top 52)) (defBody (top 52)) (defScope (top 52)) [] [] fa fd
  d_law_read : ∃ fa fd, mg "_law_read" = some (.ref fa) ∧ FunD K "_law_read" "_law_read" (defArgs (top 55)) (defBody (top 55)) (defScope (top 55)) [] [] fa fd
  d_law_rows : ∃ fa fd, mg "_law_rows" = some (.ref fa) ∧ FunD K "_law_rows" "_law_rows" (defArgs (top 56)) (defBody (top 56)) (defScope (top 56)) [] [] fa fd
  d_law_names : ∃ fa fd, mg "_law_names" = some (.ref fa) ∧ FunD K "_law_names" "_law_names" (defArgs (top 54)) (defBody (top 54)) (defScope (top 54)) [] [] fa fd
  d_law_loop_text : ∃ fa fd, mg "_law_loop_text" = some (.ref fa) ∧ FunD K "_law_loop_text" "_law_loop_text" (defArgs (top 57)) (defBody (top 57)) (defScope (top 57)) [] [] fa fd
  d_is_number : ∃ fa fd, mg "is_number" = some (.ref fa) ∧ FunD K "is_number" "is_number" (defArgs (top 34)) (defBody (top 34)) (defScope (top 34)) [] [] fa fd
  d_read_shown : ∃ fa fd, mg "read_shown" = some (.ref fa) ∧ FunD K "read_shown" "read_shown" (defArgs (top 41)) (defBody (top 41)) (defScope (top 41)) [] [] fa fd
  d_loop_shown : ∃ fa fd, mg "loop_shown" = some (.ref fa) ∧ FunD K "loop_shown" "loop_shown" (defArgs (top 42)) (defBody (top 42)) (defScope (top 42)) [] [] fa fd
  d_all_letters : ∃ fa fd, mg "all_letters" = some (.ref fa) ∧ FunD K "all_letters" "all_letters" (defArgs (top 29)) (defBody (top 29)) (defScope (top 29)) [] [] fa fd
  d_is_name : ∃ fa fd, mg "is_name" = some (.ref fa) ∧ FunD K "is_name" "is_name" (defArgs (top 30)) (defBody (top 30)) (defScope (top 30)) [] [] fa fd
  d_deed_of : ∃ fa fd, mg "deed_of" = some (.ref fa) ∧ FunD K "deed_of" "deed_of" (defArgs (top 25)) (defBody (top 25)) (defScope (top 25)) [] [] fa fd
  d_look_at_read : ∃ fa fd, mg "look_at_read" = some (.ref fa) ∧ FunD K "look_at_read" "look_at_read" (defArgs (top 35)) (defBody (top 35)) (defScope (top 35)) [] [] fa fd
  d_look_at_row : ∃ fa fd, mg "look_at_row" = some (.ref fa) ∧ FunD K "look_at_row" "look_at_row" (defArgs (top 36)) (defBody (top 36)) (defScope (top 36)) [] [] fa fd
  d_is_figures : ∃ fa fd, mg "is_figures" = some (.ref fa) ∧ FunD K "is_figures" "is_figures" (defArgs (top 43)) (defBody (top 43)) (defScope (top 43)) [] [] fa fd
  d_measure_of : ∃ fa fd, mg "measure_of" = some (.ref fa) ∧ FunD K "measure_of" "measure_of" (defArgs (top 46)) (defBody (top 46)) (defScope (top 46)) [] [] fa fd
  d_is_word : ∃ fa fd, mg "is_word" = some (.ref fa) ∧ FunD K "is_word" "is_word" (defArgs (top 44)) (defBody (top 44)) (defScope (top 44)) [] [] fa fd
  d_read_of : ∃ fa fd, mg "read_of" = some (.ref fa) ∧ FunD K "read_of" "read_of" (defArgs (top 45)) (defBody (top 45)) (defScope (top 45)) [] [] fa fd
  d_row_of : ∃ fa fd, mg "row_of" = some (.ref fa) ∧ FunD K "row_of" "row_of" (defArgs (top 47)) (defBody (top 47)) (defScope (top 47)) [] [] fa fd
  d_loop_read : ∃ fa fd, mg "loop_read" = some (.ref fa) ∧ FunD K "loop_read" "loop_read" (defArgs (top 48)) (defBody (top 48)) (defScope (top 48)) [] [] fa fd
  d_law_whole : ∃ fa fd, mg "_law_whole" = some (.ref fa) ∧ FunD K "_law_whole" "_law_whole" (defArgs (top 51)) (defBody (top 51)) (defScope (top 51)) [] [] fa fd
  d_law_rows_right : ∃ fa fd, mg "_law_rows_right" = some (.ref fa) ∧ FunD K "_law_rows_right" "_law_rows_right" (defArgs (top 58)) (defBody (top 58)) (defScope (top 58)) [] [] fa fd
  d_law : ∃ fa fd, mg "law" = some (.ref fa) ∧ FunD K "law" "law" (defArgs (top 59)) (defBody (top 59)) (defScope (top 59)) [] [] fa fd
  e_Least_wants : ∃ cl fa fd, mg "Least" = some (.ref cl) ∧ Cls K cl ∧ Meth K cl "wants" fa ∧ FunD K "wants" "Deed.wants" (defArgs (inCls (top 15) 0)) (defBody (inCls (top 15) 0)) (defScope (inCls (top 15) 0)) [] [] fa fd
  e_Less_wants : ∃ cl fa fd, mg "Less" = some (.ref cl) ∧ Cls K cl ∧ Meth K cl "wants" fa ∧ FunD K "wants" "Deed.wants" (defArgs (inCls (top 15) 0)) (defBody (inCls (top 15) 0)) (defScope (inCls (top 15) 0)) [] [] fa fd
  e_Loop_rows : ∃ cl fa fd, mg "Loop" = some (.ref cl) ∧ Cls K cl ∧ Meth K cl "rows" fa ∧ FunD K "rows" "Loop.rows" (defArgs (inCls (top 37) 1)) (defBody (inCls (top 37) 1)) (defScope (inCls (top 37) 1)) [] [] fa fd
  e_Most_wants : ∃ cl fa fd, mg "Most" = some (.ref cl) ∧ Cls K cl ∧ Meth K cl "wants" fa ∧ FunD K "wants" "Deed.wants" (defArgs (inCls (top 15) 0)) (defBody (inCls (top 15) 0)) (defScope (inCls (top 15) 0)) [] [] fa fd
  e_Pick_wants : ∃ cl fa fd, mg "Pick" = some (.ref cl) ∧ Cls K cl ∧ Meth K cl "wants" fa ∧ FunD K "wants" "Pick.wants" (defArgs (inCls (top 21) 0)) (defBody (inCls (top 21) 0)) (defScope (inCls (top 21) 0)) [] [] fa fd
  e_Same_wants : ∃ cl fa fd, mg "Same" = some (.ref cl) ∧ Cls K cl ∧ Meth K cl "wants" fa ∧ FunD K "wants" "Same.wants" (defArgs (inCls (top 22) 0)) (defBody (inCls (top 22) 0)) (defScope (inCls (top 22) 0)) [] [] fa fd
  e_Sum_wants : ∃ cl fa fd, mg "Sum" = some (.ref cl) ∧ Cls K cl ∧ Meth K cl "wants" fa ∧ FunD K "wants" "Deed.wants" (defArgs (inCls (top 15) 0)) (defBody (inCls (top 15) 0)) (defScope (inCls (top 15) 0)) [] [] fa fd
  e_Take_wants : ∃ cl fa fd, mg "Take" = some (.ref cl) ∧ Cls K cl ∧ Meth K cl "wants" fa ∧ FunD K "wants" "Take.wants" (defArgs (inCls (top 24) 0)) (defBody (inCls (top 24) 0)) (defScope (inCls (top 24) 0)) [] [] fa fd
  e_Tell_wants : ∃ cl fa fd, mg "Tell" = some (.ref cl) ∧ Cls K cl ∧ Meth K cl "wants" fa ∧ FunD K "wants" "Tell.wants" (defArgs (inCls (top 23) 0)) (defBody (inCls (top 23) 0)) (defScope (inCls (top 23) 0)) [] [] fa fd
  e_Times_wants : ∃ cl fa fd, mg "Times" = some (.ref cl) ∧ Cls K cl ∧ Meth K cl "wants" fa ∧ FunD K "wants" "Deed.wants" (defArgs (inCls (top 15) 0)) (defBody (inCls (top 15) 0)) (defScope (inCls (top 15) 0)) [] [] fa fd
  m_Least : MkD K mg "Least"
  m_Less : MkD K mg "Less"
  m_Most : MkD K mg "Most"
  m_Pick : MkD K mg "Pick"
  m_Same : MkD K mg "Same"
  m_Sum : MkD K mg "Sum"
  m_Take : MkD K mg "Take"
  m_Tell : MkD K mg "Tell"
  m_Times : MkD K mg "Times"
  iI_Loop : IsIO K mg "Loop" isI_Loop
  mi_Loop : ∃ cl fa fd, mg "Loop" = some (.ref cl) ∧ Mk K cl fa ∧ FunD K "__init__" "Loop.__init__" (defArgs (inCls (top 37) 0)) (defBody (inCls (top 37) 0)) (defScope (inCls (top 37) 0)) [] [] fa fd
  mx_BadText : ∃ cl fa fd, mg "BadText" = some (.ref cl) ∧ OexC K cl ∧ PySem.W.findIn K (.ref cl) "row" = some none ∧ Meth K cl "__init__" fa ∧ FunD K "__init__" "BadText.__init__" (defArgs (inCls (top 13) 0)) (defBody (inCls (top 13) 0)) (defScope (inCls (top 13) 0)) [] [] fa fd
  lb_LapError : LbC K mg "LapError"
  fl_Loop_kept_rows : FldD K mg "Loop" "kept_rows"
  fl_Loop_measure : FldD K mg "Loop" "measure"
  x_BadBack : ExD K mg "BadBack"
  x_BadCount : ExD K mg "BadCount"
  x_BadName : ExD K mg "BadName"
  x_BadNumber : ExD K mg "BadNumber"
  x_BadRows : ExD K mg "BadRows"
  x_NoDeed : ExD K mg "NoDeed"
  x_NoMeasure : ExD K mg "NoMeasure"
  x_NoRow : ExD K mg "NoRow"
  x_TooEarly : ExD K mg "TooEarly"
  x_Twice : ExD K mg "Twice"
  g_LETTERS : ∃ t, mg "LETTERS" = some (.str "abcdefghijklmnopqrstuvwxyz" t)
  g_LONGEST : ∃ t, mg "LONGEST" = some (.int 12 t)
  g_MOST_ROWS : ∃ t, mg "MOST_ROWS" = some (.int 12 t)
  g_MOST_BACK : ∃ t, mg "MOST_BACK" = some (.int 6 t)
  g_FIGURES : ∃ t, mg "FIGURES" = some (.str "0123456789" t)
  g_MOST_FIGURES : ∃ t, mg "MOST_FIGURES" = some (.int 61 t)
section
variable {P : Program} {w : World} {K : PySem.W.Frag} {mg : Str → Option Value} {base : Heap}
def b_law_cell_at (a0 a1 : D) : R D := (R.bind (R.bind (R.bin2 (.ok a1) (R.bind (R.cons (.ok a0) (.ok [])) pLen) pLt) toB) fun b => if b = true then (R.bind (R.bin2 (.ok a0) (.ok a1) pIx) fun d => .ok d) else (.ok (.int 0)))
def f_law_cell_at : List D → R D
  | [a0, a1] => b_law_cell_at a0 a1
  | _ => .bad
theorem sc_law_cell_at : FnScope ["_law_script", "_law_k"] ["_law_script", "_law_k"] (defScope (top 50)) := ⟨rfl, rfl, rfl, by decide +kernel, rfl, by decide +kernel, by decide +kernel⟩
theorem fd_law_cell_at (C : Ctx K mg) : FD P w K mg base 1 "_law_cell_at" f_law_cell_at [.F, .F] .F := by
  obtain ⟨fa, fd, g, F⟩ := C.d_law_cell_at
  refine ⟨fa, fd, ["_law_script", "_law_k"], g, F.kp, F.bindsN (fun _ _ _ _ _ _ us hl => match us, hl with | [_, _], _ => rfl), fd_ok F sc_law_cell_at rfl (by decide) fun cdv A outer s H E G ds hr hl => ?_⟩
  exact match ds, hl with
  | [a0, a1], _ =>
    show SV _ _ _ _ [.F, .F] [a0, a1] _ _ (b_law_cell_at a0 a1) from (sv_ifS (et_cmp op_lt od_lt (ev_varF (pe_var (i := 1) rfl (.inl rfl)) rfl rfl) (ev_callB call_len bf_len (ea_P (ev_varF (pe_var (i := 0) rfl (.inl rfl)) rfl rfl) ea_nil) C.f_len (by decide +kernel)) (nomark _)) (sv_ret (g := fun d => d) (ev_ix (ev_varF (pe_var (i := 0) rfl (.inl rfl)) rfl rfl) (ev_varF (pe_var (i := 1) rfl (.inl rfl)) rfl rfl)) (fun d => ⟨rfl, rfl⟩)) (sv_retD ev_int))
def b_law_sum_at (a0 a1 a2 : D) : R D := (R.bind (R.cons (pComp (R.bind (.ok a1) fun x => R.bind (R.bind (R.cons (R.bind (R.cons (.ok a0) (.ok [])) pLen) (R.cons (.ok (.int 63)) (.ok []))) pMin2) fun y => R.bind (.ok a2) fun z => pRange3 x y z) (fun d => .ok d) (fun p1 => (.ok true)) (fun p1 => (R.bin2 (.ok a0) (.ok p1) pIx))) (.ok [])) pSum)
def f_law_sum_at : List D → R D
  | [a0, a1, a2] => b_law_sum_at a0 a1 a2
  | _ => .bad
theorem sc_law_sum_at : FnScope ["_law_script", "_law_at", "_law_many", "_law_k"] ["_law_script", "_law_at", "_law_many"] (defScope (top 53)) := ⟨rfl, rfl, rfl, by decide +kernel, rfl, by decide +kernel, by decide +kernel⟩
theorem fd_law_sum_at (C : Ctx K mg) : FD P w K mg base 1 "_law_sum_at" f_law_sum_at [.F, .F, .F] .F := by
  obtain ⟨fa, fd, g, F⟩ := C.d_law_sum_at
  refine ⟨fa, fd, ["_law_script", "_law_at", "_law_many"], g, F.kp, F.bindsN (fun _ _ _ _ _ _ us hl => match us, hl with | [_, _, _], _ => rfl), fd_ok F sc_law_sum_at rfl (by decide) fun cdv A outer s H E G ds hr hl => ?_⟩
  exact match ds, hl with
  | [a0, a1, a2], _ =>
    show SV _ _ _ _ [.F, .F, .F, .N] [a0, a1, a2, .non] _ _ (b_law_sum_at a0 a1 a2) from (sv_retD (ev_callB (cr_sum rfl) bf_sum (ea_P (EV.frz (ev_comp rfl sc_law_sum_at.nd (ei_range3 (ev_varF (pe_var (i := 1) rfl (.inl rfl)) rfl rfl) (ev_callB (call_min2 rfl) bf_min2 (ea_P (ev_callB call_len bf_len (ea_P (ev_varF (pe_var (i := 0) rfl (.inr (.inl rfl))) rfl rfl) ea_nil) C.f_len (by decide +kernel)) (ea_P ev_int ea_nil)) C.f_min (by decide +kernel)) (ev_varF (pe_var (i := 2) rfl (.inl rfl)) rfl rfl) C.f_range) (blkOk_by (own := [("_law_k", 3)]) rfl) (tgb_name (i := 3) (fun _ _ _ _ _ => pg_name sc_law_sum_at.nd rfl (.inl rfl) (.inr rfl))) (fun _ _ _ _ _ _ p1 => ets_nil) (fun _ _ _ _ _ _ p1 => (ev_ix (ev_varF (pe_var (i := 0) rfl (.inr (.inl rfl))) rfl rfl) (ev_varF (pe_var (i := 3) rfl (.inl rfl)) rfl rfl)))) rfl) ea_nil) C.f_sum (by decide +kernel)))
def b_law_words : R D := (R.bind (R.cons (.ok (.str "sum")) (R.cons (.ok (.str "less")) (R.cons (.ok (.str "times")) (R.cons (.ok (.str "least")) (R.cons (.ok (.str "most")) (R.cons (.ok (.str "pick")) (R.cons (.ok (.str "same")) (R.cons (.ok (.str "tell")) (R.cons (.ok (.str "take")) (.ok [])))))))))) mkL)
def f_law_words : List D → R D
  | [] => b_law_words 
  | _ => .bad
theorem sc_law_words : FnScope [] [] (defScope (top 52)) := ⟨rfl, rfl, rfl, by decide +kernel, rfl, by decide +kernel, by decide +kernel⟩
theorem fd_law_words (C : Ctx K mg) : FD P w K mg base 1 "_law_words" f_law_words [] .F := by
  obtain ⟨fa, fd, g, F⟩ := C.d_law_words
  refine ⟨fa, fd, [], g, F.kp, F.bindsN (fun _ _ _ _ _ _ us hl => match us, hl with | [], _ => rfl), fd_ok F sc_law_words rfl (by decide) fun cdv A outer s H E G ds hr hl => ?_⟩
  exact match ds, hl with
  | [], _ =>
    show SV _ _ _ _ [] [] _ _ (b_law_words ) from (sv_retD (EV.frz (ev_lst (ea_F (ev_str s_0) (ea_F (ev_str s_1) (ea_F (ev_str s_2) (ea_F (ev_str s_3) (ea_F (ev_str s_4) (ea_F (ev_str s_5) (ea_F (ev_str s_6) (ea_F (ev_str s_7) (ea_F (ev_str s_8) ea_nil)))))))))) rfl))
def b_law_read (a0 a1 a2 : D) : R D := (R.bind (R.bind (R.bin2 (R.bin2 (.ok a0) (.ok (.int 4)) pMod) (.ok (.int 0)) pEq) toB) fun b => if b = true then (R.bind (R.bin2 (R.bin2 (R.bin2 (.ok a0) (.ok a0) pMul) (.ok (.int 4)) pDiv) (R.bin2 (.ok (.int 10)) (.ok (.int 60)) pPow) pMod) fun d => .ok d) else (R.bind (R.bin2 (R.bin2 (.ok a0) (.ok (.int 4)) pDiv) (R.bind (R.cons (.ok a1) (.ok [])) pLen) pMod) fun x1 => (R.bind (R.bin2 (R.bind (R.cons (.ok (.int 0)) (R.cons (.ok (.int 0)) (R.cons (.ok (.int 1)) (R.cons (.ok (.int 1)) (R.cons (.ok (.int 2)) (R.cons (.ok (.int 3)) (R.cons (.ok (.int 6)) (.ok [])))))))) mkL) (R.bin2 (R.bin2 (.ok a0) (.ok (.int 53)) pDiv) (.ok (.int 7)) pMod) pIx) fun x2 => (R.bind (R.bind (andT (R.bind (R.bin2 (.ok x1) (.ok a2) pGe) toB) (R.bind (R.bin2 (.ok x2) (.ok (.int 0)) pEq) toB)) fun b => if b = true then (R.bind (R.bin2 (.ok (.int 1)) (R.bin2 (R.bin2 (.ok a0) (.ok (.int 379)) pDiv) (.ok (.int 3)) pMod) pAdd) fun x4 => (.ok x4)) else (.ok x2)) fun t3 => (R.bind (R.cons (R.bin2 (.ok a1) (.ok x1) pIx) (R.cons (.ok t3) (.ok []))) mkT)))))
def f_law_read : List D → R D
  | [a0, a1, a2] => b_law_read a0 a1 a2
  | _ => .bad
theorem sc_law_read : FnScope ["_law_mixed", "_law_names_here", "_law_k", "_law_at", "_law_back"] ["_law_mixed", "_law_names_here", "_law_k"] (defScope (top 55)) := ⟨rfl, rfl, rfl, by decide +kernel, rfl, by decide +kernel, by decide +kernel⟩
theorem fd_law_read (C : Ctx K mg) : FD P w K mg base 1 "_law_read" f_law_read [.F, .F, .F] .F := by
  obtain ⟨fa, fd, g, F⟩ := C.d_law_read
  refine ⟨fa, fd, ["_law_mixed", "_law_names_here", "_law_k"], g, F.kp, F.bindsN (fun _ _ _ _ _ _ us hl => match us, hl with | [_, _, _], _ => rfl), fd_ok F sc_law_read rfl (by decide) fun cdv A outer s H E G ds hr hl => ?_⟩
  exact match ds, hl with
  | [a0, a1, a2], _ =>
    show SV _ _ _ _ [.F, .F, .F, .N, .N] [a0, a1, a2, .non, .non] _ _ (b_law_read a0 a1 a2) from (sv_ifS (et_cmp (op_eqD hr.units) od_eq (ev_bin op_mod od_mod (ev_varF (pe_var (i := 0) rfl (.inl rfl)) rfl rfl) ev_int) ev_int (nomark _)) (sv_ret (g := fun d => d) (ev_bin op_mod od_mod (ev_bin op_fdivW od_div (ev_bin op_mulD od_mul (ev_varF (pe_var (i := 0) rfl (.inl rfl)) rfl rfl) (ev_varF (pe_var (i := 0) rfl (.inl rfl)) rfl rfl)) ev_int) (ev_bin op_pow od_pow ev_int ev_int)) (fun d => ⟨rfl, rfl⟩)) (sv_set (i := 3) (ev_bin op_mod od_mod (ev_bin op_fdivW od_div (ev_varF (pe_var (i := 0) rfl (.inl rfl)) rfl rfl) ev_int) (ev_callB call_len bf_len (ea_P (ev_varF (pe_var (i := 1) rfl (.inl rfl)) rfl rfl) ea_nil) C.f_len (by decide +kernel))) (fun x1 => (sv_at (κ2 := [.F, .F, .F, .F, .N]) (en2 := [a0, a1, a2, x1, .non]) (sv_set (i := 4) (ev_ix (EV.frz (ev_lst (ea_F ev_int (ea_F ev_int (ea_F ev_int (ea_F ev_int (ea_F ev_int (ea_F ev_int (ea_F ev_int ea_nil)))))))) rfl) (ev_bin op_mod od_mod (ev_bin op_fdivW od_div (ev_varF (pe_var (i := 0) rfl (.inl rfl)) rfl rfl) ev_int) ev_int)) (fun x2 => (sv_at (κ2 := [.F, .F, .F, .F, .F]) (en2 := [a0, a1, a2, x1, x2]) (sv_ifJ [.F, .F, .F, .F, .F] (fun (t3 : D) => [a0, a1, a2, x1, t3]) (et_w (ew_and (et_cmp op_ge od_ge (ev_varF (pe_var (i := 3) rfl (.inl rfl)) rfl rfl) (ev_varF (pe_var (i := 2) rfl (.inl rfl)) rfl rfl) (nomark _)) (ew_and1 (et_cmp (op_eqD hr.units) od_eq (ev_varF (pe_var (i := 4) rfl (.inl rfl)) rfl rfl) ev_int (nomark _))))) (sv_set (i := 4) (ev_bin op_addD od_add ev_int (ev_bin op_mod od_mod (ev_bin op_fdivW od_div (ev_varF (pe_var (i := 0) rfl (.inl rfl)) rfl rfl) ev_int) ev_int)) (fun x4 => (sv_at (κ2 := [.F, .F, .F, .F, .F]) (en2 := [a0, a1, a2, x1, x4]) (sv_nil ⟨.inr ⟨rfl, rfl⟩, .inr ⟨rfl, rfl⟩, .inr ⟨rfl, rfl⟩, .inr ⟨rfl, rfl⟩, .inr ⟨rfl, rfl⟩, trivial⟩))) sc_law_read.nd) (sv_nil ⟨.inr ⟨rfl, rfl⟩, .inr ⟨rfl, rfl⟩, .inr ⟨rfl, rfl⟩, .inr ⟨rfl, rfl⟩, .inr ⟨rfl, rfl⟩, trivial⟩) (fun t3 => (sv_retD (ev_tup (ea_F (ev_ix (ev_varF (pe_var (i := 1) rfl (.inl rfl)) rfl rfl) (ev_varF (pe_var (i := 3) rfl (.inl rfl)) rfl rfl)) (ea_F (ev_varF (pe_var (i := 4) rfl (.inl rfl)) rfl rfl) ea_nil)))))))) sc_law_read.nd))) sc_law_read.nd))
def l_law_rows_1 (x6 : D) (a1 : D) (p4 : D) (p10 : D) (t9 : D) : R (D) := (R.bind (toL t9) fun xs => R.bind (R.bind (R.cons (R.bin2 (.ok x6) (R.bin2 (.ok (.int 18)) (R.bin2 (.ok (.int 401)) (.ok p10) pMul) pAdd) pDiv) (R.cons (.ok a1) (R.cons (.ok p4) (.ok [])))) f_law_read) fun d => R.bind (appL xs d) fun x11 => (.ok x11))
def l_law_rows_2 (a0 : D) (x2 : D) (a1 : D) (p4 : D) (t3 : D) : R (D) := (R.bind (R.bind (R.cons (.ok a0) (R.cons (.ok p4) (R.cons (.ok x2) (.ok [])))) f_law_sum_at) fun x5 => (R.bind (R.bin2 (R.bin2 (R.bin2 (R.bin2 (R.bin2 (.ok x5) (.ok x5) pMul) (.ok x5) pAdd) (.ok p4) pAdd) (.ok (.int 1)) pAdd) (.ok (.int 982451653)) pMul) fun x6 => (R.bind (R.bin2 (f_law_words []) (R.bin2 (R.bin2 (.ok x6) (.ok (.int 2)) pDiv) (.ok (.int 9)) pMod) pIx) fun x7 => (R.bind (R.bind (.ok []) mkL) fun x8 => (R.bind (R.bind (R.bin2 (R.bind (R.cons (.ok (.int 2)) (R.cons (.ok (.int 2)) (R.cons (.ok (.int 2)) (R.cons (.ok (.int 2)) (R.cons (.ok (.int 2)) (R.cons (.ok (.int 3)) (R.cons (.ok (.int 1)) (R.cons (.ok (.int 1)) (R.cons (.ok (.int 0)) (.ok [])))))))))) mkL) (R.bin2 (R.bin2 (.ok x6) (.ok (.int 2)) pDiv) (.ok (.int 9)) pMod) pIx) pRange1) fun xs => R.bind (rFor xs x8 ((l_law_rows_1 x6 a1 p4))) fun t9 => (R.bind (toL t3) fun xs => R.bind (R.bind (R.cons (R.bin2 (.ok a1) (.ok p4) pIx) (R.cons (.ok x7) (R.cons (R.bind (R.cons (.ok t9) (.ok [])) pTuple) (.ok [])))) mkT) fun d => R.bind (appL xs d) fun x12 => (.ok x12)))))))
def b_law_rows (a0 a1 : D) : R D := (R.bind (R.bind (.ok []) mkL) fun x1 => (R.bind (R.bind (R.cons (.ok a1) (.ok [])) pLen) fun x2 => (R.bind (R.bind (.ok x2) pRange1) fun xs => R.bind (rFor xs x1 ((l_law_rows_2 a0 x2 a1))) fun t3 => (.ok t3))))
def f_law_rows : List D → R D
  | [a0, a1] => b_law_rows a0 a1
  | _ => .bad
theorem sc_law_rows : FnScope ["_law_script", "_law_names_here", "_law_found", "_law_many", "_law_k", "_law_cell", "_law_mixed", "_law_word", "_law_reads", "_law_j"] ["_law_script", "_law_names_here"] (defScope (top 56)) := ⟨rfl, rfl, rfl, by decide +kernel, rfl, by decide +kernel, by decide +kernel⟩
theorem fd_law_rows (C : Ctx K mg) : FD P w K mg base 2 "_law_rows" f_law_rows [.F, .F] .F := by
  obtain ⟨fa, fd, g, F⟩ := C.d_law_rows
  refine ⟨fa, fd, ["_law_script", "_law_names_here"], g, F.kp, F.bindsN (fun _ _ _ _ _ _ us hl => match us, hl with | [_, _], _ => rfl), fd_ok F sc_law_rows rfl (by decide) fun cdv A outer s H E G ds hr hl => ?_⟩
  exact match ds, hl with
  | [a0, a1], _ =>
    show SV _ _ _ _ [.F, .F, .N, .N, .N, .N, .N, .N, .N, .N] [a0, a1, .non, .non, .non, .non, .non, .non, .non, .non] _ _ (b_law_rows a0 a1) from (sv_set (i := 2) (ev_lst ea_nil) (fun x1 => (sv_at (κ2 := [.F, .F, (.L .F), .N, .N, .N, .N, .N, .N, .N]) (en2 := [a0, a1, x1, .non, .non, .non, .non, .non, .non, .non]) (sv_set (i := 3) (ev_callB call_len bf_len (ea_P (ev_varF (pe_var (i := 1) rfl (.inl rfl)) rfl rfl) ea_nil) C.f_len (by decide +kernel)) (fun x2 => (sv_at (κ2 := [.F, .F, (.L .F), .F, .N, .N, .N, .N, .N, .N]) (en2 := [a0, a1, x1, x2, .non, .non, .non, .non, .non, .non]) (sv_for1 (i := 4) [.F, .F, (.L .F), .F, .N, .N, .N, .N, .N, .N] (fun (t3 : D) => [a0, a1, t3, x2, .non, .non, .non, .non, .non, .non]) x1 (ei_range1 (ev_varF (pe_var (i := 3) rfl (.inl rfl)) rfl rfl) C.f_range) (tg_name sc_law_rows.nd) ⟨.inr ⟨rfl, rfl⟩, .inr ⟨rfl, rfl⟩, .inr ⟨rfl, rfl⟩, .inr ⟨rfl, rfl⟩, .inl rfl, .inl rfl, .inl rfl, .inl rfl, .inl rfl, .inl rfl, trivial⟩ (fun _ p4 t3 => (sv_set (i := 5) (ev_call (fd_law_sum_at C) (hr.mono (by decide)) (takes_of rfl rfl rfl rfl) (ea_F (ev_varF (pe_var (i := 0) rfl (.inl rfl)) rfl rfl) (ea_F (ev_varF (pe_var (i := 4) rfl (.inl rfl)) rfl rfl) (ea_F (ev_varF (pe_var (i := 3) rfl (.inl rfl)) rfl rfl) ea_nil)))) (fun x5 => (sv_at (κ2 := [.F, .F, (.L .F), .F, .F, .F, .N, .N, .N, .N]) (en2 := [a0, a1, t3, x2, p4, x5, .non, .non, .non, .non]) (sv_set (i := 6) (ev_bin op_mulD od_mul (ev_bin op_addD od_add (ev_bin op_addD od_add (ev_bin op_addD od_add (ev_bin op_mulD od_mul (ev_varF (pe_var (i := 5) rfl (.inl rfl)) rfl rfl) (ev_varF (pe_var (i := 5) rfl (.inl rfl)) rfl rfl)) (ev_varF (pe_var (i := 5) rfl (.inl rfl)) rfl rfl)) (ev_varF (pe_var (i := 4) rfl (.inl rfl)) rfl rfl)) ev_int) ev_int) (fun x6 => (sv_at (κ2 := [.F, .F, (.L .F), .F, .F, .F, .F, .N, .N, .N]) (en2 := [a0, a1, t3, x2, p4, x5, x6, .non, .non, .non]) (sv_set (i := 7) (ev_ix (ev_call0 (fd_law_words C) (hr.mono (by decide)) (takes_of rfl rfl rfl rfl)) (ev_bin op_mod od_mod (ev_bin op_fdivW od_div (ev_varF (pe_var (i := 6) rfl (.inl rfl)) rfl rfl) ev_int) ev_int)) (fun x7 => (sv_at (κ2 := [.F, .F, (.L .F), .F, .F, .F, .F, .F, .N, .N]) (en2 := [a0, a1, t3, x2, p4, x5, x6, x7, .non, .non]) (sv_set (i := 8) (ev_lst ea_nil) (fun x8 => (sv_at (κ2 := [.F, .F, (.L .F), .F, .F, .F, .F, .F, (.L .F), .N]) (en2 := [a0, a1, t3, x2, p4, x5, x6, x7, x8, .non]) (sv_for1 (i := 9) [.F, .F, (.L .F), .F, .F, .F, .F, .F, (.L .F), .N] (fun (t9 : D) => [a0, a1, t3, x2, p4, x5, x6, x7, t9, .non]) x8 (ei_range1 (ev_ix (EV.frz (ev_lst (ea_F ev_int (ea_F ev_int (ea_F ev_int (ea_F ev_int (ea_F ev_int (ea_F ev_int (ea_F ev_int (ea_F ev_int (ea_F ev_int ea_nil)))))))))) rfl) (ev_bin op_mod od_mod (ev_bin op_fdivW od_div (ev_varF (pe_var (i := 6) rfl (.inl rfl)) rfl rfl) ev_int) ev_int)) C.f_range) (tg_name sc_law_rows.nd) ⟨.inr ⟨rfl, rfl⟩, .inr ⟨rfl, rfl⟩, .inr ⟨rfl, rfl⟩, .inr ⟨rfl, rfl⟩, .inr ⟨rfl, rfl⟩, .inr ⟨rfl, rfl⟩, .inr ⟨rfl, rfl⟩, .inr ⟨rfl, rfl⟩, .inr ⟨rfl, rfl⟩, .inl rfl, trivial⟩ (fun _ p10 t9 => (sv_app (pe_var (i := 8) rfl (.inl rfl)) (ev_call (fd_law_read C) (hr.mono (by decide)) (takes_of rfl rfl rfl rfl) (ea_F (ev_bin op_fdivW od_div (ev_varF (pe_var (i := 6) rfl (.inl rfl)) rfl rfl) (ev_bin op_addD od_add ev_int (ev_bin op_mulD od_mul ev_int (ev_varF (pe_var (i := 9) rfl (.inl rfl)) rfl rfl)))) (ea_F (ev_varF (pe_var (i := 1) rfl (.inl rfl)) rfl rfl) (ea_F (ev_varF (pe_var (i := 4) rfl (.inl rfl)) rfl rfl) ea_nil)))) (fun x11 => (sv_at (κ2 := [.F, .F, (.L .F), .F, .F, .F, .F, .F, (.L .F), .F]) (en2 := [a0, a1, t3, x2, p4, x5, x6, x7, x11, p10]) (sv_nil ⟨.inr ⟨rfl, rfl⟩, .inr ⟨rfl, rfl⟩, .inr ⟨rfl, rfl⟩, .inr ⟨rfl, rfl⟩, .inr ⟨rfl, rfl⟩, .inr ⟨rfl, rfl⟩, .inr ⟨rfl, rfl⟩, .inr ⟨rfl, rfl⟩, .inr ⟨rfl, rfl⟩, .inl rfl, trivial⟩))))) (fun t9 => (sv_freeze (i := 8) (q := (.L .F)) rfl (sv_app (pe_var (i := 2) rfl (.inl rfl)) (ev_tup (ea_F (ev_ix (ev_varF (pe_var (i := 1) rfl (.inl rfl)) rfl rfl) (ev_varF (pe_var (i := 4) rfl (.inl rfl)) rfl rfl)) (ea_F (ev_varF (pe_var (i := 7) rfl (.inl rfl)) rfl rfl) (ea_F (ev_callTy call_tuple_of bf_tuple (ea_F (ev_varF (pe_var (i := 8) rfl (.inl rfl)) rfl rfl) ea_nil) C.f_tuple (by decide +kernel)) ea_nil)))) (fun x12 => (sv_at (κ2 := [.F, .F, (.L .F), .F, .F, .F, .F, .F, .F, .N]) (en2 := [a0, a1, x12, x2, p4, x5, x6, x7, t9, .non]) (sv_nil ⟨.inr ⟨rfl, rfl⟩, .inr ⟨rfl, rfl⟩, .inr ⟨rfl, rfl⟩, .inr ⟨rfl, rfl⟩, .inl rfl, .inl rfl, .inl rfl, .inl rfl, .inl rfl, .inl rfl, trivial⟩)))))) (passes_of rfl)))) sc_law_rows.nd))) sc_law_rows.nd))) sc_law_rows.nd))) sc_law_rows.nd)) (fun t3 => (sv_freeze (i := 2) (q := (.L .F)) rfl (sv_retD (ev_varF (pe_var (i := 2) rfl (.inl rfl)) rfl rfl)))) (passes_of rfl)))) sc_law_rows.nd))) sc_law_rows.nd)
def l_law_names_1 (x1 : D) (x2 : D) (x7 : D) (x6 : D) (x4 : D) (p10 : D) (t9 : D) : R (D) := (R.bind (R.bin2 (.ok x1) (R.bin2 (R.bin2 (R.bin2 (.ok x2) (.ok (.int 864)) pDiv) (R.bin2 (.ok p10) (.ok x7) pMul) pAdd) (.ok (.int 26)) pMod) pIx) fun x11 => (R.bind (R.bind (R.bin2 (R.bin2 (R.bin2 (.ok x2) (.ok (.int 900)) pDiv) (.ok (.int 3)) pMod) (.ok (.int 1)) pEq) toB) fun b => if b = true then (R.bind (toL t9) fun xs => R.bind (R.bin2 (R.bin2 (.ok x6) (.ok (.int 0)) pIx) (R.bin2 (R.bin2 (R.bin2 (.ok p10) (R.bin2 (.ok x2) (.ok (.int 7)) pDiv) pAdd) (.ok (.int 12)) pMod) (.ok (.int 1)) pAdd) pMul) fun d => R.bind (appL xs d) fun x12 => (.ok x12)) else (R.bind (toL t9) fun xs => R.bind (R.bin2 (R.bin2 (R.bin2 (R.bind (.ok (.str "")) stOnly) (sl3 (.ok x6) (.ok none) (R.bind (.ok x4) toI) pSlL) pJoin) (.ok x11) pAdd) (R.bin2 (R.bind (.ok (.str "")) stOnly) (sl3 (.ok x6) (R.bind (R.bin2 (.ok x4) (.ok (.int 1)) pAdd) toI) (.ok none) pSlL) pJoin) pAdd) fun d => R.bind (appL xs d) fun x13 => (.ok x13))))
def b_law_names (a0 a1 : D) : R D := (R.bind (.ok (.str "abcdefghijklmnopqrstuvwxyz")) fun x1 => (R.bind (R.bin2 (R.bin2 (R.bin2 (R.bin2 (.ok a0) (.ok a0) pMul) (.ok a0) pAdd) (.ok (.int 1)) pAdd) (.ok (.int 982451653)) pMul) fun x2 => (R.bind (R.bin2 (.ok (.int 1)) (R.bin2 (.ok x2) (.ok (.int 12)) pMod) pAdd) fun x3 => (R.bind (R.bin2 (R.bin2 (.ok x2) (.ok (.int 12)) pDiv) (.ok x3) pMod) fun x4 => (R.bind (pComp (R.bind (.ok x3) pRange1) (fun d => .ok d) (fun p5 => (.ok true)) (fun p5 => (R.bin2 (.ok x1) (R.bin2 (R.bin2 (R.bin2 (.ok x2) (R.bin2 (.ok p5) (.ok (.int 5)) pAdd) pDiv) (R.bin2 (.ok p5) (.ok p5) pMul) pAdd) (.ok (.int 26)) pMod) pIx))) fun x6 => (R.bind (R.bin2 (R.bind (R.cons (.ok (.int 1)) (R.cons (.ok (.int 3)) (R.cons (.ok (.int 5)) (R.cons (.ok (.int 7)) (R.cons (.ok (.int 9)) (R.cons (.ok (.int 11)) (.ok []))))))) mkL) (R.bin2 (R.bin2 (.ok x2) (.ok (.int 144)) pDiv) (.ok (.int 6)) pMod) pIx) fun x7 => (R.bind (R.bind (.ok []) mkL) fun x8 => (R.bind (R.bind (.ok a1) pRange1) fun xs => R.bind (rFor xs x8 ((l_law_names_1 x1 x2 x7 x6 x4))) fun t9 => (.ok t9)))))))))
def f_law_names : List D → R D
  | [a0, a1] => b_law_names a0 a1
  | _ => .bad
theorem sc_law_names : FnScope ["_law_cell", "_law_count", "_law_letters", "_law_mixed", "_law_size", "_law_at", "_law_k", "_law_base", "_law_step", "_law_found", "_law_turned_on"] ["_law_cell", "_law_count"] (defScope (top 54)) := ⟨rfl, rfl, rfl, by decide +kernel, rfl, by decide +kernel, by decide +kernel⟩
theorem fd_law_names (C : Ctx K mg) : FD P w K mg base 1 "_law_names" f_law_names [.F, .F] .F := by
  obtain ⟨fa, fd, g, F⟩ := C.d_law_names
  refine ⟨fa, fd, ["_law_cell", "_law_count"], g, F.kp, F.bindsN (fun _ _ _ _ _ _ us hl => match us, hl with | [_, _], _ => rfl), fd_ok F sc_law_names rfl (by decide) fun cdv A outer s H E G ds hr hl => ?_⟩
  exact match ds, hl with
  | [a0, a1], _ =>
    show SV _ _ _ _ [.F, .F, .N, .N, .N, .N, .N, .N, .N, .N, .N] [a0, a1, .non, .non, .non, .non, .non, .non, .non, .non, .non] _ _ (b_law_names a0 a1) from (sv_set (i := 2) (ev_str s_9) (fun x1 => (sv_at (κ2 := [.F, .F, .F, .N, .N, .N, .N, .N, .N, .N, .N]) (en2 := [a0, a1, x1, .non, .non, .non, .non, .non, .non, .non, .non]) (sv_set (i := 3) (ev_bin op_mulD od_mul (ev_bin op_addD od_add (ev_bin op_addD od_add (ev_bin op_mulD od_mul (ev_varF (pe_var (i := 0) rfl (.inl rfl)) rfl rfl) (ev_varF (pe_var (i := 0) rfl (.inl rfl)) rfl rfl)) (ev_varF (pe_var (i := 0) rfl (.inl rfl)) rfl rfl)) ev_int) ev_int) (fun x2 => (sv_at (κ2 := [.F, .F, .F, .F, .N, .N, .N, .N, .N, .N, .N]) (en2 := [a0, a1, x1, x2, .non, .non, .non, .non, .non, .non, .non]) (sv_set (i := 4) (ev_bin op_addD od_add ev_int (ev_bin op_mod od_mod (ev_varF (pe_var (i := 3) rfl (.inr (.inl rfl))) rfl rfl) ev_int)) (fun x3 => (sv_at (κ2 := [.F, .F, .F, .F, .F, .N, .N, .N, .N, .N, .N]) (en2 := [a0, a1, x1, x2, x3, .non, .non, .non, .non, .non, .non]) (sv_set (i := 5) (ev_bin op_mod od_mod (ev_bin op_fdivW od_div (ev_varF (pe_var (i := 3) rfl (.inr (.inl rfl))) rfl rfl) ev_int) (ev_varF (pe_var (i := 4) rfl (.inl rfl)) rfl rfl)) (fun x4 => (sv_at (κ2 := [.F, .F, .F, .F, .F, .F, .N, .N, .N, .N, .N]) (en2 := [a0, a1, x1, x2, x3, x4, .non, .non, .non, .non, .non]) (sv_setC (i := 7) sc_law_names.nd (ei_range1 (ev_varF (pe_var (i := 4) rfl (.inl rfl)) rfl rfl) C.f_range) (blkOk_by (own := [("_law_k", 6)]) rfl) (tgb_name (i := 6) (fun _ _ _ _ _ => pg_name sc_law_names.nd rfl (.inl rfl) (.inr rfl))) (fun _ _ _ _ _ _ p5 => ets_nil) (fun _ _ _ _ _ _ p5 => (ev_ix (ev_varF (pe_var (i := 2) rfl (.inr (.inl rfl))) rfl rfl) (ev_bin op_mod od_mod (ev_bin op_addD od_add (ev_bin op_fdivW od_div (ev_varF (pe_var (i := 3) rfl (.inr (.inl rfl))) rfl rfl) (ev_bin op_addD od_add (ev_varF (pe_var (i := 6) rfl (.inl rfl)) rfl rfl) ev_int)) (ev_bin op_mulD od_mul (ev_varF (pe_var (i := 6) rfl (.inl rfl)) rfl rfl) (ev_varF (pe_var (i := 6) rfl (.inl rfl)) rfl rfl))) ev_int))) (fun x6 => (sv_at (κ2 := [.F, .F, .F, .F, .F, .F, .N, (.L .F), .N, .N, .N]) (en2 := [a0, a1, x1, x2, x3, x4, .non, x6, .non, .non, .non]) (sv_set (i := 8) (ev_ix (EV.frz (ev_lst (ea_F ev_int (ea_F ev_int (ea_F ev_int (ea_F ev_int (ea_F ev_int (ea_F ev_int ea_nil))))))) rfl) (ev_bin op_mod od_mod (ev_bin op_fdivW od_div (ev_varF (pe_var (i := 3) rfl (.inr (.inl rfl))) rfl rfl) ev_int) ev_int)) (fun x7 => (sv_at (κ2 := [.F, .F, .F, .F, .F, .F, .N, (.L .F), .F, .N, .N]) (en2 := [a0, a1, x1, x2, x3, x4, .non, x6, x7, .non, .non]) (sv_set (i := 9) (ev_lst ea_nil) (fun x8 => (sv_at (κ2 := [.F, .F, .F, .F, .F, .F, .N, (.L .F), .F, (.L .F), .N]) (en2 := [a0, a1, x1, x2, x3, x4, .non, x6, x7, x8, .non]) (sv_freeze (i := 7) (q := (.L .F)) rfl (sv_for1 (i := 6) [.F, .F, .F, .F, .F, .F, .N, .F, .F, (.L .F), .N] (fun (t9 : D) => [a0, a1, x1, x2, x3, x4, .non, x6, x7, t9, .non]) x8 (ei_range1 (ev_varF (pe_var (i := 1) rfl (.inl rfl)) rfl rfl) C.f_range) (tg_name sc_law_names.nd) ⟨.inr ⟨rfl, rfl⟩, .inr ⟨rfl, rfl⟩, .inr ⟨rfl, rfl⟩, .inr ⟨rfl, rfl⟩, .inr ⟨rfl, rfl⟩, .inr ⟨rfl, rfl⟩, .inl rfl, .inr ⟨rfl, rfl⟩, .inr ⟨rfl, rfl⟩, .inr ⟨rfl, rfl⟩, .inl rfl, trivial⟩ (fun _ p10 t9 => (sv_set (i := 10) (ev_ix (ev_varF (pe_var (i := 2) rfl (.inr (.inl rfl))) rfl rfl) (ev_bin op_mod od_mod (ev_bin op_addD od_add (ev_bin op_fdivW od_div (ev_varF (pe_var (i := 3) rfl (.inr (.inl rfl))) rfl rfl) ev_int) (ev_bin op_mulD od_mul (ev_varF (pe_var (i := 6) rfl (.inl rfl)) rfl rfl) (ev_varF (pe_var (i := 8) rfl (.inl rfl)) rfl rfl))) ev_int)) (fun x11 => (sv_at (κ2 := [.F, .F, .F, .F, .F, .F, .F, .F, .F, (.L .F), .F]) (en2 := [a0, a1, x1, x2, x3, x4, p10, x6, x7, t9, x11]) (sv_ifE (et_cmp (op_eqD hr.units) od_eq (ev_bin op_mod od_mod (ev_bin op_fdivW od_div (ev_varF (pe_var (i := 3) rfl (.inr (.inl rfl))) rfl rfl) ev_int) ev_int) ev_int (nomark _)) (sv_app (pe_var (i := 9) rfl (.inl rfl)) (ev_bin op_mulD od_mul (ev_ix (ev_varF (pe_var (i := 7) rfl (.inl rfl)) rfl rfl) ev_int) (ev_bin op_addD od_add (ev_bin op_mod od_mod (ev_bin op_addD od_add (ev_varF (pe_var (i := 6) rfl (.inl rfl)) rfl rfl) (ev_bin op_fdivW od_div (ev_varF (pe_var (i := 3) rfl (.inr (.inl rfl))) rfl rfl) ev_int)) ev_int) ev_int)) (fun x12 => (sv_at (κ2 := [.F, .F, .F, .F, .F, .F, .F, .F, .F, (.L .F), .F]) (en2 := [a0, a1, x1, x2, x3, x4, p10, x6, x7, x12, x11]) (sv_nil ⟨.inr ⟨rfl, rfl⟩, .inr ⟨rfl, rfl⟩, .inr ⟨rfl, rfl⟩, .inr ⟨rfl, rfl⟩, .inr ⟨rfl, rfl⟩, .inr ⟨rfl, rfl⟩, .inl rfl, .inr ⟨rfl, rfl⟩, .inr ⟨rfl, rfl⟩, .inr ⟨rfl, rfl⟩, .inl rfl, trivial⟩)))) (sv_app (pe_var (i := 9) rfl (.inl rfl)) (ev_bin op_addD od_add (ev_bin op_addD od_add (ev_join (ev_str s_10) (ev_slL (ev_varF (pe_var (i := 7) rfl (.inl rfl)) rfl rfl) eo_none (eo_some (ev_varF (pe_var (i := 5) rfl (.inl rfl)) rfl rfl)))) (ev_varF (pe_var (i := 10) rfl (.inl rfl)) rfl rfl)) (ev_join (ev_str s_10) (ev_slL (ev_varF (pe_var (i := 7) rfl (.inl rfl)) rfl rfl) (eo_some (ev_bin op_addD od_add (ev_varF (pe_var (i := 5) rfl (.inl rfl)) rfl rfl) ev_int)) eo_none))) (fun x13 => (sv_at (κ2 := [.F, .F, .F, .F, .F, .F, .F, .F, .F, (.L .F), .F]) (en2 := [a0, a1, x1, x2, x3, x4, p10, x6, x7, x13, x11]) (sv_nil ⟨.inr ⟨rfl, rfl⟩, .inr ⟨rfl, rfl⟩, .inr ⟨rfl, rfl⟩, .inr ⟨rfl, rfl⟩, .inr ⟨rfl, rfl⟩, .inr ⟨rfl, rfl⟩, .inl rfl, .inr ⟨rfl, rfl⟩, .inr ⟨rfl, rfl⟩, .inr ⟨rfl, rfl⟩, .inl rfl, trivial⟩))))))) sc_law_names.nd)) (fun t9 => (sv_freeze (i := 9) (q := (.L .F)) rfl (sv_retD (ev_varF (pe_var (i := 9) rfl (.inl rfl)) rfl rfl)))) (passes_of rfl))))) sc_law_names.nd))) sc_law_names.nd))) (sw_true rfl rfl rfl rfl)))) sc_law_names.nd))) sc_law_names.nd))) sc_law_names.nd))) sc_law_names.nd)
def l_law_loop_text_1 (p6 : D) (t5 : D) : R (D) := (R.bind (notT (R.bind (R.bind (.ok p6) (pIsTy "tuple")) toB)) fun b => if b = true then (R.bind (R.bin2 (R.bin2 (.ok t5) (.ok (.str " ")) pAdd) (R.bind (R.cons (.ok p6) (.ok [])) pStr) pAdd) fun x7 => (.ok x7)) else (R.bind (R.bin2 (R.bin2 (R.bin2 (.ok t5) (.ok (.str " ")) pAdd) (R.bin2 (.ok p6) (.ok (.int 0)) pIx) pAdd) (R.bin2 (R.bind (R.cons (.ok (.str "")) (R.cons (R.bin2 (.ok (.str "@")) (R.bind (R.cons (R.bin2 (.ok p6) (.ok (.int 1)) pIx) (.ok [])) pStr) pAdd) (.ok []))) mkL) (R.bind (R.cons (R.bin2 (R.bin2 (.ok p6) (.ok (.int 1)) pIx) (.ok (.int 0)) pGt) (.ok [])) pInt) pIx) pAdd) fun x8 => (.ok x8)))
def l_law_loop_text_2 (p3 : D × D × D) (t2 : D) : R (D) := (R.bind (R.bin2 (R.bin2 (.ok p3.1) (.ok (.str " = ")) pAdd) (.ok p3.2.1) pAdd) fun x4 => (R.bind (R.bind (.ok p3.2.2) toSeq) fun xs => R.bind (rFor xs x4 (l_law_loop_text_1)) fun t5 => (R.bind (toL t2) fun xs => R.bind (.ok t5) fun d => R.bind (appL xs d) fun x9 => (.ok x9))))
def b_law_loop_text (a0 a1 : D) : R D := (R.bind (R.bind (R.cons (R.bin2 (.ok (.str "measure ")) (R.bind (R.cons (.ok a0) (.ok [])) pStr) pAdd) (.ok [])) mkL) fun x1 => (R.bind (R.bind (.ok a1) toSeq) fun xs => R.bind (rFor xs x1 (fun x t2 => R.bind (un3 x) fun p3 => l_law_loop_text_2 p3 t2)) fun t2 => (R.bin2 (R.bind (.ok (.str "\n")) stOnly) (.ok t2) pJoin)))
def f_law_loop_text : List D → R D
  | [a0, a1] => b_law_loop_text a0 a1
  | _ => .bad
theorem sc_law_loop_text : FnScope ["_law_measure", "_law_rows_here", "_law_lines", "_law_name", "_law_word", "_law_reads", "_law_line", "_law_read_here"] ["_law_measure", "_law_rows_here"] (defScope (top 57)) := ⟨rfl, rfl, rfl, by decide +kernel, rfl, by decide +kernel, by decide +kernel⟩
theorem fd_law_loop_text (C : Ctx K mg) : FD P w K mg base 1 "_law_loop_text" f_law_loop_text [.F, .F] .F := by
  obtain ⟨fa, fd, g, F⟩ := C.d_law_loop_text
  refine ⟨fa, fd, ["_law_measure", "_law_rows_here"], g, F.kp, F.bindsN (fun _ _ _ _ _ _ us hl => match us, hl with | [_, _], _ => rfl), fd_ok F sc_law_loop_text rfl (by decide) fun cdv A outer s H E G ds hr hl => ?_⟩
  exact match ds, hl with
  | [a0, a1], _ =>
    show SV _ _ _ _ [.F, .F, .N, .N, .N, .N, .N, .N] [a0, a1, .non, .non, .non, .non, .non, .non] _ _ (b_law_loop_text a0 a1) from (sv_set (i := 2) (ev_lst (ea_F (ev_bin op_addD od_add (ev_str s_11) (ev_callTy call_str_int bf_str (ea_P (ev_varF (pe_var (i := 0) rfl (.inl rfl)) rfl rfl) ea_nil) C.f_str (by decide +kernel))) ea_nil)) (fun x1 => (sv_at (κ2 := [.F, .F, (.L .F), .N, .N, .N, .N, .N]) (en2 := [a0, a1, x1, .non, .non, .non, .non, .non]) (sv_for (js := [3, 4, 5]) [.F, .F, (.L .F), .N, .N, .N, .N, .N] (fun (t2 : D) => [a0, a1, t2, .non, .non, .non, .non, .non]) x1 (ei_seq (ev_varF (pe_var (i := 1) rfl (.inl rfl)) rfl rfl)) (tg_tup (js := [3, 4, 5]) (vs := fun p => [p.1, p.2.1, p.2.2]) (pg_tup rfl (pgs_cons (pg_name (i := 3) sc_law_loop_text.nd rfl (.inl rfl) (.inl rfl)) (pgs_cons (pg_name (i := 4) sc_law_loop_text.nd rfl (.inl rfl) (.inl rfl)) (pgs_cons (pg_name (i := 5) sc_law_loop_text.nd rfl (.inl rfl) (.inl rfl)) pgs_nil)))) un3_ok un3_nx) ⟨.inr ⟨rfl, rfl⟩, .inr ⟨rfl, rfl⟩, .inr ⟨rfl, rfl⟩, .inl rfl, .inl rfl, .inl rfl, .inl rfl, .inl rfl, trivial⟩ (fun _ p3 t2 => (sv_set (i := 6) (ev_bin op_addD od_add (ev_bin op_addD od_add (ev_varF (pe_var (i := 3) rfl (.inl rfl)) rfl rfl) (ev_str s_12)) (ev_varF (pe_var (i := 4) rfl (.inl rfl)) rfl rfl)) (fun x4 => (sv_at (κ2 := [.F, .F, (.L .F), .F, .F, .F, .F, .N]) (en2 := [a0, a1, t2, p3.1, p3.2.1, p3.2.2, x4, .non]) (sv_for1 (i := 7) [.F, .F, (.L .F), .F, .F, .F, .F, .N] (fun (t5 : D) => [a0, a1, t2, p3.1, p3.2.1, p3.2.2, t5, .non]) x4 (ei_seq (ev_varF (pe_var (i := 5) rfl (.inl rfl)) rfl rfl)) (tg_name sc_law_loop_text.nd) ⟨.inr ⟨rfl, rfl⟩, .inr ⟨rfl, rfl⟩, .inr ⟨rfl, rfl⟩, .inr ⟨rfl, rfl⟩, .inr ⟨rfl, rfl⟩, .inr ⟨rfl, rfl⟩, .inr ⟨rfl, rfl⟩, .inl rfl, trivial⟩ (fun _ p6 t5 => (sv_ifE (et_not (et_val (ev_isTy (T := "tuple") (ev_varF (pe_var (i := 7) rfl (.inl rfl)) rfl rfl) C.f_isinstance C.f_tuple (by decide +kernel)))) (sv_set (i := 6) (ev_bin op_addD od_add (ev_bin op_addD od_add (ev_varF (pe_var (i := 6) rfl (.inl rfl)) rfl rfl) (ev_str s_13)) (ev_callTy call_str_int bf_str (ea_P (ev_varF (pe_var (i := 7) rfl (.inl rfl)) rfl rfl) ea_nil) C.f_str (by decide +kernel))) (fun x7 => (sv_at (κ2 := [.F, .F, (.L .F), .F, .F, .F, .F, .F]) (en2 := [a0, a1, t2, p3.1, p3.2.1, p3.2.2, x7, p6]) (sv_nil ⟨.inr ⟨rfl, rfl⟩, .inr ⟨rfl, rfl⟩, .inr ⟨rfl, rfl⟩, .inr ⟨rfl, rfl⟩, .inr ⟨rfl, rfl⟩, .inr ⟨rfl, rfl⟩, .inr ⟨rfl, rfl⟩, .inl rfl, trivial⟩))) sc_law_loop_text.nd) (sv_set (i := 6) (ev_bin op_addD od_add (ev_bin op_addD od_add (ev_bin op_addD od_add (ev_varF (pe_var (i := 6) rfl (.inl rfl)) rfl rfl) (ev_str s_13)) (ev_ix (ev_varF (pe_var (i := 7) rfl (.inl rfl)) rfl rfl) ev_int)) (ev_ix (EV.frz (ev_lst (ea_F (ev_str s_10) (ea_F (ev_bin op_addD od_add (ev_str s_14) (ev_callTy call_str_int bf_str (ea_P (ev_ix (ev_varF (pe_var (i := 7) rfl (.inl rfl)) rfl rfl) ev_int) ea_nil) C.f_str (by decide +kernel))) ea_nil))) rfl) (ev_callTy call_int1 bf_int (ea_P (ev_cmp op_gt od_gt (ev_ix (ev_varF (pe_var (i := 7) rfl (.inl rfl)) rfl rfl) ev_int) ev_int (nomark _)) ea_nil) C.f_int (by decide +kernel)))) (fun x8 => (sv_at (κ2 := [.F, .F, (.L .F), .F, .F, .F, .F, .F]) (en2 := [a0, a1, t2, p3.1, p3.2.1, p3.2.2, x8, p6]) (sv_nil ⟨.inr ⟨rfl, rfl⟩, .inr ⟨rfl, rfl⟩, .inr ⟨rfl, rfl⟩, .inr ⟨rfl, rfl⟩, .inr ⟨rfl, rfl⟩, .inr ⟨rfl, rfl⟩, .inr ⟨rfl, rfl⟩, .inl rfl, trivial⟩))) sc_law_loop_text.nd))) (fun t5 => (sv_app (pe_var (i := 2) rfl (.inl rfl)) (ev_varF (pe_var (i := 6) rfl (.inl rfl)) rfl rfl) (fun x9 => (sv_at (κ2 := [.F, .F, (.L .F), .F, .F, .F, .F, .N]) (en2 := [a0, a1, x9, p3.1, p3.2.1, p3.2.2, t5, .non]) (sv_nil ⟨.inr ⟨rfl, rfl⟩, .inr ⟨rfl, rfl⟩, .inr ⟨rfl, rfl⟩, .inl rfl, .inl rfl, .inl rfl, .inl rfl, .inl rfl, trivial⟩))))) (passes_of rfl)))) sc_law_loop_text.nd)) (fun t2 => (sv_retD (ev_join (ev_str s_15) (ev_varE (pe_var (i := 2) rfl (.inl rfl)) rfl rfl)))) (passes_of rfl)))) sc_law_loop_text.nd)
def b_Loop_rows (a0 : D) : R D := (R.bind (R.cons (R.bind (.ok a0) (pFld "Loop" "kept_rows")) (.ok [])) pList)
def f_Loop_rows : List D → R D
  | [a0] => b_Loop_rows a0
  | _ => .bad
theorem sc_Loop_rows : FnScope ["self"] ["self"] (defScope (inCls (top 37) 1)) := ⟨rfl, rfl, rfl, by decide +kernel, rfl, by decide +kernel, by decide +kernel⟩
theorem fn_Loop_rows {fa : Addr} {fd : FuncData} (C : Ctx K mg) (F : FunD K "rows" "Loop.rows" (defArgs (inCls (top 37) 1)) (defBody (inCls (top 37) 1)) (defScope (inCls (top 37) 1)) [] [] fa fd) : Binds K fd ["self"] [] ∧ FnOk P w K mg base (L2.CX P w) 1 fa fd ["self"] (spF K mg f_Loop_rows [.F] (.O (.L .F))) := by
  refine ⟨F.bindsN (fun _ _ _ _ _ _ us hl => match us, hl with | [_], _ => rfl), fd_ok F sc_Loop_rows rfl (by decide) fun cdv A outer s H E G ds hr hl => ?_⟩
  exact match ds, hl with
  | [a0], _ =>
    show SV _ _ _ _ [.F] [a0] _ _ (b_Loop_rows a0) from (sv_retD (ev_callTy call_list_of bf_list (ea_F (ev_fld C.fl_Loop_kept_rows (ev_varF (pe_var (i := 0) rfl (.inl rfl)) rfl rfl)) ea_nil) C.f_list (by decide +kernel)))
theorem fm_Loop_rows (C : Ctx K mg) : FM P w K mg base 1 "Loop" "rows" f_Loop_rows [.F] (.O (.L .F)) := by
  obtain ⟨cl, fa, fd, g, hc, hm, F⟩ := C.e_Loop_rows
  have z := fn_Loop_rows (P := P) (w := w) (base := base) C F
  exact ⟨cl, fa, fd, _, g, hc, hm, z.1, z.2⟩
def b_is_number (a0 : D) : R D := (R.bind (.ok a0) (pIsTy "int"))
def f_is_number : List D → R D
  | [a0] => b_is_number a0
  | _ => .bad
theorem sc_is_number : FnScope ["read"] ["read"] (defScope (top 34)) := ⟨rfl, rfl, rfl, by decide +kernel, rfl, by decide +kernel, by decide +kernel⟩
theorem fd_is_number (C : Ctx K mg) : FD P w K mg base 1 "is_number" f_is_number [.F] .F := by
  obtain ⟨fa, fd, g, F⟩ := C.d_is_number
  refine ⟨fa, fd, ["read"], g, F.kp, F.bindsN (fun _ _ _ _ _ _ us hl => match us, hl with | [_], _ => rfl), fd_ok F sc_is_number rfl (by decide) fun cdv A outer s H E G ds hr hl => ?_⟩
  exact match ds, hl with
  | [a0], _ =>
    show SV _ _ _ _ [.F] [a0] _ _ (b_is_number a0) from (sv_retD (ev_isTy (T := "int") (ev_varF (pe_var (i := 0) rfl (.inl rfl)) rfl rfl) C.f_isinstance C.f_int (by decide +kernel)))
def b_read_shown (a0 : D) : R D := (R.bind (R.bind (R.bind (R.cons (.ok a0) (.ok [])) f_is_number) toB) fun b => if b = true then (R.bind (R.bind (R.cons (.ok a0) (.ok [])) pStr) fun d => .ok d) else (R.bind (R.bind (R.bin2 (R.bin2 (.ok a0) (.ok (.int 1)) pIx) (.ok (.int 0)) pEq) toB) fun b => if b = true then (R.bind (R.bin2 (.ok a0) (.ok (.int 0)) pIx) fun d => .ok d) else (R.bin2 (R.bin2 (R.bin2 (.ok a0) (.ok (.int 0)) pIx) (.ok (.str "@")) pAdd) (R.bind (R.cons (R.bin2 (.ok a0) (.ok (.int 1)) pIx) (.ok [])) pStr) pAdd)))
def f_read_shown : List D → R D
  | [a0] => b_read_shown a0
  | _ => .bad
theorem sc_read_shown : FnScope ["read"] ["read"] (defScope (top 41)) := ⟨rfl, rfl, rfl, by decide +kernel, rfl, by decide +kernel, by decide +kernel⟩
theorem fd_read_shown (C : Ctx K mg) : FD P w K mg base 2 "read_shown" f_read_shown [.F] .F := by
  obtain ⟨fa, fd, g, F⟩ := C.d_read_shown
  refine ⟨fa, fd, ["read"], g, F.kp, F.bindsN (fun _ _ _ _ _ _ us hl => match us, hl with | [_], _ => rfl), fd_ok F sc_read_shown rfl (by decide) fun cdv A outer s H E G ds hr hl => ?_⟩
  exact match ds, hl with
  | [a0], _ =>
    show SV _ _ _ _ [.F] [a0] _ _ (b_read_shown a0) from (sv_ifS (et_val (ev_call (fd_is_number C) (hr.mono (by decide)) (takes_of rfl rfl rfl rfl) (ea_F (ev_varF (pe_var (i := 0) rfl (.inl rfl)) rfl rfl) ea_nil))) (sv_ret (g := fun d => d) (ev_callTy call_str_int bf_str (ea_P (ev_varF (pe_var (i := 0) rfl (.inl rfl)) rfl rfl) ea_nil) C.f_str (by decide +kernel)) (fun d => ⟨rfl, rfl⟩)) (sv_ifS (et_cmp (op_eqD hr.units) od_eq (ev_ix (ev_varF (pe_var (i := 0) rfl (.inl rfl)) rfl rfl) ev_int) ev_int (nomark _)) (sv_ret (g := fun d => d) (ev_ix (ev_varF (pe_var (i := 0) rfl (.inl rfl)) rfl rfl) ev_int) (fun d => ⟨rfl, rfl⟩)) (sv_retD (ev_bin op_addD od_add (ev_bin op_addD od_add (ev_ix (ev_varF (pe_var (i := 0) rfl (.inl rfl)) rfl rfl) ev_int) (ev_str s_14)) (ev_callTy call_str_int bf_str (ea_P (ev_ix (ev_varF (pe_var (i := 0) rfl (.inl rfl)) rfl rfl) ev_int) ea_nil) C.f_str (by decide +kernel))))))
def l_loop_shown_1 (p3 : D × D × D) (t2 : D) : R (D) := (R.bind (toL t2) fun xs => R.bind (R.bin2 (R.bind (.ok (.str " ")) stOnly) (R.bin2 (R.bind (R.cons (.ok p3.1) (R.cons (.ok (.str "=")) (R.cons (.ok p3.2.1) (.ok [])))) mkL) (pComp (R.bind (.ok p3.2.2) toSeq) (fun d => .ok d) (fun p4 => (.ok true)) (fun p4 => (R.bind (R.cons (.ok p4) (.ok [])) f_read_shown))) pCatL) pJoin) fun d => R.bind (appL xs d) fun x5 => (.ok x5))
def b_loop_shown (a0 : D) : R D := (R.bind (R.bind (R.cons (R.bin2 (.ok (.str "measure ")) (R.bind (R.cons (R.bind (.ok a0) (pFld "Loop" "measure")) (.ok [])) pStr) pAdd) (.ok [])) mkL) fun x1 => (R.bind (R.bind (R.bind (R.bind (.ok a0) (asObj "Loop" "rows")) fun d => f_Loop_rows [d]) toSeq) fun xs => R.bind (rFor xs x1 (fun x t2 => R.bind (un3 x) fun p3 => l_loop_shown_1 p3 t2)) fun t2 => (R.bin2 (R.bind (.ok (.str "\n")) stOnly) (.ok t2) pJoin)))
def f_loop_shown : List D → R D
  | [a0] => b_loop_shown a0
  | _ => .bad
theorem sc_loop_shown : FnScope ["loop", "rows", "name", "word", "reads", "read"] ["loop"] (defScope (top 42)) := ⟨rfl, rfl, rfl, by decide +kernel, rfl, by decide +kernel, by decide +kernel⟩
theorem fd_loop_shown (C : Ctx K mg) : FD P w K mg base 3 "loop_shown" f_loop_shown [.F] .F := by
  obtain ⟨fa, fd, g, F⟩ := C.d_loop_shown
  refine ⟨fa, fd, ["loop"], g, F.kp, F.bindsN (fun _ _ _ _ _ _ us hl => match us, hl with | [_], _ => rfl), fd_ok F sc_loop_shown rfl (by decide) fun cdv A outer s H E G ds hr hl => ?_⟩
  exact match ds, hl with
  | [a0], _ =>
    show SV _ _ _ _ [.F, .N, .N, .N, .N, .N] [a0, .non, .non, .non, .non, .non] _ _ (b_loop_shown a0) from (sv_set (i := 1) (ev_lst (ea_F (ev_bin op_addD od_add (ev_str s_11) (ev_callTy call_str_int bf_str (ea_P (ev_fld C.fl_Loop_measure (ev_varF (pe_var (i := 0) rfl (.inl rfl)) rfl rfl)) ea_nil) C.f_str (by decide +kernel))) ea_nil)) (fun x1 => (sv_at (κ2 := [.F, (.L .F), .N, .N, .N, .N]) (en2 := [a0, x1, .non, .non, .non, .non]) (sv_for (js := [2, 3, 4]) [.F, (.L .F), .N, .N, .N, .N] (fun (t2 : D) => [a0, t2, .non, .non, .non, .non]) x1 (ei_seq (EV.frz (ev_meth0 (fm_Loop_rows C) (hr.mono (by decide)) (takes_of rfl rfl rfl rfl) (ev_varF (pe_var (i := 0) rfl (.inl rfl)) rfl rfl) (.inr ⟨rfl, rfl⟩)) rfl)) (tg_tup (js := [2, 3, 4]) (vs := fun p => [p.1, p.2.1, p.2.2]) (pg_tup rfl (pgs_cons (pg_name (i := 2) sc_loop_shown.nd rfl (.inl rfl) (.inl rfl)) (pgs_cons (pg_name (i := 3) sc_loop_shown.nd rfl (.inl rfl) (.inl rfl)) (pgs_cons (pg_name (i := 4) sc_loop_shown.nd rfl (.inl rfl) (.inl rfl)) pgs_nil)))) un3_ok un3_nx) ⟨.inr ⟨rfl, rfl⟩, .inr ⟨rfl, rfl⟩, .inl rfl, .inl rfl, .inl rfl, .inl rfl, trivial⟩ (fun _ p3 t2 => (sv_app (pe_var (i := 1) rfl (.inl rfl)) (ev_join (ev_str s_13) (ev_catL (EV.frz (ev_lst (ea_F (ev_varF (pe_var (i := 2) rfl (.inl rfl)) rfl rfl) (ea_F (ev_str s_16) (ea_F (ev_varF (pe_var (i := 3) rfl (.inl rfl)) rfl rfl) ea_nil)))) rfl) (EV.frz (ev_comp rfl sc_loop_shown.nd (ei_seq (ev_varF (pe_var (i := 4) rfl (.inl rfl)) rfl rfl)) (blkOk_by (own := [("read", 5)]) rfl) (tgb_name (i := 5) (fun _ _ _ _ _ => pg_name sc_loop_shown.nd rfl (.inl rfl) (.inr rfl))) (fun _ _ _ _ _ _ p4 => ets_nil) (fun _ _ _ _ _ _ p4 => (ev_call (fd_read_shown C) (hr.mono (by decide)) takes0 (ea_F (ev_varF (pe_var (i := 5) rfl (.inl rfl)) rfl rfl) ea_nil)))) rfl))) (fun x5 => (sv_at (κ2 := [.F, (.L .F), .F, .F, .F, .N]) (en2 := [a0, x5, p3.1, p3.2.1, p3.2.2, .non]) (sv_nil ⟨.inr ⟨rfl, rfl⟩, .inr ⟨rfl, rfl⟩, .inl rfl, .inl rfl, .inl rfl, .inl rfl, trivial⟩))))) (fun t2 => (sv_retD (ev_join (ev_str s_15) (ev_varE (pe_var (i := 1) rfl (.inl rfl)) rfl rfl)))) (passes_of rfl)))) sc_loop_shown.nd)
def l_all_letters_1 (p2 : D) (t1 : Unit) : R (Lp (Unit) D) := (R.bind (R.bind (R.bin2 (.ok p2) (.ok (.str "abcdefghijklmnopqrstuvwxyz")) pNotInS) toB) fun b => if b = true then (R.bind (.ok (.bl false)) fun d => .ok (Lp.out d)) else (.ok (.nx ())))
def b_all_letters (a0 : D) : R D := (R.bind (R.bind (.ok a0) toChr) fun xs => R.bind (rForX xs () (l_all_letters_1)) (Go.thn fun t1 => (.ok (.bl true))))
def f_all_letters : List D → R D
  | [a0] => b_all_letters a0
  | _ => .bad
theorem sc_all_letters : FnScope ["text", "sign"] ["text"] (defScope (top 29)) := ⟨rfl, rfl, rfl, by decide +kernel, rfl, by decide +kernel, by decide +kernel⟩
theorem fd_all_letters (C : Ctx K mg) : FD P w K mg base 1 "all_letters" f_all_letters [.F] .F := by
  obtain ⟨fa, fd, g, F⟩ := C.d_all_letters
  refine ⟨fa, fd, ["text"], g, F.kp, F.bindsN (fun _ _ _ _ _ _ us hl => match us, hl with | [_], _ => rfl), fd_ok F sc_all_letters rfl (by decide) fun cdv A outer s H E G ds hr hl => ?_⟩
  exact match ds, hl with
  | [a0], _ =>
    show SV _ _ _ _ [.F, .N] [a0, .non] _ _ (b_all_letters a0) from (sv_forX1 (i := 1) [.F, .N] (fun (t1 : Unit) => [a0, .non]) () (ei_str (ev_varF (pe_var (i := 0) rfl (.inl rfl)) rfl rfl)) (tg_name sc_all_letters.nd) ⟨.inr ⟨rfl, rfl⟩, .inl rfl, trivial⟩ (fun _ p2 t1 => (sv_ifE (et_cmp op_notInS od_notInS (ev_varF (pe_var (i := 1) rfl (.inl rfl)) rfl rfl) (ev_globS rfl C.g_LETTERS s_9) (by rfl)) (sv_ret (g := fun d => (Lp.out d)) ev_bl (fun d => ⟨_, rfl, ⟨rfl, rfl⟩⟩)) (sv_nil ⟨_, rfl, ⟨.inr ⟨rfl, rfl⟩, .inl rfl, trivial⟩⟩))) (fun t1 => (sv_retD ev_bl)) (passes_of rfl))
def b_is_name (a0 : D) : R D := (andV (chn (.ok (.int 0)) (R.bind (R.cons (.ok a0) (.ok [])) pLen) (.ok (.int 12)) pLt pLe) (R.bind (R.cons (.ok a0) (.ok [])) f_all_letters))
def f_is_name : List D → R D
  | [a0] => b_is_name a0
  | _ => .bad
theorem sc_is_name : FnScope ["text"] ["text"] (defScope (top 30)) := ⟨rfl, rfl, rfl, by decide +kernel, rfl, by decide +kernel, by decide +kernel⟩
theorem fd_is_name (C : Ctx K mg) : FD P w K mg base 2 "is_name" f_is_name [.F] .F := by
  obtain ⟨fa, fd, g, F⟩ := C.d_is_name
  refine ⟨fa, fd, ["text"], g, F.kp, F.bindsN (fun _ _ _ _ _ _ us hl => match us, hl with | [_], _ => rfl), fd_ok F sc_is_name rfl (by decide) fun cdv A outer s H E G ds hr hl => ?_⟩
  exact match ds, hl with
  | [a0], _ =>
    show SV _ _ _ _ [.F] [a0] _ _ (b_is_name a0) from (sv_retD (ev_and (ev_chain op_lt od_lt op_le od_le ev_int (ev_callB call_len bf_len (ea_P (ev_varF (pe_var (i := 0) rfl (.inl rfl)) rfl rfl) ea_nil) C.f_len (by decide +kernel)) (ev_globI rfl C.g_LONGEST)) (ev_one (ev_call (fd_all_letters C) (hr.mono (by decide)) (takes_of rfl rfl rfl rfl) (ea_F (ev_varF (pe_var (i := 0) rfl (.inl rfl)) rfl rfl) ea_nil)))))
def b_Deed_wants (a0 : D) : R D := (.ok (.int 2))
def f_Deed_wants : List D → R D
  | [a0] => b_Deed_wants a0
  | _ => .bad
theorem sc_Deed_wants : FnScope ["self"] ["self"] (defScope (inCls (top 15) 0)) := ⟨rfl, rfl, rfl, by decide +kernel, rfl, by decide +kernel, by decide +kernel⟩
theorem fn_Deed_wants {fa : Addr} {fd : FuncData} (C : Ctx K mg) (F : FunD K "wants" "Deed.wants" (defArgs (inCls (top 15) 0)) (defBody (inCls (top 15) 0)) (defScope (inCls (top 15) 0)) [] [] fa fd) : Binds K fd ["self"] [] ∧ FnOk P w K mg base (L2.CX P w) 1 fa fd ["self"] (spF K mg f_Deed_wants [.F] .F) := by
  refine ⟨F.bindsN (fun _ _ _ _ _ _ us hl => match us, hl with | [_], _ => rfl), fd_ok F sc_Deed_wants rfl (by decide) fun cdv A outer s H E G ds hr hl => ?_⟩
  exact match ds, hl with
  | [a0], _ =>
    show SV _ _ _ _ [.F] [a0] _ _ (b_Deed_wants a0) from (sv_retD ev_int)
def b_Pick_wants (a0 : D) : R D := (.ok (.int 3))
def f_Pick_wants : List D → R D
  | [a0] => b_Pick_wants a0
  | _ => .bad
theorem sc_Pick_wants : FnScope ["self"] ["self"] (defScope (inCls (top 21) 0)) := ⟨rfl, rfl, rfl, by decide +kernel, rfl, by decide +kernel, by decide +kernel⟩
theorem fn_Pick_wants {fa : Addr} {fd : FuncData} (C : Ctx K mg) (F : FunD K "wants" "Pick.wants" (defArgs (inCls (top 21) 0)) (defBody (inCls (top 21) 0)) (defScope (inCls (top 21) 0)) [] [] fa fd) : Binds K fd ["self"] [] ∧ FnOk P w K mg base (L2.CX P w) 1 fa fd ["self"] (spF K mg f_Pick_wants [.F] .F) := by
  refine ⟨F.bindsN (fun _ _ _ _ _ _ us hl => match us, hl with | [_], _ => rfl), fd_ok F sc_Pick_wants rfl (by decide) fun cdv A outer s H E G ds hr hl => ?_⟩
  exact match ds, hl with
  | [a0], _ =>
    show SV _ _ _ _ [.F] [a0] _ _ (b_Pick_wants a0) from (sv_retD ev_int)
def b_Same_wants (a0 : D) : R D := (.ok (.int 1))
def f_Same_wants : List D → R D
  | [a0] => b_Same_wants a0
  | _ => .bad
theorem sc_Same_wants : FnScope ["self"] ["self"] (defScope (inCls (top 22) 0)) := ⟨rfl, rfl, rfl, by decide +kernel, rfl, by decide +kernel, by decide +kernel⟩
theorem fn_Same_wants {fa : Addr} {fd : FuncData} (C : Ctx K mg) (F : FunD K "wants" "Same.wants" (defArgs (inCls (top 22) 0)) (defBody (inCls (top 22) 0)) (defScope (inCls (top 22) 0)) [] [] fa fd) : Binds K fd ["self"] [] ∧ FnOk P w K mg base (L2.CX P w) 1 fa fd ["self"] (spF K mg f_Same_wants [.F] .F) := by
  refine ⟨F.bindsN (fun _ _ _ _ _ _ us hl => match us, hl with | [_], _ => rfl), fd_ok F sc_Same_wants rfl (by decide) fun cdv A outer s H E G ds hr hl => ?_⟩
  exact match ds, hl with
  | [a0], _ =>
    show SV _ _ _ _ [.F] [a0] _ _ (b_Same_wants a0) from (sv_retD ev_int)
def b_Tell_wants (a0 : D) : R D := (.ok (.int 1))
def f_Tell_wants : List D → R D
  | [a0] => b_Tell_wants a0
  | _ => .bad
theorem sc_Tell_wants : FnScope ["self"] ["self"] (defScope (inCls (top 23) 0)) := ⟨rfl, rfl, rfl, by decide +kernel, rfl, by decide +kernel, by decide +kernel⟩
theorem fn_Tell_wants {fa : Addr} {fd : FuncData} (C : Ctx K mg) (F : FunD K "wants" "Tell.wants" (defArgs (inCls (top 23) 0)) (defBody (inCls (top 23) 0)) (defScope (inCls (top 23) 0)) [] [] fa fd) : Binds K fd ["self"] [] ∧ FnOk P w K mg base (L2.CX P w) 1 fa fd ["self"] (spF K mg f_Tell_wants [.F] .F) := by
  refine ⟨F.bindsN (fun _ _ _ _ _ _ us hl => match us, hl with | [_], _ => rfl), fd_ok F sc_Tell_wants rfl (by decide) fun cdv A outer s H E G ds hr hl => ?_⟩
  exact match ds, hl with
  | [a0], _ =>
    show SV _ _ _ _ [.F] [a0] _ _ (b_Tell_wants a0) from (sv_retD ev_int)
def b_Take_wants (a0 : D) : R D := (.ok (.int 0))
def f_Take_wants : List D → R D
  | [a0] => b_Take_wants a0
  | _ => .bad
theorem sc_Take_wants : FnScope ["self"] ["self"] (defScope (inCls (top 24) 0)) := ⟨rfl, rfl, rfl, by decide +kernel, rfl, by decide +kernel, by decide +kernel⟩
theorem fn_Take_wants {fa : Addr} {fd : FuncData} (C : Ctx K mg) (F : FunD K "wants" "Take.wants" (defArgs (inCls (top 24) 0)) (defBody (inCls (top 24) 0)) (defScope (inCls (top 24) 0)) [] [] fa fd) : Binds K fd ["self"] [] ∧ FnOk P w K mg base (L2.CX P w) 1 fa fd ["self"] (spF K mg f_Take_wants [.F] .F) := by
  refine ⟨F.bindsN (fun _ _ _ _ _ _ us hl => match us, hl with | [_], _ => rfl), fd_ok F sc_Take_wants rfl (by decide) fun cdv A outer s H E G ds hr hl => ?_⟩
  exact match ds, hl with
  | [a0], _ =>
    show SV _ _ _ _ [.F] [a0] _ _ (b_Take_wants a0) from (sv_retD ev_int)
theorem fm_Least_wants (C : Ctx K mg) : FM P w K mg base 1 "Least" "wants" f_Deed_wants [.F] .F := by
  obtain ⟨cl, fa, fd, g, hc, hm, F⟩ := C.e_Least_wants
  have z := fn_Deed_wants (P := P) (w := w) (base := base) C F
  exact ⟨cl, fa, fd, _, g, hc, hm, z.1, z.2⟩
theorem fm_Less_wants (C : Ctx K mg) : FM P w K mg base 1 "Less" "wants" f_Deed_wants [.F] .F := by
  obtain ⟨cl, fa, fd, g, hc, hm, F⟩ := C.e_Less_wants
  have z := fn_Deed_wants (P := P) (w := w) (base := base) C F
  exact ⟨cl, fa, fd, _, g, hc, hm, z.1, z.2⟩
theorem fm_Most_wants (C : Ctx K mg) : FM P w K mg base 1 "Most" "wants" f_Deed_wants [.F] .F := by
  obtain ⟨cl, fa, fd, g, hc, hm, F⟩ := C.e_Most_wants
  have z := fn_Deed_wants (P := P) (w := w) (base := base) C F
  exact ⟨cl, fa, fd, _, g, hc, hm, z.1, z.2⟩
theorem fm_Pick_wants (C : Ctx K mg) : FM P w K mg base 1 "Pick" "wants" f_Pick_wants [.F] .F := by
  obtain ⟨cl, fa, fd, g, hc, hm, F⟩ := C.e_Pick_wants
  have z := fn_Pick_wants (P := P) (w := w) (base := base) C F
  exact ⟨cl, fa, fd, _, g, hc, hm, z.1, z.2⟩
theorem fm_Same_wants (C : Ctx K mg) : FM P w K mg base 1 "Same" "wants" f_Same_wants [.F] .F := by
  obtain ⟨cl, fa, fd, g, hc, hm, F⟩ := C.e_Same_wants
  have z := fn_Same_wants (P := P) (w := w) (base := base) C F
  exact ⟨cl, fa, fd, _, g, hc, hm, z.1, z.2⟩
theorem fm_Sum_wants (C : Ctx K mg) : FM P w K mg base 1 "Sum" "wants" f_Deed_wants [.F] .F := by
  obtain ⟨cl, fa, fd, g, hc, hm, F⟩ := C.e_Sum_wants
  have z := fn_Deed_wants (P := P) (w := w) (base := base) C F
  exact ⟨cl, fa, fd, _, g, hc, hm, z.1, z.2⟩
theorem fm_Take_wants (C : Ctx K mg) : FM P w K mg base 1 "Take" "wants" f_Take_wants [.F] .F := by
  obtain ⟨cl, fa, fd, g, hc, hm, F⟩ := C.e_Take_wants
  have z := fn_Take_wants (P := P) (w := w) (base := base) C F
  exact ⟨cl, fa, fd, _, g, hc, hm, z.1, z.2⟩
theorem fm_Tell_wants (C : Ctx K mg) : FM P w K mg base 1 "Tell" "wants" f_Tell_wants [.F] .F := by
  obtain ⟨cl, fa, fd, g, hc, hm, F⟩ := C.e_Tell_wants
  have z := fn_Tell_wants (P := P) (w := w) (base := base) C F
  exact ⟨cl, fa, fd, _, g, hc, hm, z.1, z.2⟩
theorem fm_Times_wants (C : Ctx K mg) : FM P w K mg base 1 "Times" "wants" f_Deed_wants [.F] .F := by
  obtain ⟨cl, fa, fd, g, hc, hm, F⟩ := C.e_Times_wants
  have z := fn_Deed_wants (P := P) (w := w) (base := base) C F
  exact ⟨cl, fa, fd, _, g, hc, hm, z.1, z.2⟩
def b_deed_of (a0 : D) : R D := (R.bind (R.bind (R.bin2 (.ok a0) (.ok (.str "sum")) pEq) toB) fun b => if b = true then (R.bind (.ok (.obj "Sum" [] [])) fun d => .ok d) else (R.bind (R.bind (R.bin2 (.ok a0) (.ok (.str "less")) pEq) toB) fun b => if b = true then (R.bind (.ok (.obj "Less" [] [])) fun d => .ok d) else (R.bind (R.bind (R.bin2 (.ok a0) (.ok (.str "times")) pEq) toB) fun b => if b = true then (R.bind (.ok (.obj "Times" [] [])) fun d => .ok d) else (R.bind (R.bind (R.bin2 (.ok a0) (.ok (.str "least")) pEq) toB) fun b => if b = true then (R.bind (.ok (.obj "Least" [] [])) fun d => .ok d) else (R.bind (R.bind (R.bin2 (.ok a0) (.ok (.str "most")) pEq) toB) fun b => if b = true then (R.bind (.ok (.obj "Most" [] [])) fun d => .ok d) else (R.bind (R.bind (R.bin2 (.ok a0) (.ok (.str "pick")) pEq) toB) fun b => if b = true then (R.bind (.ok (.obj "Pick" [] [])) fun d => .ok d) else (R.bind (R.bind (R.bin2 (.ok a0) (.ok (.str "same")) pEq) toB) fun b => if b = true then (R.bind (.ok (.obj "Same" [] [])) fun d => .ok d) else (R.bind (R.bind (R.bin2 (.ok a0) (.ok (.str "tell")) pEq) toB) fun b => if b = true then (R.bind (.ok (.obj "Tell" [] [])) fun d => .ok d) else (R.bind (R.bind (R.bin2 (.ok a0) (.ok (.str "take")) pEq) toB) fun b => if b = true then (R.bind (.ok (.obj "Take" [] [])) fun d => .ok d) else (.exc ⟨"NoDeed", [], []⟩))))))))))
def f_deed_of : List D → R D
  | [a0] => b_deed_of a0
  | _ => .bad
theorem sc_deed_of : FnScope ["word"] ["word"] (defScope (top 25)) := ⟨rfl, rfl, rfl, by decide +kernel, rfl, by decide +kernel, by decide +kernel⟩
theorem fd_deed_of (C : Ctx K mg) : FD P w K mg base 1 "deed_of" f_deed_of [.F] .F := by
  obtain ⟨fa, fd, g, F⟩ := C.d_deed_of
  refine ⟨fa, fd, ["word"], g, F.kp, F.bindsN (fun _ _ _ _ _ _ us hl => match us, hl with | [_], _ => rfl), fd_ok F sc_deed_of rfl (by decide) fun cdv A outer s H E G ds hr hl => ?_⟩
  exact match ds, hl with
  | [a0], _ =>
    show SV _ _ _ _ [.F] [a0] _ _ (b_deed_of a0) from (sv_ifS (et_cmp (op_eqD hr.units) od_eq (ev_varF (pe_var (i := 0) rfl (.inl rfl)) rfl rfl) (ev_str s_0) (nomark _)) (sv_ret (g := fun d => d) (ev_mk0 C.m_Sum) (fun d => ⟨rfl, rfl⟩)) (sv_ifS (et_cmp (op_eqD hr.units) od_eq (ev_varF (pe_var (i := 0) rfl (.inl rfl)) rfl rfl) (ev_str s_1) (nomark _)) (sv_ret (g := fun d => d) (ev_mk0 C.m_Less) (fun d => ⟨rfl, rfl⟩)) (sv_ifS (et_cmp (op_eqD hr.units) od_eq (ev_varF (pe_var (i := 0) rfl (.inl rfl)) rfl rfl) (ev_str s_2) (nomark _)) (sv_ret (g := fun d => d) (ev_mk0 C.m_Times) (fun d => ⟨rfl, rfl⟩)) (sv_ifS (et_cmp (op_eqD hr.units) od_eq (ev_varF (pe_var (i := 0) rfl (.inl rfl)) rfl rfl) (ev_str s_3) (nomark _)) (sv_ret (g := fun d => d) (ev_mk0 C.m_Least) (fun d => ⟨rfl, rfl⟩)) (sv_ifS (et_cmp (op_eqD hr.units) od_eq (ev_varF (pe_var (i := 0) rfl (.inl rfl)) rfl rfl) (ev_str s_4) (nomark _)) (sv_ret (g := fun d => d) (ev_mk0 C.m_Most) (fun d => ⟨rfl, rfl⟩)) (sv_ifS (et_cmp (op_eqD hr.units) od_eq (ev_varF (pe_var (i := 0) rfl (.inl rfl)) rfl rfl) (ev_str s_5) (nomark _)) (sv_ret (g := fun d => d) (ev_mk0 C.m_Pick) (fun d => ⟨rfl, rfl⟩)) (sv_ifS (et_cmp (op_eqD hr.units) od_eq (ev_varF (pe_var (i := 0) rfl (.inl rfl)) rfl rfl) (ev_str s_6) (nomark _)) (sv_ret (g := fun d => d) (ev_mk0 C.m_Same) (fun d => ⟨rfl, rfl⟩)) (sv_ifS (et_cmp (op_eqD hr.units) od_eq (ev_varF (pe_var (i := 0) rfl (.inl rfl)) rfl rfl) (ev_str s_7) (nomark _)) (sv_ret (g := fun d => d) (ev_mk0 C.m_Tell) (fun d => ⟨rfl, rfl⟩)) (sv_ifS (et_cmp (op_eqD hr.units) od_eq (ev_varF (pe_var (i := 0) rfl (.inl rfl)) rfl rfl) (ev_str s_8) (nomark _)) (sv_ret (g := fun d => d) (ev_mk0 C.m_Take) (fun d => ⟨rfl, rfl⟩)) (sv_raise C.x_NoDeed (takes_of rfl rfl rfl rfl)))))))))))
def tab_wants : List (Str × (List D → R D)) := [("Sum", f_Deed_wants), ("Less", f_Deed_wants), ("Times", f_Deed_wants), ("Least", f_Deed_wants), ("Most", f_Deed_wants), ("Pick", f_Pick_wants), ("Same", f_Same_wants), ("Tell", f_Tell_wants), ("Take", f_Take_wants)]
theorem tab_wants_ok (C : Ctx K mg) : ∀ t ∈ tab_wants, FM P w K mg base 1 t.1 "wants" t.2 [.F] .F := by
  intro t h
  unfold tab_wants at h
  rcases List.mem_cons.mp h with e | h
  · subst e; exact (fm_Sum_wants C).mono (by decide)
  rcases List.mem_cons.mp h with e | h
  · subst e; exact (fm_Less_wants C).mono (by decide)
  rcases List.mem_cons.mp h with e | h
  · subst e; exact (fm_Times_wants C).mono (by decide)
  rcases List.mem_cons.mp h with e | h
  · subst e; exact (fm_Least_wants C).mono (by decide)
  rcases List.mem_cons.mp h with e | h
  · subst e; exact (fm_Most_wants C).mono (by decide)
  rcases List.mem_cons.mp h with e | h
  · subst e; exact (fm_Pick_wants C).mono (by decide)
  rcases List.mem_cons.mp h with e | h
  · subst e; exact (fm_Same_wants C).mono (by decide)
  rcases List.mem_cons.mp h with e | h
  · subst e; exact (fm_Tell_wants C).mono (by decide)
  rcases List.mem_cons.mp h with e | h
  · subst e; exact (fm_Take_wants C).mono (by decide)
  cases h
def b_look_at_read (a0 a1 a2 : D) : R D := (R.bind (R.bind (R.bind (R.cons (.ok a2) (.ok [])) f_is_number) toB) fun b => if b = true then (R.bind (orT (R.bind (R.bin2 (.ok a2) (.ok (.int 0)) pLt) toB) (R.bind (R.bin2 (.ok a2) (R.bin2 (.ok (.int 10)) (.ok (.int 60)) pPow) pGe) toB)) fun b => if b = true then (.exc ⟨"BadNumber", [], []⟩) else (.ok .non)) else (R.bind (.ok a2) fun d => R.bind (un2 d) fun p1 => (R.bind (R.bind (R.bin2 (.ok p1.1) (.ok a0) pNotInL) toB) fun b => if b = true then (.exc ⟨"NoRow", [], []⟩) else (R.bind (orT (R.bind (R.bin2 (.ok p1.2) (.ok (.int 0)) pLt) toB) (R.bind (R.bin2 (.ok p1.2) (.ok (.int 6)) pGt) toB)) fun b => if b = true then (.exc ⟨"BadBack", [], []⟩) else (R.bind (andT (R.bind (R.bin2 (.ok p1.2) (.ok (.int 0)) pEq) toB) (R.bind (R.bin2 (.ok p1.1) (sl3 (.ok a0) (.ok none) (R.bind (.ok a1) toI) pSlL) pNotInL) toB)) fun b => if b = true then (.exc ⟨"TooEarly", [], []⟩) else (.ok .non))))))
def f_look_at_read : List D → R D
  | [a0, a1, a2] => b_look_at_read a0 a1 a2
  | _ => .bad
theorem sc_look_at_read : FnScope ["names", "at", "read", "name", "back"] ["names", "at", "read"] (defScope (top 35)) := ⟨rfl, rfl, rfl, by decide +kernel, rfl, by decide +kernel, by decide +kernel⟩
theorem fd_look_at_read (C : Ctx K mg) : FD P w K mg base 2 "look_at_read" f_look_at_read [.F, .F, .F] .F := by
  obtain ⟨fa, fd, g, F⟩ := C.d_look_at_read
  refine ⟨fa, fd, ["names", "at", "read"], g, F.kp, F.bindsN (fun _ _ _ _ _ _ us hl => match us, hl with | [_, _, _], _ => rfl), fd_ok F sc_look_at_read rfl (by decide) fun cdv A outer s H E G ds hr hl => ?_⟩
  exact match ds, hl with
  | [a0, a1, a2], _ =>
    show SV _ _ _ _ [.F, .F, .F, .N, .N] [a0, a1, a2, .non, .non] _ _ (b_look_at_read a0 a1 a2) from (sv_ifS (et_val (ev_call (fd_is_number C) (hr.mono (by decide)) (takes_of rfl rfl rfl rfl) (ea_F (ev_varF (pe_var (i := 2) rfl (.inl rfl)) rfl rfl) ea_nil))) (sv_ifS (et_w (ew_or (et_cmp op_lt od_lt (ev_varF (pe_var (i := 2) rfl (.inl rfl)) rfl rfl) ev_int (nomark _)) (ew_or1 (et_cmp op_ge od_ge (ev_varF (pe_var (i := 2) rfl (.inl rfl)) rfl rfl) (ev_bin op_pow od_pow ev_int ev_int) (nomark _))))) (sv_raise C.x_BadNumber (takes_of rfl rfl rfl rfl)) (sv_retN ⟨rfl, rfl⟩)) (sv_un (ev_varF (pe_var (i := 2) rfl (.inl rfl)) rfl rfl) (tg_tup (js := [3, 4]) (vs := fun p => [p.1, p.2]) (pg_tup rfl (pgs_cons (pg_name (i := 3) sc_look_at_read.nd rfl (.inl rfl) (.inl rfl)) (pgs_cons (pg_name (i := 4) sc_look_at_read.nd rfl (.inl rfl) (.inl rfl)) pgs_nil))) un2_ok un2_nx) (fun p1 => (sv_ifS (et_cmp (op_notInD (u65 hr)) od_notInL (ev_varF (pe_var (i := 3) rfl (.inl rfl)) rfl rfl) (ev_varF (pe_var (i := 0) rfl (.inl rfl)) rfl rfl) (by rfl)) (sv_raise C.x_NoRow (takes_of rfl rfl rfl rfl)) (sv_ifS (et_w (ew_or (et_cmp op_lt od_lt (ev_varF (pe_var (i := 4) rfl (.inl rfl)) rfl rfl) ev_int (nomark _)) (ew_or1 (et_cmp op_gt od_gt (ev_varF (pe_var (i := 4) rfl (.inl rfl)) rfl rfl) (ev_globI rfl C.g_MOST_BACK) (nomark _))))) (sv_raise C.x_BadBack (takes_of rfl rfl rfl rfl)) (sv_ifE (et_w (ew_and (et_cmp (op_eqD hr.units) od_eq (ev_varF (pe_var (i := 4) rfl (.inl rfl)) rfl rfl) ev_int (nomark _)) (ew_and1 (et_cmp (op_notInD (u65 hr)) od_notInL (ev_varF (pe_var (i := 3) rfl (.inl rfl)) rfl rfl) (ev_slL (ev_varF (pe_var (i := 0) rfl (.inl rfl)) rfl rfl) eo_none (eo_some (ev_varF (pe_var (i := 1) rfl (.inl rfl)) rfl rfl))) (by rfl))))) (sv_raise C.x_TooEarly (takes_of rfl rfl rfl rfl)) (sv_nil ⟨rfl, rfl⟩)))))))
def l_look_at_row_1 (a0 : D) (a1 : D) (p3 : D) (t2 : Unit) : R (Unit) := (R.bind (R.bind (R.cons (.ok a0) (R.cons (.ok a1) (R.cons (.ok p3) (.ok [])))) f_look_at_read) fun _ => (.ok ()))
def b_look_at_row (a0 a1 a2 : D) : R D := (R.bind (.ok a2) fun d => R.bind (un3 d) fun p1 => (R.bind (notT (R.bind (R.bind (R.cons (.ok p1.1) (.ok [])) f_is_name) toB)) fun b => if b = true then (.exc ⟨"BadName", [], []⟩) else (R.bind (R.bind (R.bin2 (.ok p1.1) (sl3 (.ok a0) (.ok none) (R.bind (.ok a1) toI) pSlL) pInL) toB) fun b => if b = true then (.exc ⟨"Twice", [], []⟩) else (R.bind (R.bind (R.bin2 (R.bind (R.cons (.ok p1.2.2) (.ok [])) pLen) (R.bind (R.bind (R.cons (.ok p1.2.1) (.ok [])) f_deed_of) fun d => R.bind (dsp tab_wants "wants" d) fun f => f [d]) pNe) toB) fun b => if b = true then (.exc ⟨"BadCount", [], []⟩) else (R.bind (R.bind (.ok p1.2.2) toSeq) fun xs => R.bind (rFor xs () ((l_look_at_row_1 a0 a1))) fun t2 => (.ok .non))))))
def f_look_at_row : List D → R D
  | [a0, a1, a2] => b_look_at_row a0 a1 a2
  | _ => .bad
theorem sc_look_at_row : FnScope ["names", "at", "row", "name", "word", "reads", "read"] ["names", "at", "row"] (defScope (top 36)) := ⟨rfl, rfl, rfl, by decide +kernel, rfl, by decide +kernel, by decide +kernel⟩
theorem fd_look_at_row (C : Ctx K mg) : FD P w K mg base 3 "look_at_row" f_look_at_row [.F, .F, .F] .F := by
  obtain ⟨fa, fd, g, F⟩ := C.d_look_at_row
  refine ⟨fa, fd, ["names", "at", "row"], g, F.kp, F.bindsN (fun _ _ _ _ _ _ us hl => match us, hl with | [_, _, _], _ => rfl), fd_ok F sc_look_at_row rfl (by decide) fun cdv A outer s H E G ds hr hl => ?_⟩
  exact match ds, hl with
  | [a0, a1, a2], _ =>
    show SV _ _ _ _ [.F, .F, .F, .N, .N, .N, .N] [a0, a1, a2, .non, .non, .non, .non] _ _ (b_look_at_row a0 a1 a2) from (sv_un (ev_varF (pe_var (i := 2) rfl (.inl rfl)) rfl rfl) (tg_tup (js := [3, 4, 5]) (vs := fun p => [p.1, p.2.1, p.2.2]) (pg_tup rfl (pgs_cons (pg_name (i := 3) sc_look_at_row.nd rfl (.inl rfl) (.inl rfl)) (pgs_cons (pg_name (i := 4) sc_look_at_row.nd rfl (.inl rfl) (.inl rfl)) (pgs_cons (pg_name (i := 5) sc_look_at_row.nd rfl (.inl rfl) (.inl rfl)) pgs_nil)))) un3_ok un3_nx) (fun p1 => (sv_ifS (et_not (et_val (ev_call (fd_is_name C) (hr.mono (by decide)) (takes_of rfl rfl rfl rfl) (ea_F (ev_varF (pe_var (i := 3) rfl (.inl rfl)) rfl rfl) ea_nil)))) (sv_raise C.x_BadName (takes_of rfl rfl rfl rfl)) (sv_ifS (et_cmp (op_inD (u65 hr)) od_inL (ev_varF (pe_var (i := 3) rfl (.inl rfl)) rfl rfl) (ev_slL (ev_varF (pe_var (i := 0) rfl (.inl rfl)) rfl rfl) eo_none (eo_some (ev_varF (pe_var (i := 1) rfl (.inl rfl)) rfl rfl))) (by rfl)) (sv_raise C.x_Twice (takes_of rfl rfl rfl rfl)) (sv_ifS (et_cmp (op_neD hr.units) od_ne (ev_callB call_len bf_len (ea_P (ev_varF (pe_var (i := 5) rfl (.inl rfl)) rfl rfl) ea_nil) C.f_len (by decide +kernel)) (ev_methT0 (T := tab_wants) (tab_wants_ok C) (by unfold tab_wants; intro z; cases z) (hr.mono (by decide)) (takes_of rfl rfl rfl rfl) (ev_call (fd_deed_of C) (hr.mono (by decide)) (takes_of rfl rfl rfl rfl) (ea_F (ev_varF (pe_var (i := 4) rfl (.inl rfl)) rfl rfl) ea_nil)) (.inr ⟨rfl, rfl⟩)) (nomark _)) (sv_raise C.x_BadCount (takes_of rfl rfl rfl rfl)) (sv_for1 (i := 6) [.F, .F, .F, .F, .F, .F, .N] (fun (t2 : Unit) => [a0, a1, a2, p1.1, p1.2.1, p1.2.2, .non]) () (ei_seq (ev_varF (pe_var (i := 5) rfl (.inl rfl)) rfl rfl)) (tg_name sc_look_at_row.nd) ⟨.inr ⟨rfl, rfl⟩, .inr ⟨rfl, rfl⟩, .inr ⟨rfl, rfl⟩, .inr ⟨rfl, rfl⟩, .inr ⟨rfl, rfl⟩, .inr ⟨rfl, rfl⟩, .inl rfl, trivial⟩ (fun _ p3 t2 => (sv_expr (ev_call (fd_look_at_read C) (hr.mono (by decide)) (takes_of rfl rfl rfl rfl) (ea_F (ev_varF (pe_var (i := 0) rfl (.inl rfl)) rfl rfl) (ea_F (ev_varF (pe_var (i := 1) rfl (.inl rfl)) rfl rfl) (ea_F (ev_varF (pe_var (i := 6) rfl (.inl rfl)) rfl rfl) ea_nil)))) (fun _ => (sv_nil ⟨.inr ⟨rfl, rfl⟩, .inr ⟨rfl, rfl⟩, .inr ⟨rfl, rfl⟩, .inr ⟨rfl, rfl⟩, .inr ⟨rfl, rfl⟩, .inr ⟨rfl, rfl⟩, .inl rfl, trivial⟩)))) (fun t2 => (sv_nil ⟨rfl, rfl⟩)) (passes_of rfl)))))))
def l_Loop___init___1 (x2 : D) (p4 : D × D) (t3 : Unit) : R (Unit) := (R.bind (R.bind (R.cons (.ok x2) (R.cons (.ok p4.1) (R.cons (.ok p4.2) (.ok [])))) f_look_at_row) fun _ => (.ok ()))
def b_Loop___init__ (a1 a2 : D) : R D := (R.bind (orT (R.bind (R.bin2 (.ok a1) (.ok (.int 2)) pLt) toB) (R.bind (R.bin2 (.ok a1) (R.bin2 (.ok (.int 10)) (.ok (.int 60)) pPow) pGt) toB)) fun b => if b = true then (.exc ⟨"NoMeasure", [], []⟩) else (R.bind (orT (R.bind (R.bin2 (R.bind (R.cons (.ok a2) (.ok [])) pLen) (.ok (.int 1)) pLt) toB) (R.bind (R.bin2 (R.bind (R.cons (.ok a2) (.ok [])) pLen) (.ok (.int 12)) pGt) toB)) fun b => if b = true then (.exc ⟨"BadRows", [], []⟩) else (R.bind (pComp (R.bind (.ok a2) toLs) (fun d => .ok d) (fun p1 => (.ok true)) (fun p1 => (R.bin2 (.ok p1) (.ok (.int 0)) pIx))) fun x2 => (R.bind (R.bind (.ok a2) fun d => R.bind (toLs d) fun xs => .ok (enumL xs)) fun xs => R.bind (rFor xs () (fun x t3 => R.bind (un2 x) fun p4 => (l_Loop___init___1 x2) p4 t3)) fun t3 => (R.bind (.ok a1) fun y6 => R.bind (putL "Loop" "measure" y6 (.obj "Loop" [] [])) fun x5 => (R.bind (pComp (R.bind (.ok a2) toLs) (fun d => .ok d) (fun p7 => (.ok true)) (fun p7 => (R.bind (R.cons (R.bin2 (.ok p7) (.ok (.int 0)) pIx) (R.cons (R.bin2 (.ok p7) (.ok (.int 1)) pIx) (R.cons (R.bind (R.cons (R.bin2 (.ok p7) (.ok (.int 2)) pIx) (.ok [])) pTuple) (.ok [])))) mkT))) fun y9 => R.bind (putL "Loop" "kept_rows" y9 x5) fun x8 => (.ok x8)))))))
def f_Loop___init__ : List D → R D
  | [a1, a2] => b_Loop___init__ a1 a2
  | _ => .bad
theorem sc_Loop___init__ : FnScope ["self", "measure", "rows", "row", "names", "at"] ["self", "measure", "rows"] (defScope (inCls (top 37) 0)) := ⟨rfl, rfl, rfl, by decide +kernel, rfl, by decide +kernel, by decide +kernel⟩
theorem mi_Loop (C : Ctx K mg) : MkI P w K mg base 4 "Loop" [.F, .E] f_Loop___init__ := by
  obtain ⟨cl, fa, fd, g, M, F⟩ := C.mi_Loop
  refine ⟨cl, fa, fd, ["self", "measure", "rows"], g, M, F.bindsN (fun _ _ _ _ _ _ us hl => match us, hl with | [_, _, _], _ => rfl), fi_ok 3 F sc_Loop___init__ rfl rfl fun cdv A outer s H B sp E G ds hr hl => ?_⟩
  exact match ds, hl with
  | [a1, a2], _ =>
    show SV _ _ _ _ [(.I sp), .F, .E, .N, .N, .N] [(.obj "Loop" [] []), a1, a2, .non, .non, .non] _ _ (b_Loop___init__ a1 a2) from (sv_ifS (et_w (ew_or (et_cmp op_lt od_lt (ev_varF (pe_var (i := 1) rfl (.inl rfl)) rfl rfl) ev_int (nomark _)) (ew_or1 (et_cmp op_gt od_gt (ev_varF (pe_var (i := 1) rfl (.inl rfl)) rfl rfl) (ev_bin op_pow od_pow ev_int ev_int) (nomark _))))) (sv_raise C.x_NoMeasure (takes_of rfl rfl rfl rfl)) (sv_ifS (et_w (ew_or (et_cmp op_lt od_lt (ev_callB call_len bf_len (ea_P (ev_varD (pe_var (i := 2) rfl (.inl rfl)) rfl rfl) ea_nil) C.f_len (by decide +kernel)) ev_int (nomark _)) (ew_or1 (et_cmp op_gt od_gt (ev_callB call_len bf_len (ea_P (ev_varD (pe_var (i := 2) rfl (.inl rfl)) rfl rfl) ea_nil) C.f_len (by decide +kernel)) (ev_globI rfl C.g_MOST_ROWS) (nomark _))))) (sv_raise C.x_BadRows (takes_of rfl rfl rfl rfl)) (sv_setC (i := 4) sc_Loop___init__.nd (ei_seqJ (ev_varD (pe_var (i := 2) rfl (.inl rfl)) rfl rfl)) (blkOk_by (own := [("row", 3)]) rfl) (tgb_name (i := 3) (fun _ _ _ _ _ => pg_name sc_Loop___init__.nd rfl (.inl rfl) (.inr rfl))) (fun _ _ _ _ _ _ p1 => ets_nil) (fun _ _ _ _ _ _ p1 => (ev_ix (ev_varF (pe_var (i := 3) rfl (.inl rfl)) rfl rfl) ev_int)) (fun x2 => (sv_at (κ2 := [(.I sp), .F, .E, .N, (.L .F), .N]) (en2 := [(.obj "Loop" [] []), a1, a2, .non, x2, .non]) (sv_freeze (i := 4) (q := (.L .F)) rfl (sv_for (js := [5, 3]) [(.I sp), .F, .E, .N, .F, .N] (fun (t3 : Unit) => [(.obj "Loop" [] []), a1, a2, .non, x2, .non]) () (ei_enumJ (ev_varD (pe_var (i := 2) rfl (.inl rfl)) rfl rfl) C.f_enumerate) (tg_tup (js := [5, 3]) (vs := fun p => [p.1, p.2]) (pg_tup rfl (pgs_cons (pg_name (i := 5) sc_Loop___init__.nd rfl (.inl rfl) (.inl rfl)) (pgs_cons (pg_name (i := 3) sc_Loop___init__.nd rfl (.inl rfl) (.inl rfl)) pgs_nil))) un2_ok un2_nx) ⟨.inr ⟨rfl, rfl⟩, .inr ⟨rfl, rfl⟩, .inr ⟨rfl, rfl⟩, .inl rfl, .inr ⟨rfl, rfl⟩, .inl rfl, trivial⟩ (fun _ p4 t3 => (sv_expr (ev_call (fd_look_at_row C) (hr.mono (by decide)) (takes_of rfl rfl rfl rfl) (ea_F (ev_varF (pe_var (i := 4) rfl (.inl rfl)) rfl rfl) (ea_F (ev_varF (pe_var (i := 5) rfl (.inl rfl)) rfl rfl) (ea_F (ev_varF (pe_var (i := 3) rfl (.inl rfl)) rfl rfl) ea_nil)))) (fun _ => (sv_nil ⟨.inr ⟨rfl, rfl⟩, .inr ⟨rfl, rfl⟩, .inr ⟨rfl, rfl⟩, .inl rfl, .inr ⟨rfl, rfl⟩, .inl rfl, trivial⟩)))) (fun t3 => (sv_fld (i := 0) C.fl_Loop_measure (pe_var (i := 0) rfl (.inl rfl)) (ev_varF (pe_var (i := 1) rfl (.inl rfl)) rfl rfl) (fun x5 => (sv_at (κ2 := [(.I sp), .F, .E, .N, .F, .N]) (en2 := [x5, a1, a2, .non, x2, .non]) (sv_fld (i := 0) C.fl_Loop_kept_rows (pe_var (i := 0) rfl (.inl rfl)) (EV.frz (ev_comp rfl sc_Loop___init__.nd (ei_seqJ (ev_varD (pe_var (i := 2) rfl (.inl rfl)) rfl rfl)) (blkOk_by (own := [("row", 3)]) rfl) (tgb_name (i := 3) (fun _ _ _ _ _ => pg_name sc_Loop___init__.nd rfl (.inl rfl) (.inr rfl))) (fun _ _ _ _ _ _ p7 => ets_nil) (fun _ _ _ _ _ _ p7 => (ev_tup (ea_F (ev_ix (ev_varF (pe_var (i := 3) rfl (.inl rfl)) rfl rfl) ev_int) (ea_F (ev_ix (ev_varF (pe_var (i := 3) rfl (.inl rfl)) rfl rfl) ev_int) (ea_F (ev_callTy call_tuple_of bf_tuple (ea_F (ev_ix (ev_varF (pe_var (i := 3) rfl (.inl rfl)) rfl rfl) ev_int) ea_nil) C.f_tuple (by decide +kernel)) ea_nil)))))) rfl) (fun x8 => (sv_at (κ2 := [(.I sp), .F, .E, .N, .F, .N]) (en2 := [x8, a1, a2, .non, x2, .non]) (sv_nil ⟨rfl, rfl⟩)))))))) (passes_of rfl))))) (sw_true rfl rfl rfl rfl))))
def l_is_figures_1 (p2 : D) (t1 : Unit) : R (Lp (Unit) D) := (R.bind (R.bind (R.bin2 (.ok p2) (.ok (.str "0123456789")) pNotInS) toB) fun b => if b = true then (R.bind (.ok (.bl false)) fun d => .ok (Lp.out d)) else (.ok (.nx ())))
def b_is_figures (a0 : D) : R D := (R.bind (R.bind (.ok a0) toChr) fun xs => R.bind (rForX xs () (l_is_figures_1)) (Go.thn fun t1 => (andV (chn (.ok (.int 0)) (R.bind (R.cons (.ok a0) (.ok [])) pLen) (.ok (.int 61)) pLt pLe) (orV (R.bin2 (.ok a0) (.ok (.str "0")) pEq) (R.bin2 (R.bin2 (.ok a0) (.ok (.int 0)) pIx) (.ok (.str "0")) pNe)))))
def f_is_figures : List D → R D
  | [a0] => b_is_figures a0
  | _ => .bad
theorem sc_is_figures : FnScope ["text", "sign"] ["text"] (defScope (top 43)) := ⟨rfl, rfl, rfl, by decide +kernel, rfl, by decide +kernel, by decide +kernel⟩
theorem fd_is_figures (C : Ctx K mg) : FD P w K mg base 1 "is_figures" f_is_figures [.F] .F := by
  obtain ⟨fa, fd, g, F⟩ := C.d_is_figures
  refine ⟨fa, fd, ["text"], g, F.kp, F.bindsN (fun _ _ _ _ _ _ us hl => match us, hl with | [_], _ => rfl), fd_ok F sc_is_figures rfl (by decide) fun cdv A outer s H E G ds hr hl => ?_⟩
  exact match ds, hl with
  | [a0], _ =>
    show SV _ _ _ _ [.F, .N] [a0, .non] _ _ (b_is_figures a0) from (sv_forX1 (i := 1) [.F, .N] (fun (t1 : Unit) => [a0, .non]) () (ei_str (ev_varF (pe_var (i := 0) rfl (.inl rfl)) rfl rfl)) (tg_name sc_is_figures.nd) ⟨.inr ⟨rfl, rfl⟩, .inl rfl, trivial⟩ (fun _ p2 t1 => (sv_ifE (et_cmp op_notInS od_notInS (ev_varF (pe_var (i := 1) rfl (.inl rfl)) rfl rfl) (ev_globS rfl C.g_FIGURES s_17) (by rfl)) (sv_ret (g := fun d => (Lp.out d)) ev_bl (fun d => ⟨_, rfl, ⟨rfl, rfl⟩⟩)) (sv_nil ⟨_, rfl, ⟨.inr ⟨rfl, rfl⟩, .inl rfl, trivial⟩⟩))) (fun t1 => (sv_retD (ev_and (ev_chain op_lt od_lt op_le od_le ev_int (ev_callB call_len bf_len (ea_P (ev_varF (pe_var (i := 0) rfl (.inl rfl)) rfl rfl) ea_nil) C.f_len (by decide +kernel)) (ev_globI rfl C.g_MOST_FIGURES)) (ev_one (ev_or (ev_cmp (op_eqD hr.units) od_eq (ev_varF (pe_var (i := 0) rfl (.inl rfl)) rfl rfl) (ev_str s_18) (nomark _)) (ev_one (ev_cmp (op_neD hr.units) od_ne (ev_ix (ev_varF (pe_var (i := 0) rfl (.inl rfl)) rfl rfl) ev_int) (ev_str s_18) (nomark _)))))))) (passes_of rfl))
def b_BadText___init__ (a1 : D) : R D := (R.bind (R.bin2 (.ok (.str "no row can be read at ")) (R.bind (R.cons (.ok a1) (.ok [])) pStr) pAdd) fun _ => R.bind (.ok a1) fun d => .ok (.exc "BadText" ["row"] [d]))
def f_BadText___init__ : List D → R D
  | [a1] => b_BadText___init__ a1
  | _ => .bad
theorem sc_BadText___init__ : FnScope ["self", "row"] ["self", "row"] (defScope (inCls (top 13) 0)) := ⟨rfl, rfl, rfl, by decide +kernel, rfl, by decide +kernel, by decide +kernel⟩
theorem mx_BadText (C : Ctx K mg) : MkX P w K mg base 1 "BadText" "row" [.F] f_BadText___init__ := by
  obtain ⟨cl, fa, fd, g, T, hf, M, F⟩ := C.mx_BadText
  refine ⟨cl, fa, fd, ["self", "row"], g, T, hf, M.at_, beq_iff_eq.mp M.fn, F.bindsN (fun _ _ _ _ _ _ us hl => match us, hl with | [_, _], _ => rfl), fx_ok 0 F sc_BadText___init__ rfl rfl fun cdv A outer s H B E G ds hr hl => ?_⟩
  exact match ds, hl with
  | [a1], _ =>
    show SX _ _ _ [.N, .F] [.non, a1] _ _ _ (b_BadText___init__ a1) from sx_ok C.lb_LapError (pe_var (i := 0) rfl (.inl rfl)) (pe_var (i := 0) rfl (.inl rfl)) (ev_bin op_addD od_add (ev_str s_20) (ev_callTy call_str_int bf_str (ea_P (ev_varF (pe_var (i := 1) rfl (.inl rfl)) rfl rfl) ea_nil) C.f_str (by decide +kernel))) (ev_varF (pe_var (i := 1) rfl (.inl rfl)) rfl rfl)
def b_measure_of (a0 : D) : R D := (R.bind (R.bin2 (R.bind (.ok a0) stOnly) (.ok (.str " ")) pSplit) fun x1 => (R.bind (orT (R.bind (R.bin2 (R.bind (R.cons (.ok x1) (.ok [])) pLen) (.ok (.int 2)) pNe) toB) (orT (R.bind (R.bin2 (R.bin2 (.ok x1) (.ok (.int 0)) pIx) (.ok (.str "measure")) pNe) toB) (notT (R.bind (R.bind (R.cons (R.bin2 (.ok x1) (.ok (.int 1)) pIx) (.ok [])) f_is_figures) toB)))) fun b => if b = true then (R.bind (R.cons (.ok (.int 0)) (.ok [])) fun ds => R.bind (noX (f_BadText___init__ ds)) fun d => if d matches .exc _ _ _ then toExc d else .bad) else (R.bind (R.cons (R.bin2 (.ok x1) (.ok (.int 1)) pIx) (.ok [])) pIntT)))
def f_measure_of : List D → R D
  | [a0] => b_measure_of a0
  | _ => .bad
theorem sc_measure_of : FnScope ["line", "parts"] ["line"] (defScope (top 46)) := ⟨rfl, rfl, rfl, by decide +kernel, rfl, by decide +kernel, by decide +kernel⟩
theorem fd_measure_of (C : Ctx K mg) : FD P w K mg base 3 "measure_of" f_measure_of [.F] .F := by
  obtain ⟨fa, fd, g, F⟩ := C.d_measure_of
  refine ⟨fa, fd, ["line"], g, F.kp, F.bindsN (fun _ _ _ _ _ _ us hl => match us, hl with | [_], _ => rfl), fd_ok F sc_measure_of rfl (by decide) fun cdv A outer s H E G ds hr hl => ?_⟩
  exact match ds, hl with
  | [a0], _ =>
    show SV _ _ _ _ [.F, .N] [a0, .non] _ _ (b_measure_of a0) from (sv_set (i := 1) (EV.frz (ev_split (ev_varF (pe_var (i := 0) rfl (.inl rfl)) rfl rfl) (ev_str s_13)) rfl) (fun x1 => (sv_at (κ2 := [.F, .F]) (en2 := [a0, x1]) (sv_ifS (et_w (ew_or (et_cmp (op_neD hr.units) od_ne (ev_callB call_len bf_len (ea_P (ev_varF (pe_var (i := 1) rfl (.inl rfl)) rfl rfl) ea_nil) C.f_len (by decide +kernel)) ev_int (nomark _)) (ew_or (et_cmp (op_neD hr.units) od_ne (ev_ix (ev_varF (pe_var (i := 1) rfl (.inl rfl)) rfl rfl) ev_int) (ev_str s_19) (nomark _)) (ew_or1 (et_not (et_val (ev_call (fd_is_figures C) (hr.mono (by decide)) (takes_of rfl rfl rfl rfl) (ea_F (ev_ix (ev_varF (pe_var (i := 1) rfl (.inl rfl)) rfl rfl) ev_int) ea_nil)))))))) (sv_raiseX (mx_BadText C) (hr.mono (by decide)) (takes_of rfl rfl rfl rfl) (ea_F ev_int ea_nil)) (sv_retD (ev_callTy call_int_str bf_intT (ea_P (ev_ix (ev_varF (pe_var (i := 1) rfl (.inl rfl)) rfl rfl) ev_int) ea_nil) C.f_int (by decide +kernel)))))) sc_measure_of.nd)
def b_is_word (a0 : D) : R D := (andV (R.bin2 (.ok a0) (.ok (.str "")) pNe) (R.bind (R.cons (.ok a0) (.ok [])) f_all_letters))
def f_is_word : List D → R D
  | [a0] => b_is_word a0
  | _ => .bad
theorem sc_is_word : FnScope ["text"] ["text"] (defScope (top 44)) := ⟨rfl, rfl, rfl, by decide +kernel, rfl, by decide +kernel, by decide +kernel⟩
theorem fd_is_word (C : Ctx K mg) : FD P w K mg base 2 "is_word" f_is_word [.F] .F := by
  obtain ⟨fa, fd, g, F⟩ := C.d_is_word
  refine ⟨fa, fd, ["text"], g, F.kp, F.bindsN (fun _ _ _ _ _ _ us hl => match us, hl with | [_], _ => rfl), fd_ok F sc_is_word rfl (by decide) fun cdv A outer s H E G ds hr hl => ?_⟩
  exact match ds, hl with
  | [a0], _ =>
    show SV _ _ _ _ [.F] [a0] _ _ (b_is_word a0) from (sv_retD (ev_and (ev_cmp (op_neD hr.units) od_ne (ev_varF (pe_var (i := 0) rfl (.inl rfl)) rfl rfl) (ev_str s_10) (nomark _)) (ev_one (ev_call (fd_all_letters C) (hr.mono (by decide)) (takes_of rfl rfl rfl rfl) (ea_F (ev_varF (pe_var (i := 0) rfl (.inl rfl)) rfl rfl) ea_nil)))))
def b_read_of (a0 a1 : D) : R D := (R.bind (R.bind (R.bind (R.cons (.ok a0) (.ok [])) f_is_figures) toB) fun b => if b = true then (R.bind (R.bind (R.cons (.ok a0) (.ok [])) pIntT) fun d => .ok d) else (R.bind (R.bin2 (R.bind (.ok a0) stOnly) (.ok (.str "@")) pPart) fun d => R.bind (un3 d) fun p1 => (R.bind (notT (R.bind (R.bind (R.cons (.ok p1.1) (.ok [])) f_is_word) toB)) fun b => if b = true then (R.bind (R.cons (.ok a1) (.ok [])) fun ds => R.bind (noX (f_BadText___init__ ds)) fun d => if d matches .exc _ _ _ then toExc d else .bad) else (R.bind (R.bind (R.bin2 (.ok p1.2.1) (.ok (.str "")) pEq) toB) fun b => if b = true then (R.bind (R.bind (R.cons (.ok p1.1) (R.cons (.ok (.int 0)) (.ok []))) mkT) fun d => .ok d) else (R.bind (orT (notT (R.bind (R.bind (R.cons (.ok p1.2.2) (.ok [])) f_is_figures) toB)) (R.bind (R.bin2 (.ok p1.2.2) (.ok (.str "0")) pEq) toB)) fun b => if b = true then (R.bind (R.cons (.ok a1) (.ok [])) fun ds => R.bind (noX (f_BadText___init__ ds)) fun d => if d matches .exc _ _ _ then toExc d else .bad) else (R.bind (R.cons (.ok p1.1) (R.cons (R.bind (R.cons (.ok p1.2.2) (.ok [])) pIntT) (.ok []))) mkT))))))
def f_read_of : List D → R D
  | [a0, a1] => b_read_of a0 a1
  | _ => .bad
theorem sc_read_of : FnScope ["text", "at", "name", "parted", "back"] ["text", "at"] (defScope (top 45)) := ⟨rfl, rfl, rfl, by decide +kernel, rfl, by decide +kernel, by decide +kernel⟩
theorem fd_read_of (C : Ctx K mg) : FD P w K mg base 3 "read_of" f_read_of [.F, .F] .F := by
  obtain ⟨fa, fd, g, F⟩ := C.d_read_of
  refine ⟨fa, fd, ["text", "at"], g, F.kp, F.bindsN (fun _ _ _ _ _ _ us hl => match us, hl with | [_, _], _ => rfl), fd_ok F sc_read_of rfl (by decide) fun cdv A outer s H E G ds hr hl => ?_⟩
  exact match ds, hl with
  | [a0, a1], _ =>
    show SV _ _ _ _ [.F, .F, .N, .N, .N] [a0, a1, .non, .non, .non] _ _ (b_read_of a0 a1) from (sv_ifS (et_val (ev_call (fd_is_figures C) (hr.mono (by decide)) (takes_of rfl rfl rfl rfl) (ea_F (ev_varF (pe_var (i := 0) rfl (.inl rfl)) rfl rfl) ea_nil))) (sv_ret (g := fun d => d) (ev_callTy call_int_str bf_intT (ea_P (ev_varF (pe_var (i := 0) rfl (.inl rfl)) rfl rfl) ea_nil) C.f_int (by decide +kernel)) (fun d => ⟨rfl, rfl⟩)) (sv_un (ev_part (ev_varF (pe_var (i := 0) rfl (.inl rfl)) rfl rfl) (ev_str s_14)) (tg_tup (js := [2, 3, 4]) (vs := fun p => [p.1, p.2.1, p.2.2]) (pg_tup rfl (pgs_cons (pg_name (i := 2) sc_read_of.nd rfl (.inl rfl) (.inl rfl)) (pgs_cons (pg_name (i := 3) sc_read_of.nd rfl (.inl rfl) (.inl rfl)) (pgs_cons (pg_name (i := 4) sc_read_of.nd rfl (.inl rfl) (.inl rfl)) pgs_nil)))) un3_ok un3_nx) (fun p1 => (sv_ifS (et_not (et_val (ev_call (fd_is_word C) (hr.mono (by decide)) (takes_of rfl rfl rfl rfl) (ea_F (ev_varF (pe_var (i := 2) rfl (.inl rfl)) rfl rfl) ea_nil)))) (sv_raiseX (mx_BadText C) (hr.mono (by decide)) (takes_of rfl rfl rfl rfl) (ea_F (ev_varF (pe_var (i := 1) rfl (.inl rfl)) rfl rfl) ea_nil)) (sv_ifS (et_cmp (op_eqD hr.units) od_eq (ev_varF (pe_var (i := 3) rfl (.inl rfl)) rfl rfl) (ev_str s_10) (nomark _)) (sv_ret (g := fun d => d) (ev_tup (ea_F (ev_varF (pe_var (i := 2) rfl (.inl rfl)) rfl rfl) (ea_F ev_int ea_nil))) (fun d => ⟨rfl, rfl⟩)) (sv_ifS (et_w (ew_or (et_not (et_val (ev_call (fd_is_figures C) (hr.mono (by decide)) (takes_of rfl rfl rfl rfl) (ea_F (ev_varF (pe_var (i := 4) rfl (.inl rfl)) rfl rfl) ea_nil)))) (ew_or1 (et_cmp (op_eqD hr.units) od_eq (ev_varF (pe_var (i := 4) rfl (.inl rfl)) rfl rfl) (ev_str s_18) (nomark _))))) (sv_raiseX (mx_BadText C) (hr.mono (by decide)) (takes_of rfl rfl rfl rfl) (ea_F (ev_varF (pe_var (i := 1) rfl (.inl rfl)) rfl rfl) ea_nil)) (sv_retD (ev_tup (ea_F (ev_varF (pe_var (i := 2) rfl (.inl rfl)) rfl rfl) (ea_F (ev_callTy call_int_str bf_intT (ea_P (ev_varF (pe_var (i := 4) rfl (.inl rfl)) rfl rfl) ea_nil) C.f_int (by decide +kernel)) ea_nil))))))))))
def b_row_of (a0 a1 : D) : R D := (R.bind (R.bin2 (R.bind (.ok a0) stOnly) (.ok (.str " ")) pSplit) fun x1 => (R.bind (orT (R.bind (R.bin2 (R.bind (R.cons (.ok x1) (.ok [])) pLen) (.ok (.int 3)) pLt) toB) (orT (R.bind (R.bin2 (R.bin2 (.ok x1) (.ok (.int 1)) pIx) (.ok (.str "=")) pNe) toB) (orT (notT (R.bind (R.bind (R.cons (R.bin2 (.ok x1) (.ok (.int 0)) pIx) (.ok [])) f_is_word) toB)) (notT (R.bind (R.bind (R.cons (R.bin2 (.ok x1) (.ok (.int 2)) pIx) (.ok [])) f_is_word) toB))))) fun b => if b = true then (R.bind (R.cons (.ok a1) (.ok [])) fun ds => R.bind (noX (f_BadText___init__ ds)) fun d => if d matches .exc _ _ _ then toExc d else .bad) else (R.bind (R.cons (R.bin2 (.ok x1) (.ok (.int 0)) pIx) (R.cons (R.bin2 (.ok x1) (.ok (.int 2)) pIx) (R.cons (R.bind (R.cons (pCompX (R.bind (sl3 (.ok x1) (R.bind (.ok (.int 3)) toI) (.ok none) pSlL) toSeq) (fun d => .ok d) (fun p2 => (.ok true)) (fun p2 => (R.bind (R.cons (.ok p2) (R.cons (.ok a1) (.ok []))) f_read_of))) (.ok [])) pTuple) (.ok [])))) mkT)))
def f_row_of : List D → R D
  | [a0, a1] => b_row_of a0 a1
  | _ => .bad
theorem sc_row_of : FnScope ["line", "at", "parts", "part"] ["line", "at"] (defScope (top 47)) := ⟨rfl, rfl, rfl, by decide +kernel, rfl, by decide +kernel, by decide +kernel⟩
theorem fd_row_of (C : Ctx K mg) : FD P w K mg base 4 "row_of" f_row_of [.F, .F] .F := by
  obtain ⟨fa, fd, g, F⟩ := C.d_row_of
  refine ⟨fa, fd, ["line", "at"], g, F.kp, F.bindsN (fun _ _ _ _ _ _ us hl => match us, hl with | [_, _], _ => rfl), fd_ok F sc_row_of rfl (by decide) fun cdv A outer s H E G ds hr hl => ?_⟩
  exact match ds, hl with
  | [a0, a1], _ =>
    show SV _ _ _ _ [.F, .F, .N, .N] [a0, a1, .non, .non] _ _ (b_row_of a0 a1) from (sv_set (i := 2) (EV.frz (ev_split (ev_varF (pe_var (i := 0) rfl (.inl rfl)) rfl rfl) (ev_str s_13)) rfl) (fun x1 => (sv_at (κ2 := [.F, .F, .F, .N]) (en2 := [a0, a1, x1, .non]) (sv_ifS (et_w (ew_or (et_cmp op_lt od_lt (ev_callB call_len bf_len (ea_P (ev_varF (pe_var (i := 2) rfl (.inl rfl)) rfl rfl) ea_nil) C.f_len (by decide +kernel)) ev_int (nomark _)) (ew_or (et_cmp (op_neD hr.units) od_ne (ev_ix (ev_varF (pe_var (i := 2) rfl (.inl rfl)) rfl rfl) ev_int) (ev_str s_16) (nomark _)) (ew_or (et_not (et_val (ev_call (fd_is_word C) (hr.mono (by decide)) (takes_of rfl rfl rfl rfl) (ea_F (ev_ix (ev_varF (pe_var (i := 2) rfl (.inl rfl)) rfl rfl) ev_int) ea_nil)))) (ew_or1 (et_not (et_val (ev_call (fd_is_word C) (hr.mono (by decide)) (takes_of rfl rfl rfl rfl) (ea_F (ev_ix (ev_varF (pe_var (i := 2) rfl (.inl rfl)) rfl rfl) ev_int) ea_nil))))))))) (sv_raiseX (mx_BadText C) (hr.mono (by decide)) (takes_of rfl rfl rfl rfl) (ea_F (ev_varF (pe_var (i := 1) rfl (.inr (.inl rfl))) rfl rfl) ea_nil)) (sv_retD (ev_tup (ea_F (ev_ix (ev_varF (pe_var (i := 2) rfl (.inl rfl)) rfl rfl) ev_int) (ea_F (ev_ix (ev_varF (pe_var (i := 2) rfl (.inl rfl)) rfl rfl) ev_int) (ea_F (ev_callTy call_tuple_of bf_tuple (ea_F (EV.frz (ev_compX rfl rfl (takes_of rfl rfl rfl rfl) rfl sc_row_of.nd (ei_seq (EV.frz (ev_slL (ev_varF (pe_var (i := 2) rfl (.inl rfl)) rfl rfl) (eo_some ev_int) eo_none) rfl)) (blkOk_by (own := [("part", 3)]) rfl) (tgb_name (i := 3) (fun _ _ _ _ _ => pg_name sc_row_of.nd rfl (.inl rfl) (.inr rfl))) (fun _ _ _ _ _ _ p2 => ets_nil) (fun _ _ _ _ _ _ _ p2 => (ev_call (fd_read_of C) (hr.mono (by decide)) takes_blkE (ea_F (ev_varF (pe_var (i := 3) rfl (.inl rfl)) rfl rfl) (ea_F (ev_varF (pe_var (i := 1) rfl (.inr (.inl rfl))) rfl rfl) ea_nil))))) rfl) ea_nil) C.f_tuple (by decide +kernel)) ea_nil)))))))) sc_row_of.nd)
def l_loop_read_1 (p5 : D × D) (t4 : D) : R (D) := (R.bind (R.bind (R.bin2 (.ok p5.1) (.ok (.int 0)) pGt) toB) fun b => if b = true then (R.bind (toL t4) fun xs => R.bind (R.bind (R.cons (.ok p5.2) (R.cons (.ok p5.1) (.ok []))) f_row_of) fun d => R.bind (appL xs d) fun x6 => (.ok x6)) else (.ok t4))
def b_loop_read (a0 : D) : R D := (R.bind (R.bin2 (R.bind (.ok a0) stOnly) (.ok (.str "\n")) pSplit) fun x1 => (R.bind (R.bind (R.cons (R.bin2 (.ok x1) (.ok (.int 0)) pIx) (.ok [])) f_measure_of) fun x2 => (R.bind (R.bind (.ok []) mkL) fun x3 => (R.bind (R.bind (.ok x1) fun d => R.bind (toLs d) fun xs => .ok (enumL xs)) fun xs => R.bind (rFor xs x3 (fun x t4 => R.bind (un2 x) fun p5 => l_loop_read_1 p5 t4)) fun t4 => (R.bind (R.cons (.ok x2) (R.cons (.ok t4) (.ok []))) f_Loop___init__)))))
def f_loop_read : List D → R D
  | [a0] => b_loop_read a0
  | _ => .bad
theorem sc_loop_read : FnScope ["text", "lines", "measure", "rows", "at", "line"] ["text"] (defScope (top 48)) := ⟨rfl, rfl, rfl, by decide +kernel, rfl, by decide +kernel, by decide +kernel⟩
theorem fd_loop_read (C : Ctx K mg) : FD P w K mg base 6 "loop_read" f_loop_read [.F] .F := by
  obtain ⟨fa, fd, g, F⟩ := C.d_loop_read
  refine ⟨fa, fd, ["text"], g, F.kp, F.bindsN (fun _ _ _ _ _ _ us hl => match us, hl with | [_], _ => rfl), fd_ok F sc_loop_read rfl (by decide) fun cdv A outer s H E G ds hr hl => ?_⟩
  exact match ds, hl with
  | [a0], _ =>
    show SV _ _ _ _ [.F, .N, .N, .N, .N, .N] [a0, .non, .non, .non, .non, .non] _ _ (b_loop_read a0) from (sv_set (i := 1) (EV.frz (ev_split (ev_varF (pe_var (i := 0) rfl (.inl rfl)) rfl rfl) (ev_str s_15)) rfl) (fun x1 => (sv_at (κ2 := [.F, .F, .N, .N, .N, .N]) (en2 := [a0, x1, .non, .non, .non, .non]) (sv_set (i := 2) (ev_call (fd_measure_of C) (hr.mono (by decide)) (takes_of rfl rfl rfl rfl) (ea_F (ev_ix (ev_varF (pe_var (i := 1) rfl (.inl rfl)) rfl rfl) ev_int) ea_nil)) (fun x2 => (sv_at (κ2 := [.F, .F, .F, .N, .N, .N]) (en2 := [a0, x1, x2, .non, .non, .non]) (sv_set (i := 3) (ev_lst ea_nil) (fun x3 => (sv_at (κ2 := [.F, .F, .F, (.L .F), .N, .N]) (en2 := [a0, x1, x2, x3, .non, .non]) (sv_for (js := [4, 5]) [.F, .F, .F, (.L .F), .N, .N] (fun (t4 : D) => [a0, x1, x2, t4, .non, .non]) x3 (ei_enum (ev_varF (pe_var (i := 1) rfl (.inl rfl)) rfl rfl) C.f_enumerate) (tg_tup (js := [4, 5]) (vs := fun p => [p.1, p.2]) (pg_tup rfl (pgs_cons (pg_name (i := 4) sc_loop_read.nd rfl (.inl rfl) (.inl rfl)) (pgs_cons (pg_name (i := 5) sc_loop_read.nd rfl (.inl rfl) (.inl rfl)) pgs_nil))) un2_ok un2_nx) ⟨.inr ⟨rfl, rfl⟩, .inr ⟨rfl, rfl⟩, .inr ⟨rfl, rfl⟩, .inr ⟨rfl, rfl⟩, .inl rfl, .inl rfl, trivial⟩ (fun _ p5 t4 => (sv_ifE (et_cmp op_gt od_gt (ev_varF (pe_var (i := 4) rfl (.inl rfl)) rfl rfl) ev_int (nomark _)) (sv_app (pe_var (i := 3) rfl (.inl rfl)) (ev_call (fd_row_of C) (hr.mono (by decide)) (takes_of rfl rfl rfl rfl) (ea_F (ev_varF (pe_var (i := 5) rfl (.inl rfl)) rfl rfl) (ea_F (ev_varF (pe_var (i := 4) rfl (.inl rfl)) rfl rfl) ea_nil))) (fun x6 => (sv_at (κ2 := [.F, .F, .F, (.L .F), .F, .F]) (en2 := [a0, x1, x2, x6, p5.1, p5.2]) (sv_nil ⟨.inr ⟨rfl, rfl⟩, .inr ⟨rfl, rfl⟩, .inr ⟨rfl, rfl⟩, .inr ⟨rfl, rfl⟩, .inl rfl, .inl rfl, trivial⟩)))) (sv_nil ⟨.inr ⟨rfl, rfl⟩, .inr ⟨rfl, rfl⟩, .inr ⟨rfl, rfl⟩, .inr ⟨rfl, rfl⟩, .inl rfl, .inl rfl, trivial⟩))) (fun t4 => (sv_retD (ev_make (mi_Loop C) (hr.mono (by decide)) (takes_of rfl rfl rfl rfl) (ea_F (ev_varF (pe_var (i := 2) rfl (.inl rfl)) rfl rfl) (ea_E (ev_varE (pe_var (i := 3) rfl (.inl rfl)) rfl rfl) ea_nil))))) (passes_of rfl)))) sc_loop_read.nd))) sc_loop_read.nd))) sc_loop_read.nd)
def b_law_whole (a0 : D) : R D := (andV (R.bind (.ok a0) (pIsTy "int")) (R.bind (R.bind (.ok a0) (pIsTy "bool")) notV))
def f_law_whole : List D → R D
  | [a0] => b_law_whole a0
  | _ => .bad
theorem sc_law_whole : FnScope ["_law_found"] ["_law_found"] (defScope (top 51)) := ⟨rfl, rfl, rfl, by decide +kernel, rfl, by decide +kernel, by decide +kernel⟩
theorem fd_law_whole (C : Ctx K mg) : FD P w K mg base 1 "_law_whole" f_law_whole [.F] .F := by
  obtain ⟨fa, fd, g, F⟩ := C.d_law_whole
  refine ⟨fa, fd, ["_law_found"], g, F.kp, F.bindsN (fun _ _ _ _ _ _ us hl => match us, hl with | [_], _ => rfl), fd_ok F sc_law_whole rfl (by decide) fun cdv A outer s H E G ds hr hl => ?_⟩
  exact match ds, hl with
  | [a0], _ =>
    show SV _ _ _ _ [.F] [a0] _ _ (b_law_whole a0) from (sv_retD (ev_and (ev_isTy (T := "int") (ev_varF (pe_var (i := 0) rfl (.inl rfl)) rfl rfl) C.f_isinstance C.f_int (by decide +kernel)) (ev_one (ev_not (ev_isTy (T := "bool") (ev_varF (pe_var (i := 0) rfl (.inl rfl)) rfl rfl) C.f_isinstance C.f_bool (by decide +kernel))))))
def l_law_rows_right_1 (p4 : D) (t3 : Unit) : R (Lp (Unit) (Lp (Unit) D)) := (R.bind (andT (notT (R.bind (R.bind (.ok p4) (pIsTy "tuple")) toB)) (notT (R.bind (R.bind (R.cons (.ok p4) (.ok [])) f_law_whole) toB))) fun b => if b = true then (R.bind (.ok (.bl false)) fun d => .ok (Lp.out (Lp.out d))) else (R.bind (andT (R.bind (R.bind (.ok p4) (pIsTy "tuple")) toB) (orT (R.bind (R.bin2 (R.bind (R.cons (.ok p4) (.ok [])) pLen) (.ok (.int 2)) pNe) toB) (notT (R.bind (R.bind (R.cons (R.bin2 (.ok p4) (.ok (.int 1)) pIx) (.ok [])) f_law_whole) toB)))) fun b => if b = true then (R.bind (.ok (.bl false)) fun d => .ok (Lp.out (Lp.out d))) else (.ok (.nx ()))))
def l_law_rows_right_2 (p2 : D) (t1 : Unit) : R (Lp (Unit) D) := (R.bind (orT (notT (R.bind (R.bind (.ok p2) (pIsTy "tuple")) toB)) (orT (R.bind (R.bin2 (R.bind (R.cons (.ok p2) (.ok [])) pLen) (.ok (.int 3)) pNe) toB) (notT (R.bind (R.bind (R.bin2 (.ok p2) (.ok (.int 2)) pIx) (pIsTy "tuple")) toB)))) fun b => if b = true then (R.bind (.ok (.bl false)) fun d => .ok (Lp.out d)) else (R.bind (orT (notT (R.bind (R.bind (R.bin2 (.ok p2) (.ok (.int 0)) pIx) (pIsTy "str")) toB)) (notT (R.bind (R.bind (R.bin2 (.ok p2) (.ok (.int 1)) pIx) (pIsTy "str")) toB))) fun b => if b = true then (R.bind (.ok (.bl false)) fun d => .ok (Lp.out d)) else (R.bind (R.bind (R.bin2 (.ok p2) (.ok (.int 2)) pIx) toSeq) fun xs => R.bind (rForX xs () (l_law_rows_right_1)) (Go.thn fun t3 => (.ok (.nx ()))))))
def b_law_rows_right (a0 a1 : D) : R D := (R.bind (orT (notT (R.bind (R.bind (.ok a0) (pIsTy "list")) toB)) (R.bind (R.bin2 (R.bind (R.cons (.ok a0) (.ok [])) pLen) (R.bind (R.cons (.ok a1) (.ok [])) pLen) pNe) toB)) fun b => if b = true then (R.bind (.ok (.bl false)) fun d => .ok d) else (R.bind (R.bind (.ok a0) toSeq) fun xs => R.bind (rForX xs () (l_law_rows_right_2)) (Go.thn fun t1 => (R.bin2 (.ok a0) (.ok a1) pEq))))
def f_law_rows_right : List D → R D
  | [a0, a1] => b_law_rows_right a0 a1
  | _ => .bad
theorem sc_law_rows_right : FnScope ["_law_found", "_law_rows_here", "_law_one", "_law_read_here"] ["_law_found", "_law_rows_here"] (defScope (top 58)) := ⟨rfl, rfl, rfl, by decide +kernel, rfl, by decide +kernel, by decide +kernel⟩
theorem fd_law_rows_right (C : Ctx K mg) : FD P w K mg base 2 "_law_rows_right" f_law_rows_right [.F, .F] .F := by
  obtain ⟨fa, fd, g, F⟩ := C.d_law_rows_right
  refine ⟨fa, fd, ["_law_found", "_law_rows_here"], g, F.kp, F.bindsN (fun _ _ _ _ _ _ us hl => match us, hl with | [_, _], _ => rfl), fd_ok F sc_law_rows_right rfl (by decide) fun cdv A outer s H E G ds hr hl => ?_⟩
  exact match ds, hl with
  | [a0, a1], _ =>
    show SV _ _ _ _ [.F, .F, .N, .N] [a0, a1, .non, .non] _ _ (b_law_rows_right a0 a1) from (sv_ifS (et_w (ew_or (et_not (et_val (ev_isTy (T := "list") (ev_varF (pe_var (i := 0) rfl (.inl rfl)) rfl rfl) C.f_isinstance C.f_list (by decide +kernel)))) (ew_or1 (et_cmp (op_neD hr.units) od_ne (ev_callB call_len bf_len (ea_P (ev_varF (pe_var (i := 0) rfl (.inl rfl)) rfl rfl) ea_nil) C.f_len (by decide +kernel)) (ev_callB call_len bf_len (ea_P (ev_varF (pe_var (i := 1) rfl (.inl rfl)) rfl rfl) ea_nil) C.f_len (by decide +kernel)) (nomark _))))) (sv_ret (g := fun d => d) ev_bl (fun d => ⟨rfl, rfl⟩)) (sv_forX1 (i := 2) [.F, .F, .N, .N] (fun (t1 : Unit) => [a0, a1, .non, .non]) () (ei_seq (ev_varF (pe_var (i := 0) rfl (.inl rfl)) rfl rfl)) (tg_name sc_law_rows_right.nd) ⟨.inr ⟨rfl, rfl⟩, .inr ⟨rfl, rfl⟩, .inl rfl, .inl rfl, trivial⟩ (fun _ p2 t1 => (sv_ifS (et_w (ew_or (et_not (et_val (ev_isTy (T := "tuple") (ev_varF (pe_var (i := 2) rfl (.inl rfl)) rfl rfl) C.f_isinstance C.f_tuple (by decide +kernel)))) (ew_or (et_cmp (op_neD hr.units) od_ne (ev_callB call_len bf_len (ea_P (ev_varF (pe_var (i := 2) rfl (.inl rfl)) rfl rfl) ea_nil) C.f_len (by decide +kernel)) ev_int (nomark _)) (ew_or1 (et_not (et_val (ev_isTy (T := "tuple") (ev_ix (ev_varF (pe_var (i := 2) rfl (.inl rfl)) rfl rfl) ev_int) C.f_isinstance C.f_tuple (by decide +kernel)))))))) (sv_ret (g := fun d => (Lp.out d)) ev_bl (fun d => ⟨_, rfl, ⟨rfl, rfl⟩⟩)) (sv_ifS (et_w (ew_or (et_not (et_val (ev_isTy (T := "str") (ev_ix (ev_varF (pe_var (i := 2) rfl (.inl rfl)) rfl rfl) ev_int) C.f_isinstance C.f_str (by decide +kernel)))) (ew_or1 (et_not (et_val (ev_isTy (T := "str") (ev_ix (ev_varF (pe_var (i := 2) rfl (.inl rfl)) rfl rfl) ev_int) C.f_isinstance C.f_str (by decide +kernel))))))) (sv_ret (g := fun d => (Lp.out d)) ev_bl (fun d => ⟨_, rfl, ⟨rfl, rfl⟩⟩)) (sv_forX1 (i := 3) [.F, .F, .F, .N] (fun (t3 : Unit) => [a0, a1, p2, .non]) () (ei_seq (ev_ix (ev_varF (pe_var (i := 2) rfl (.inl rfl)) rfl rfl) ev_int)) (tg_name sc_law_rows_right.nd) ⟨.inr ⟨rfl, rfl⟩, .inr ⟨rfl, rfl⟩, .inr ⟨rfl, rfl⟩, .inl rfl, trivial⟩ (fun _ p4 t3 => (sv_ifS (et_w (ew_and (et_not (et_val (ev_isTy (T := "tuple") (ev_varF (pe_var (i := 3) rfl (.inl rfl)) rfl rfl) C.f_isinstance C.f_tuple (by decide +kernel)))) (ew_and1 (et_not (et_val (ev_call (fd_law_whole C) (hr.mono (by decide)) (takes_of rfl rfl rfl rfl) (ea_F (ev_varF (pe_var (i := 3) rfl (.inl rfl)) rfl rfl) ea_nil))))))) (sv_ret (g := fun d => (Lp.out (Lp.out d))) ev_bl (fun d => ⟨_, rfl, ⟨_, rfl, ⟨rfl, rfl⟩⟩⟩)) (sv_ifE (et_w (ew_and (et_val (ev_isTy (T := "tuple") (ev_varF (pe_var (i := 3) rfl (.inl rfl)) rfl rfl) C.f_isinstance C.f_tuple (by decide +kernel))) (ew_and1 (et_w (ew_or (et_cmp (op_neD hr.units) od_ne (ev_callB call_len bf_len (ea_P (ev_varF (pe_var (i := 3) rfl (.inl rfl)) rfl rfl) ea_nil) C.f_len (by decide +kernel)) ev_int (nomark _)) (ew_or1 (et_not (et_val (ev_call (fd_law_whole C) (hr.mono (by decide)) (takes_of rfl rfl rfl rfl) (ea_F (ev_ix (ev_varF (pe_var (i := 3) rfl (.inl rfl)) rfl rfl) ev_int) ea_nil)))))))))) (sv_ret (g := fun d => (Lp.out (Lp.out d))) ev_bl (fun d => ⟨_, rfl, ⟨_, rfl, ⟨rfl, rfl⟩⟩⟩)) (sv_nil ⟨_, rfl, ⟨.inr ⟨rfl, rfl⟩, .inr ⟨rfl, rfl⟩, .inr ⟨rfl, rfl⟩, .inl rfl, trivial⟩⟩)))) (fun t3 => (sv_nil ⟨_, rfl, ⟨.inr ⟨rfl, rfl⟩, .inr ⟨rfl, rfl⟩, .inl rfl, .inl rfl, trivial⟩⟩)) (passes_of rfl))))) (fun t1 => (sv_retD (ev_cmp (op_eqD hr.units) od_eq (ev_varF (pe_var (i := 0) rfl (.inl rfl)) rfl rfl) (ev_varF (pe_var (i := 1) rfl (.inl rfl)) rfl rfl) (nomark _)))) (passes_of rfl)))
def l_law_1 (x5 : D) (x4 : D) (x2 : D) (p8 : D) (t7 : Unit) : R (Lp (Unit) D) := (R.bind (R.bind (R.cons (.ok x5) (.ok [])) f_loop_read) fun x9 => (R.bind (orT (notT (R.bind (R.bind (.ok x9) (pIsI isI_Loop)) toB)) (orT (notT (R.bind (R.bind (R.cons (R.bind (.ok x9) (pFld "Loop" "measure")) (.ok [])) f_law_whole) toB)) (R.bind (R.bin2 (R.bind (.ok x9) (pFld "Loop" "measure")) (.ok x4) pNe) toB))) fun b => if b = true then (R.bind (.ok (.bl false)) fun d => .ok (Lp.out d)) else (R.bind (notT (R.bind (R.bind (R.cons (R.bind (R.bind (.ok x9) (asObj "Loop" "rows")) fun d => f_Loop_rows [d]) (R.cons (.ok x2) (.ok []))) f_law_rows_right) toB)) fun b => if b = true then (R.bind (.ok (.bl false)) fun d => .ok (Lp.out d)) else (.ok (.nx ())))))
def b_law (a0 : D) : R D := (R.bind (R.bind (R.cons (.ok a0) (R.cons (.ok (.int 0)) (.ok []))) f_law_cell_at) fun x1 => (R.bind (R.bind (R.cons (.ok a0) (R.cons (R.bind (R.cons (.ok x1) (R.cons (R.bin2 (.ok (.int 1)) (R.bin2 (R.bin2 (.ok x1) (.ok (.int 2)) pDiv) (.ok (.int 12)) pMod) pAdd) (.ok []))) f_law_names) (.ok []))) f_law_rows) fun x2 => (R.bind (R.bind (R.cons (.ok a0) (R.cons (.ok (.int 1)) (.ok []))) f_law_cell_at) fun x3 => (R.bind (R.bin2 (R.bind (R.cons (.ok (.int 2)) (R.cons (R.bin2 (.ok (.int 10)) (.ok (.int 60)) pPow) (R.cons (R.bin2 (.ok (.int 2)) (R.bin2 (R.bin2 (.ok x3) (.ok (.int 4)) pDiv) (.ok (.int 1000)) pMod) pAdd) (R.cons (R.bin2 (.ok (.int 2)) (R.bin2 (R.bin2 (.ok x3) (.ok x3) pMul) (R.bin2 (R.bin2 (.ok (.int 10)) (.ok (.int 60)) pPow) (.ok (.int 1)) pSub) pMod) pAdd) (.ok []))))) mkL) (R.bin2 (.ok x3) (.ok (.int 4)) pMod) pIx) fun x4 => (R.bind (R.bind (R.cons (.ok x4) (R.cons (.ok x2) (.ok []))) f_law_loop_text) fun x5 => (R.bind (R.bind (R.cons (R.bind (R.cons (.ok x4) (R.cons (R.bind (.ok x2) lsOnly) (.ok []))) f_Loop___init__) (.ok [])) f_loop_shown) fun x6 => (R.bind (orT (notT (R.bind (R.bind (.ok x6) (pIsTy "str")) toB)) (R.bind (R.bin2 (.ok x6) (.ok x5) pNe) toB)) fun b => if b = true then (R.bind (.ok (.bl false)) fun d => .ok d) else (R.bind (R.bind (.ok (.int 2)) pRange1) fun xs => R.bind (rForX xs () ((l_law_1 x5 x4 x2))) (Go.thn fun t7 => (R.bin2 (R.bind (R.cons (R.bind (R.cons (.ok x5) (.ok [])) f_loop_read) (.ok [])) f_loop_shown) (.ok x5) pEq))))))))))
def f_law : List D → R D
  | [a0] => b_law a0
  | _ => .bad
theorem sc_law : FnScope ["_law_script", "_law_cell", "_law_rows_here", "_law_more", "_law_measure", "_law_text", "_law_found", "_law_turn", "_law_loop"] ["_law_script"] (defScope (top 59)) := ⟨rfl, rfl, rfl, by decide +kernel, rfl, by decide +kernel, by decide +kernel⟩
theorem fd_law (C : Ctx K mg) : ∃ fa fd, mg "law" = some (.ref fa) ∧ (∀ (s : Shared) (u : Value), BindsTo s fd ⟨[u], []⟩ [("_law_script", u)]) ∧ ∀ (P : Program) (w : World) (base : Heap), FnOk P w K mg base (L2.CX P w) 7 fa fd ["_law_script"] (spF K mg f_law [.F] .F) := by
  obtain ⟨fa, fd, g, F⟩ := C.d_law
  refine ⟨fa, fd, g, fun s u => (FunD.bindsA (ps := ["_law_script"]) F (fun _ _ _ _ _ _ us hl => match us, hl with | [_], _ => rfl)) s [u] rfl, fun P w base => fd_ok F sc_law rfl (by decide) fun cdv A outer s H E G ds hr hl => ?_⟩
  exact match ds, hl with
  | [a0], _ =>
    show SV _ _ _ _ [.F, .N, .N, .N, .N, .N, .N, .N, .N] [a0, .non, .non, .non, .non, .non, .non, .non, .non] _ _ (b_law a0) from (sv_set (i := 1) (ev_call (fd_law_cell_at C) (hr.mono (by decide)) (takes_of rfl rfl rfl rfl) (ea_F (ev_varF (pe_var (i := 0) rfl (.inl rfl)) rfl rfl) (ea_F ev_int ea_nil))) (fun x1 => (sv_at (κ2 := [.F, .F, .N, .N, .N, .N, .N, .N, .N]) (en2 := [a0, x1, .non, .non, .non, .non, .non, .non, .non]) (sv_set (i := 2) (ev_call (fd_law_rows C) (hr.mono (by decide)) (takes_of rfl rfl rfl rfl) (ea_F (ev_varF (pe_var (i := 0) rfl (.inl rfl)) rfl rfl) (ea_F (ev_call (fd_law_names C) (hr.mono (by decide)) (takes_of rfl rfl rfl rfl) (ea_F (ev_varF (pe_var (i := 1) rfl (.inl rfl)) rfl rfl) (ea_F (ev_bin op_addD od_add ev_int (ev_bin op_mod od_mod (ev_bin op_fdivW od_div (ev_varF (pe_var (i := 1) rfl (.inl rfl)) rfl rfl) ev_int) ev_int)) ea_nil))) ea_nil))) (fun x2 => (sv_at (κ2 := [.F, .F, .F, .N, .N, .N, .N, .N, .N]) (en2 := [a0, x1, x2, .non, .non, .non, .non, .non, .non]) (sv_set (i := 3) (ev_call (fd_law_cell_at C) (hr.mono (by decide)) (takes_of rfl rfl rfl rfl) (ea_F (ev_varF (pe_var (i := 0) rfl (.inl rfl)) rfl rfl) (ea_F ev_int ea_nil))) (fun x3 => (sv_at (κ2 := [.F, .F, .F, .F, .N, .N, .N, .N, .N]) (en2 := [a0, x1, x2, x3, .non, .non, .non, .non, .non]) (sv_set (i := 4) (ev_ix (EV.frz (ev_lst (ea_F ev_int (ea_F (ev_bin op_pow od_pow ev_int ev_int) (ea_F (ev_bin op_addD od_add ev_int (ev_bin op_mod od_mod (ev_bin op_fdivW od_div (ev_varF (pe_var (i := 3) rfl (.inl rfl)) rfl rfl) ev_int) ev_int)) (ea_F (ev_bin op_addD od_add ev_int (ev_bin op_mod od_mod (ev_bin op_mulD od_mul (ev_varF (pe_var (i := 3) rfl (.inl rfl)) rfl rfl) (ev_varF (pe_var (i := 3) rfl (.inl rfl)) rfl rfl)) (ev_bin op_sub od_sub (ev_bin op_pow od_pow ev_int ev_int) ev_int))) ea_nil))))) rfl) (ev_bin op_mod od_mod (ev_varF (pe_var (i := 3) rfl (.inl rfl)) rfl rfl) ev_int)) (fun x4 => (sv_at (κ2 := [.F, .F, .F, .F, .F, .N, .N, .N, .N]) (en2 := [a0, x1, x2, x3, x4, .non, .non, .non, .non]) (sv_set (i := 5) (ev_call (fd_law_loop_text C) (hr.mono (by decide)) (takes_of rfl rfl rfl rfl) (ea_F (ev_varF (pe_var (i := 4) rfl (.inl rfl)) rfl rfl) (ea_F (ev_varF (pe_var (i := 2) rfl (.inl rfl)) rfl rfl) ea_nil))) (fun x5 => (sv_at (κ2 := [.F, .F, .F, .F, .F, .F, .N, .N, .N]) (en2 := [a0, x1, x2, x3, x4, x5, .non, .non, .non]) (sv_set (i := 6) (ev_call (fd_loop_shown C) (hr.mono (by decide)) (takes_of rfl rfl rfl rfl) (ea_F (ev_make (mi_Loop C) (hr.mono (by decide)) (takes_of rfl rfl rfl rfl) (ea_F (ev_varF (pe_var (i := 4) rfl (.inl rfl)) rfl rfl) (ea_EF (ev_varF (pe_var (i := 2) rfl (.inl rfl)) rfl rfl) ea_nil))) ea_nil)) (fun x6 => (sv_at (κ2 := [.F, .F, .F, .F, .F, .F, .F, .N, .N]) (en2 := [a0, x1, x2, x3, x4, x5, x6, .non, .non]) (sv_ifS (et_w (ew_or (et_not (et_val (ev_isTy (T := "str") (ev_varF (pe_var (i := 6) rfl (.inl rfl)) rfl rfl) C.f_isinstance C.f_str (by decide +kernel)))) (ew_or1 (et_cmp (op_neD hr.units) od_ne (ev_varF (pe_var (i := 6) rfl (.inl rfl)) rfl rfl) (ev_varF (pe_var (i := 5) rfl (.inl rfl)) rfl rfl) (nomark _))))) (sv_ret (g := fun d => d) ev_bl (fun d => ⟨rfl, rfl⟩)) (sv_forX1 (i := 7) [.F, .F, .F, .F, .F, .F, .F, .N, .N] (fun (t7 : Unit) => [a0, x1, x2, x3, x4, x5, x6, .non, .non]) () (ei_range1 ev_int C.f_range) (tg_name sc_law.nd) ⟨.inr ⟨rfl, rfl⟩, .inr ⟨rfl, rfl⟩, .inr ⟨rfl, rfl⟩, .inr ⟨rfl, rfl⟩, .inr ⟨rfl, rfl⟩, .inr ⟨rfl, rfl⟩, .inr ⟨rfl, rfl⟩, .inl rfl, .inl rfl, trivial⟩ (fun _ p8 t7 => (sv_set (i := 8) (ev_call (fd_loop_read C) (hr.mono (by decide)) (takes_of rfl rfl rfl rfl) (ea_F (ev_varF (pe_var (i := 5) rfl (.inl rfl)) rfl rfl) ea_nil)) (fun x9 => (sv_at (κ2 := [.F, .F, .F, .F, .F, .F, .F, .F, .F]) (en2 := [a0, x1, x2, x3, x4, x5, x6, p8, x9]) (sv_ifS (et_w (ew_or (et_not (et_val (ev_isIO C.iI_Loop (ev_varF (pe_var (i := 8) rfl (.inl rfl)) rfl rfl) C.f_isinstance))) (ew_or (et_not (et_val (ev_call (fd_law_whole C) (hr.mono (by decide)) (takes_of rfl rfl rfl rfl) (ea_F (ev_fld C.fl_Loop_measure (ev_varF (pe_var (i := 8) rfl (.inl rfl)) rfl rfl)) ea_nil)))) (ew_or1 (et_cmp (op_neD hr.units) od_ne (ev_fld C.fl_Loop_measure (ev_varF (pe_var (i := 8) rfl (.inl rfl)) rfl rfl)) (ev_varF (pe_var (i := 4) rfl (.inl rfl)) rfl rfl) (nomark _)))))) (sv_ret (g := fun d => (Lp.out d)) ev_bl (fun d => ⟨_, rfl, ⟨rfl, rfl⟩⟩)) (sv_ifE (et_not (et_val (ev_call (fd_law_rows_right C) (hr.mono (by decide)) (takes_of rfl rfl rfl rfl) (ea_F (EV.frz (ev_meth0 (fm_Loop_rows C) (hr.mono (by decide)) (takes_of rfl rfl rfl rfl) (ev_varF (pe_var (i := 8) rfl (.inl rfl)) rfl rfl) (.inr ⟨rfl, rfl⟩)) rfl) (ea_F (ev_varF (pe_var (i := 2) rfl (.inl rfl)) rfl rfl) ea_nil))))) (sv_ret (g := fun d => (Lp.out d)) ev_bl (fun d => ⟨_, rfl, ⟨rfl, rfl⟩⟩)) (sv_nil ⟨_, rfl, ⟨.inr ⟨rfl, rfl⟩, .inr ⟨rfl, rfl⟩, .inr ⟨rfl, rfl⟩, .inr ⟨rfl, rfl⟩, .inr ⟨rfl, rfl⟩, .inr ⟨rfl, rfl⟩, .inr ⟨rfl, rfl⟩, .inl rfl, .inl rfl, trivial⟩⟩))))) sc_law.nd)) (fun t7 => (sv_retD (ev_cmp (op_eqD hr.units) od_eq (ev_call (fd_loop_shown C) (hr.mono (by decide)) (takes_of rfl rfl rfl rfl) (ea_F (ev_call (fd_loop_read C) (hr.mono (by decide)) (takes_of rfl rfl rfl rfl) (ea_F (ev_varF (pe_var (i := 5) rfl (.inl rfl)) rfl rfl) ea_nil)) ea_nil)) (ev_varF (pe_var (i := 5) rfl (.inl rfl)) rfl rfl) (nomark _)))) (passes_of rfl))))) sc_law.nd))) sc_law.nd))) sc_law.nd))) sc_law.nd))) sc_law.nd))) sc_law.nd)
end
end Lx
namespace Lx
open PySem PySem.Spec PyProof.Rows L2 Lw
/-! ### the script's cells -/
theorem cell_at (ns : List Int) (k : Nat) : f_law_cell_at [.scr (ns.map D.int), .int k] = .ok (.int (ns.getD k 0)) := by
  show b_law_cell_at _ _ = _
  unfold b_law_cell_at
  by_cases h : k < ns.length
  · have e : atI (ns.map D.int) (k : Int) = some (.int (ns.getD k 0)) := by
      rw [atI_nat (by simpa using h)]
      simp [List.getD, h]
    simp [h, pIx_c e]
  · simp [h, List.getD, List.getElem?_eq_none (Nat.le_of_not_lt h)]
end Lx
namespace Lx
open PySem PySem.Spec PyProof.Rows L2 Lw
/-! ### the script's numbers -/
theorem scr_bd {ns : List Int} (hb : ∀ n ∈ ns, Builtin.Int.intBits n ≤ 1048576) (k : Nat) : bd 1048576 (ns.getD k 0) := by
  by_cases h : k < ns.length
  · rw [show ns.getD k 0 = ns[k] by simp [List.getD, h]]
    exact bd_of (hb _ (List.getElem_mem h))
  · rw [show ns.getD k 0 = 0 by simp [List.getD, List.getElem?_eq_none (Nat.le_of_not_lt h)]]
    exact bd_zero
theorem scr_ix {ns : List Int} (hb : ∀ n ∈ ns, Builtin.Int.intBits n ≤ 1048576) (i : Int) (g1 : -(ns.length : Int) ≤ i) (g2 : i < ns.length) : ∃ c : Int, pIx (.scr (ns.map D.int)) (.int i) = .ok (.int c) ∧ bd 1048576 c := by
  by_cases h0 : 0 ≤ i
  · obtain ⟨k, rfl⟩ := Int.eq_ofNat_of_zero_le h0
    have hk : k < ns.length := by omega
    exact ⟨ns[k], pIx_c (by rw [atI_nat (by simpa using hk)]; simp), bd_of (hb _ (List.getElem_mem hk))⟩
  · have hk : (i + ns.length).toNat < ns.length := by omega
    refine ⟨ns[(i + ns.length).toNat], pIx_c ?_, bd_of (hb _ (List.getElem_mem hk))⟩
    rw [atI_neg (by omega) (by simpa using g1)]
    simp [hk]
end Lx
namespace Lx
open PySem PySem.Spec PyProof.Rows L2 Lw
/-! ### names, words, deeds -/
def nmD (n : List Nat) : D := .str (mkS n)
def W9 : List Str := ["sum", "less", "times", "least", "most", "pick", "same", "tell", "take"]
def Nm (l : List Nat) : Prop := 1 ≤ l.length ∧ l.length ≤ 12 ∧ low l
theorem names_map (ns : List (List Nat)) : ns.map nmD = (ns.map mkS).map D.str := by rw [List.map_map]; rfl
theorem mem_mkS {n : List Nat} {ns : List (List Nat)} : mkS n ∈ ns.map mkS ↔ n ∈ ns := by
  rw [List.mem_map]
  exact ⟨fun ⟨a, h, e⟩ => by rw [← mkS_inj.mp e]; exact h, fun h => ⟨n, h, rfl⟩⟩
theorem in_names (n : List Nat) (ns : List (List Nat)) : pInL (nmD n) (.lst (ns.map nmD)) = .ok (.bl (decide (n ∈ ns))) := by
  rw [names_map]
  refine (pIn_strs _ _).trans ?_
  congr 2
  exact decide_eq_decide.mpr mem_mkS
theorem notin_names (n : List Nat) (ns : List (List Nat)) : pNotInL (nmD n) (.lst (ns.map nmD)) = .ok (.bl (!decide (n ∈ ns))) := by
  rw [names_map]
  refine (pNotIn_strs _ _).trans ?_
  congr 3
  exact decide_eq_decide.mpr mem_mkS
theorem p60 : pPow (.int 10) (.int 60) = .ok (.int (10 ^ 60)) := pPow_ii (by decide)
def isNm (l : List Nat) : Bool := (decide (1 ≤ l.length) && decide (l.length ≤ 12)) && l.all fun c => decide (c ∈ az)
theorem letters_gen (l : List Nat) : f_all_letters [.str (mkS l)] = .ok (.bl (l.all fun c => decide (c ∈ az))) := by
  show b_all_letters _ = _
  unfold b_all_letters
  rw [R.bind_ok, toChr_s, R.bind_ok, chrL_mk]
  rw [rForX_all (p := fun c => decide (c ∈ az)) (o := D.bl false) fun c hc => ?_]
  · cases l.all fun c => decide (c ∈ az) <;> rfl
  unfold l_all_letters_1
  rw [R.bin2_ok, az_eq, pNotInS_one]
  by_cases h : c ∈ az <;> simp [h]
theorem is_name_gen (l : List Nat) : f_is_name [nmD l] = .ok (.bl (isNm l)) := by
  show b_is_name (.str (mkS l)) = _
  unfold b_is_name
  have e1 : chn (.ok (.int 0)) (R.bind (R.cons (.ok (.str (mkS l))) (.ok [])) pLen) (.ok (.int 12)) pLt pLe = .ok (.bl (decide (1 ≤ l.length) && decide (l.length ≤ 12))) := by
    unfold chn
    simp only [R.bind_ok, R.cons_ok, pLen_s, mkS_len, pLt_ii]
    by_cases h : 1 ≤ l.length
    · rw [decide_eq_true (show (0 : Int) < l.length by omega), decide_eq_true h]
      simp
      omega
    · rw [decide_eq_false (show ¬ (0 : Int) < l.length by omega), decide_eq_false h]
      simp
  rw [e1, R.cons_ok, R.bind_ok, letters_gen, andV_ok]
  rfl
theorem Nm.is {l : List Nat} (h : Nm l) : isNm l = true := by
  unfold isNm
  rw [decide_eq_true h.1, decide_eq_true h.2.1, Bool.and_self, Bool.true_and, List.all_eq_true]
  exact fun c hc => decide_eq_true (low_az (h.2.2 c hc))
def dcls (w : Str) : Str := if w = "sum" then "Sum" else if w = "less" then "Less" else if w = "times" then "Times" else if w = "least" then "Least" else if w = "most" then "Most" else if w = "pick" then "Pick" else if w = "same" then "Same" else if w = "tell" then "Tell" else "Take"
def exN (s : Str) : Ex := ⟨s, [], []⟩
theorem deed_gen (w : Str) : f_deed_of [.str w] = if w ∈ W9 then .ok (.obj (dcls w) [] []) else .exc (exN "NoDeed") := by
  by_cases h : w ∈ W9
  · rw [if_pos h]
    simp only [W9, List.mem_cons, List.not_mem_nil, or_false] at h
    rcases h with rfl | rfl | rfl | rfl | rfl | rfl | rfl | rfl | rfl
    all_goals rfl
  · rw [if_neg h]
    simp only [W9, List.mem_cons, List.not_mem_nil, or_false, not_or] at h
    obtain ⟨h1, h2, h3, h4, h5, h6, h7, h8, h9⟩ := h
    show b_deed_of _ = _
    unfold b_deed_of
    simp only [R.bin2_ok, pEq_ss, R.bind_ok, toB_bl, beq_eq_false_iff_ne.mpr h1, beq_eq_false_iff_ne.mpr h2, beq_eq_false_iff_ne.mpr h3, beq_eq_false_iff_ne.mpr h4, beq_eq_false_iff_ne.mpr h5, beq_eq_false_iff_ne.mpr h6, beq_eq_false_iff_ne.mpr h7, beq_eq_false_iff_ne.mpr h8, beq_eq_false_iff_ne.mpr h9]
    rfl
theorem W9_ix {i : Int} (h : 0 ≤ i ∧ i < 9) : ∃ w, w ∈ W9 ∧ W9[i.toNat]? = some w ∧ pIx (.lst (W9.map D.str)) (.int i) = .ok (.str w) := by
  obtain rfl | rfl | rfl | rfl | rfl | rfl | rfl | rfl | rfl : i = 0 ∨ i = 1 ∨ i = 2 ∨ i = 3 ∨ i = 4 ∨ i = 5 ∨ i = 6 ∨ i = 7 ∨ i = 8 := by omega
  all_goals exact ⟨_, by simp [W9], rfl, rfl⟩
theorem W9_nd : W9.Nodup := by decide
end Lx
namespace Lx
open PySem PySem.Spec PyProof.Rows L2 Lw
/-! ### names of the benches' laws -/
def nmF (u : Bool) (q y s : Int) (at_ : Nat) (ls : List Nat) (k : Nat) : List Nat :=
  if u = true then (List.replicate (((k : Int) + q) % 12 + 1).toNat [ls.headD 97]).flatten else ls.take at_ ++ [97 + ((y + k * s) % 26).toNat] ++ ls.drop (at_ + 1)
theorem nmF_nm {u : Bool} {q y s : Int} {at_ : Nat} {ls : List Nat} {k : Nat} (hl : low ls) (ha : at_ < ls.length) (h12 : ls.length ≤ 12) : Nm (nmF u q y s at_ ls k) := by
  unfold nmF
  cases u with
  | true =>
    rw [if_pos rfl]
    have a1 := Int.emod_nonneg ((k : Int) + q) (show (12 : Int) ≠ 0 by decide)
    have a2 := Int.emod_lt_of_pos ((k : Int) + q) (show (0 : Int) < 12 by decide)
    refine ⟨by simp; omega, by simp; omega, fun c hc => ?_⟩
    obtain ⟨l, h1, h2⟩ := List.mem_flatten.mp hc
    rw [List.eq_of_mem_replicate h1] at h2
    have e : c = ls.headD 97 := by simpa using h2
    cases ls with
    | nil => simp at ha
    | cons a r => rw [e]; exact hl a List.mem_cons_self
  | false =>
    rw [if_neg (by decide)]
    have a1 := Int.emod_nonneg (y + k * s) (show (26 : Int) ≠ 0 by decide)
    have a2 := Int.emod_lt_of_pos (y + k * s) (show (0 : Int) < 26 by decide)
    exact ⟨by simp; omega, by simp; omega, low_app (low_app (low_take _ hl) (low_one (by omega))) (low_drop _ hl)⟩
theorem nmF_inj {u : Bool} {q y s : Int} {at_ : Nat} {ls : List Nat} {i j : Nat} (hs : s ∈ [1, 3, 5, 7, 9, 11]) (ha : at_ < ls.length) (hi : i < 12) (hj : j < 12) (h : nmF u q y s at_ ls i = nmF u q y s at_ ls j) : i = j := by
  unfold nmF at h
  cases u with
  | true =>
    rw [if_pos rfl, if_pos rfl] at h
    have h2 := congrArg List.length h
    have a1 := Int.emod_nonneg ((i : Int) + q) (show (12 : Int) ≠ 0 by decide)
    have a2 := Int.emod_nonneg ((j : Int) + q) (show (12 : Int) ≠ 0 by decide)
    simp at h2
    omega
  | false =>
    rw [if_neg (by decide), if_neg (by decide)] at h
    have h2 := congrArg (fun l => l[at_]?) h
    have hlen : (ls.take at_).length = at_ := by simp; omega
    have key : ∀ v : Nat, (ls.take at_ ++ [v] ++ ls.drop (at_ + 1))[at_]? = some v := fun v => by
      rw [List.append_assoc, List.getElem?_append_right (by omega), hlen, Nat.sub_self]
      rfl
    simp only [key] at h2
    have a1 := Int.emod_nonneg (y + i * s) (show (26 : Int) ≠ 0 by decide)
    have a2 := Int.emod_nonneg (y + j * s) (show (26 : Int) ≠ 0 by decide)
    have h3 : ((y + i * s) % 26).toNat = ((y + j * s) % 26).toNat := by simpa using h2
    simp only [List.mem_cons, List.not_mem_nil, or_false] at hs
    rcases hs with rfl | rfl | rfl | rfl | rfl | rfl <;> omega
theorem law_names_gen {c : Int} {count : Nat} (hc : bd 1048576 c) (hm : count ≤ 12) : ∃ nms : List (List Nat), f_law_names [.int c, .int (count : Int)] = .ok (.lst (nms.map nmD)) ∧ nms.length = count ∧ (∀ n ∈ nms, Nm n) ∧ nms.Nodup := by
  obtain ⟨x, ex⟩ : ∃ x : Int, x = (c * c + c + 1) * 982451653 := ⟨_, rfl⟩
  obtain ⟨p, ep, hp⟩ := emodN (a := x) (b := 12) (by decide)
  obtain ⟨t, et, ht⟩ := emodN (a := x / 12) (b := 1 + (p : Int)) (by omega)
  have h1 : bd 2097154 (c * c + c + 1) := (((hc.mul hc).add (hc.mono (by decide))).add ((bd_le (m := 1) (by decide) (by decide) (by decide) : bd 16 1).mono (by decide)))
  have m1 : pMul (.int c) (.int c) = .ok (.int (c * c)) := pMul_ii (hc.mulOk hc (by decide))
  have m2 : pMul (.int (c * c + c + 1)) (.int 982451653) = .ok (.int x) := by rw [ex]; exact pMul_ii (h1.mulOk (n := 30) (by unfold bd; decide) (by decide))
  obtain ⟨sD, hsD, esD⟩ := lit_at (ds := [.int 1, .int 3, .int 5, .int 7, .int 9, .int 11]) (i := x / 144 % 6) (Int.emod_nonneg _ (by decide)) (by have := Int.emod_lt_of_pos (x / 144) (show (0 : Int) < 6 by decide); simpa using this)
  obtain ⟨s, hs, rfl⟩ : ∃ s : Int, s ∈ [1, 3, 5, 7, 9, 11] ∧ sD = .int s := by
    simp only [List.mem_cons, List.not_mem_nil, or_false] at hsD
    rcases hsD with rfl | rfl | rfl | rfl | rfl | rfl
    all_goals exact ⟨_, by simp, rfl⟩
  obtain ⟨ls, els, hls, pls⟩ := pComp_ex (σ := Nat) (m := fun c => D.str (mkS [c])) (f := fun p5 => (R.bin2 (.ok (.str "abcdefghijklmnopqrstuvwxyz")) (R.bin2 (R.bin2 (R.bin2 (.ok (.int x)) (R.bin2 (.ok p5) (.ok (.int 5)) pAdd) pDiv) (R.bin2 (.ok p5) (.ok p5) pMul) pAdd) (.ok (.int 26)) pMod) pIx)) (xs := rngL 0 (1 + p)) (fun _ c => 97 ≤ c ∧ c < 123) (fun k y hy => by
    obtain ⟨hk, rfl⟩ := rngL_at hy
    rw [Int.zero_add]
    obtain ⟨o, eo, ho⟩ := emodN (a := x / ((k : Int) + 5) + (k : Int) * (k : Int)) (b := 26) (by decide)
    have k1 : bd 10 (k : Int) := bd_le (m := 12) (by omega) (by omega) (by decide)
    refine ⟨97 + o, ?_, by omega, by omega⟩
    rw [R.bin2_ok, pAdd_ii, R.bin2_ok, pDiv_ii (divOk_small (by omega) (by omega)), R.bin2_ok, pMul_ii (k1.mulOk k1 (by decide)), R.bin2_ok, pAdd_ii, R.bin2_ok, pMod_ii (by decide), eo, az_eq, R.bin2_ok, az_at (by omega)]) (by rw [rngL_length]; omega)
  rw [rngL_length] at hls
  have lls : low ls := fun c hc => by
    obtain ⟨i, hi⟩ := List.mem_iff_getElem?.mp hc
    exact pls i c hi
  obtain ⟨u, eu⟩ : ∃ u : Bool, u = (x / 900 % 3 == 1) := ⟨_, rfl⟩
  obtain ⟨F, eF⟩ : ∃ F, F = nmF u (x / 7) (x / 864) s t ls := ⟨_, rfl⟩
  obtain ⟨z, ez, hz⟩ := rFor_inv (f := l_law_names_1 (.str "abcdefghijklmnopqrstuvwxyz") (.int x) (.int s) (.lst (ls.map fun c => D.str (mkS [c]))) (.int (t : Int))) (xs := rngL 0 count) (t := D.lst []) (fun j z => z = .lst (((List.range j).map F).map nmD)) (fun j y z hy hz => by
    obtain ⟨hj, rfl⟩ := rngL_at hy
    subst hz
    rw [Int.zero_add]
    refine ⟨_, ?_, rfl⟩
    unfold l_law_names_1
    have s1 : bd 5 s := by
      simp only [List.mem_cons, List.not_mem_nil, or_false] at hs
      rcases hs with rfl | rfl | rfl | rfl | rfl | rfl <;> (unfold bd; decide)
    have j1 : bd 10 (j : Int) := bd_le (m := 12) (by omega) (by omega) (by decide)
    obtain ⟨o, eo, ho⟩ := emodN (a := x / 864 + (j : Int) * s) (b := 26) (by decide)
    refine (bind_eq (a := D.str (mkS [97 + o])) ?_).trans ?_
    · rw [R.bin2_ok, pDiv_ii (by decide), R.bin2_ok, pMul_ii (j1.mulOk s1 (by decide)), R.bin2_ok, pAdd_ii, R.bin2_ok, pMod_ii (by decide), eo, az_eq, R.bin2_ok, az_at (by omega)]
    refine (bind_eq (a := u) (by rw [R.bin2_ok, pDiv_ii (by decide), R.bin2_ok, pMod_ii (by decide), R.bin2_ok, pEq_ii, R.bind_ok, toB_bl, eu])).trans ?_
    rw [List.range_succ, List.map_append, List.map_append]
    have eFj : F j = nmF u (x / 7) (x / 864) s t ls j := by rw [eF]
    have lenap : (((List.range j).map F).map nmD).length < 16777216 := by simp; omega
    cases u with
    | true =>
      rw [if_pos rfl, toL_l, R.bind_ok]
      obtain ⟨c0, r0, e0⟩ : ∃ c0 r0, ls = c0 :: r0 := by
        cases ls with
        | nil => simp at hls; omega
        | cons a r => exact ⟨a, r, rfl⟩
      have q1 := Int.emod_nonneg ((j : Int) + x / 7) (show (12 : Int) ≠ 0 by decide)
      have q2 := Int.emod_lt_of_pos ((j : Int) + x / 7) (show (0 : Int) < 12 by decide)
      obtain ⟨v, ev⟩ : ∃ v : Nat, v = (((j : Int) + x / 7) % 12 + 1).toNat := ⟨_, rfl⟩
      refine (bind_eq (a := nmD (F j)) ?_).trans ?_
      · have e1 : pIx (.lst (ls.map fun c => D.str (mkS [c]))) (.int 0) = .ok (.str (mkS [c0])) := by rw [e0, List.map_cons, pIx_0]
        rw [R.bin2_ok, e1, R.bin2_ok, pDiv_ii (by decide), R.bin2_ok, pAdd_ii, R.bin2_ok, pMod_ii (by decide), R.bin2_ok, pAdd_ii, show ((j : Int) + x / 7) % 12 + 1 = ((v : Nat) : Int) by omega, R.bin2_ok, pMul_rep (by simp; omega) (by omega), eFj]
        unfold nmF
        rw [if_pos rfl, ← ev, e0]
        rfl
      refine (bind_eq (appL_ok lenap)).trans rfl
    | false =>
      rw [if_neg (by decide), toL_l, R.bind_ok]
      refine (bind_eq (a := nmD (F j)) ?_).trans ?_
      · rw [slL_to, slL_fr (k := t + 1) (by rw [R.bin2_ok, pAdd_ii]; rfl), ← List.map_take, ← List.map_drop, R.bind_ok, slS_nil]
        rw [R.bin2_ok, R.bin2_ok, pJoin_ones (low_take _ lls) (by simp; omega), pJoin_ones (low_drop _ lls) (by simp; omega), R.bin2_ok, pAdd_mk (by simp; omega), R.bin2_ok, pAdd_mk (by simp; omega), eFj]
        unfold nmF
        rw [if_neg (by decide), eo, Int.toNat_natCast]
        rfl
      refine (bind_eq (appL_ok lenap)).trans rfl) rfl
  rw [rngL_length] at hz
  refine ⟨(List.range count).map F, ?_, by simp, fun n hn => ?_, ?_⟩
  · show b_law_names _ _ = _
    unfold b_law_names
    refine (bind_eq rfl).trans ?_
    refine (bind_eq (a := D.int x) (by simp only [R.bin2_ok, m1, pAdd_ii, m2])).trans ?_
    refine (bind_eq (a := D.int ((1 + p : Nat) : Int)) (by rw [R.bin2_ok, pMod_ii (by decide), R.bin2_ok, pAdd_ii, ep]; rfl)).trans ?_
    refine (bind_eq (a := D.int (t : Int)) ?_).trans ?_
    · rw [R.bin2_ok, pDiv_ii (by decide), R.bin2_ok, pMod_ii (by omega), ← et]
      rfl
    refine (bind_eq (a := D.lst (ls.map fun c => D.str (mkS [c]))) ?_).trans ?_
    · rw [R.bind_ok, pRange1_ok (by omega)]
      exact els
    refine (bind_eq (a := D.int s) ?_).trans ?_
    · simp only [R.cons_ok, R.bind_ok]
      rw [mkL_ok (by simp), R.bin2_ok, pDiv_ii (by decide), R.bin2_ok, pMod_ii (by decide), R.bin2_ok, esD]
    refine (bind_eq (a := D.lst []) (by rw [R.bind_ok, mkL_0])).trans ?_
    refine (bind_eq (a := rngL 0 count) (by rw [R.bind_ok, pRange1_ok (by omega)])).trans ?_
    refine (bind_eq ez).trans ?_
    rw [hz]
  · obtain ⟨i, hi, rfl⟩ := List.mem_map.mp hn
    rw [eF]
    exact nmF_nm lls (by omega) (by omega)
  · refine List.pairwise_iff_getElem.mpr fun i j hi hj hij hE => ?_
    simp only [List.length_map, List.length_range] at hi hj
    rw [List.getElem_map, List.getElem_map, List.getElem_range, List.getElem_range, eF] at hE
    have := nmF_inj hs (by omega) (by omega) (by omega) hE
    omega
end Lx
namespace Lx
open PySem PySem.Spec PyProof.Rows L2 Lw
/-! ### sums over the script (as bench has them) -/
theorem sum_at_ok {ns : List Int} (hb : ∀ n ∈ ns, Builtin.Int.intBits n ≤ 1048576) {a m : Nat} (hm : 0 < m) (hm2 : m < 10000) (ha : a < 10000) : Gv (f_law_sum_at [.scr (ns.map D.int), .int (a : Int), .int (m : Int)]) fun d => ∃ i, d = .int i ∧ bd 1048591 i := by
  show Gv (b_law_sum_at _ _ _) _
  unfold b_law_sum_at
  obtain ⟨j, ej⟩ : ∃ j : Int, j = if (63 : Int) < (ns.length : Int) then (63 : Int) else (ns.length : Int) := ⟨_, rfl⟩
  have hj : 0 ≤ j ∧ j ≤ 63 ∧ j ≤ ns.length := by rw [ej]; split <;> omega
  obtain ⟨n, en, hn1, hn2⟩ := pRange3_ok (i := a) (j := j) (c := m) (by omega) (by omega) (by omega) (by omega) hj.1 (by omega)
  have e1 : (R.bind (.ok (.int (a : Int))) fun x => R.bind (R.bind (R.cons (R.bind (R.cons (.ok (.scr (ns.map D.int))) (.ok [])) pLen) (R.cons (.ok (.int 63)) (.ok []))) pMin2) fun y => R.bind (.ok (.int (m : Int))) fun z => pRange3 x y z : R (List D)) = .ok (rngC a m n) := by
    rw [R.bind_ok, R.cons_ok, R.bind_ok (f := pLen), pLen_c, List.length_map, R.cons_ok, R.cons_ok, R.bind_ok, pMin2_i, ← ej, R.bind_ok, R.bind_ok, en]
  rw [e1]
  obtain ⟨xs, ex, lx, px⟩ := pComp_ex (σ := Int) (m := D.int) (f := fun p1 => (R.bin2 (.ok (.scr (ns.map D.int))) (.ok p1) pIx)) (xs := rngC a m n) (fun _ i => bd 1048576 i) (fun k y hy => by
    obtain ⟨hk, rfl⟩ := rngC_get hy
    have h2 := hn2 k hk
    obtain ⟨c, e, hc⟩ := scr_ix hb (a + k * m) (by omega) (by omega)
    exact ⟨c, by rw [R.bin2_ok, e], hc⟩) (by rw [rngC_length]; omega)
  rw [rngC_length] at lx
  rw [ex, R.cons_ok, R.bind_ok, pSum_ints]
  refine Gv.ok ⟨_, rfl, sum_bd (n := 1048576) (k := 14) (fun i hi => ?_) (by omega)⟩
  obtain ⟨q, hq⟩ := List.mem_iff_getElem?.mp hi
  exact px q i hq
theorem law_words_ok : f_law_words [] = .ok (.lst (W9.map D.str)) := rfl
end Lx
namespace Lx
open PySem PySem.Spec PyProof.Rows L2 Lw
/-! ### a loop's rows -/
inductive Rd where
  | num (i : Int) | row (n : List Nat) (b : Int)
structure Row where
  n : List Nat
  w : Str
  rs : List Rd
def rdD : Rd → D
  | .num i => .int i
  | .row n b => .tup [.str (mkS n), .int b]
def rowD (r : Row) : D := .tup [.str (mkS r.n), .str r.w, .tup (r.rs.map rdD)]
def loopD (m : Int) (rows : List Row) : D := .obj "Loop" ["measure", "kept_rows"] [.int m, .lst (rows.map rowD)]
def wantsN (w : Str) : Nat := if w = "take" then 0 else if w = "same" ∨ w = "tell" then 1 else if w = "pick" then 3 else 2
/-- a read of a row at the place k -/
def RdOk (names : List (List Nat)) (k : Nat) : Rd → Prop
  | .num i => 0 ≤ i ∧ i < 10 ^ 60
  | .row n b => n ∈ names ∧ 0 ≤ b ∧ b ≤ 6 ∧ (b = 0 → n ∈ names.take k)
structure LoopOk (rows : List Row) : Prop where
  len : 1 ≤ rows.length ∧ rows.length ≤ 12
  nd : (rows.map Row.n).Nodup
  nm : ∀ r ∈ rows, Nm r.n
  wd : ∀ r ∈ rows, r.w ∈ W9 ∧ r.rs.length = wantsN r.w
  rd : ∀ k r, rows[k]? = some r → ∀ q ∈ r.rs, RdOk (rows.map Row.n) k q
theorem in_namesS (n : List Nat) (ns : List (List Nat)) : pInL (.str (mkS n)) (.lst (ns.map nmD)) = .ok (.bl (decide (n ∈ ns))) := in_names n ns
theorem notin_namesS (n : List Nat) (ns : List (List Nat)) : pNotInL (.str (mkS n)) (.lst (ns.map nmD)) = .ok (.bl (!decide (n ∈ ns))) := notin_names n ns
theorem letters_ok {l : List Nat} (h : low l) : f_all_letters [.str (mkS l)] = .ok (.bl true) := by
  show b_all_letters _ = _
  unfold b_all_letters
  rw [R.bind_ok, toChr_s, R.bind_ok, chrL_mk]
  rw [rForX_nx fun x hx => ?_]
  · rfl
  obtain ⟨c, hc, rfl⟩ := List.mem_map.mp hx
  unfold l_all_letters_1
  rw [R.bin2_ok, az_eq, pNotInS_one, decide_eq_true (low_az (h c hc))]
  rfl
theorem is_name_ok {l : List Nat} (h : Nm l) : f_is_name [.str (mkS l)] = .ok (.bl true) := by
  show b_is_name _ = _
  unfold b_is_name
  have e1 : chn (.ok (.int 0)) (R.bind (R.cons (.ok (.str (mkS l))) (.ok [])) pLen) (.ok (.int 12)) pLt pLe = .ok (.bl true) := by
    unfold chn
    simp only [R.bind_ok, R.cons_ok, pLen_s, mkS_len, pLt_ii]
    rw [decide_eq_true (by have := h.1; omega)]
    simp only [R.bind_ok, pLe_ii]
    rw [decide_eq_true (by have := h.2.1; omega)]
  rw [e1, andV_t, R.cons_ok, R.bind_ok]
  exact letters_ok h.2.2
theorem isnum_ok (q : Rd) : f_is_number [rdD q] = .ok (.bl (match q with | .num _ => true | .row _ _ => false)) := by
  cases q <;> rfl
theorem read_ok {ns : List (List Nat)} {k : Nat} {q : Rd} (h : RdOk ns k q) : f_look_at_read [.lst (ns.map nmD), .int k, rdD q] = .ok .non := by
  show b_look_at_read _ _ _ = _
  unfold b_look_at_read
  refine (bind_eq (by rw [R.cons_ok, R.bind_ok, isnum_ok, R.bind_ok, toB_bl])).trans ?_
  cases q with
  | num i =>
    rw [if_pos rfl]
    refine (bind_eq (a := false) ?_).trans rfl
    have h1 : 0 ≤ i ∧ i < 10 ^ 60 := h
    simp only [rdD, R.bin2_ok, pLt_ii, R.bind_ok, toB_bl, p60, pGe_ii]
    rw [decide_eq_false (by omega), orT_f, decide_eq_false (by omega)]
  | row n b =>
    obtain ⟨h1, h2, h3, h4⟩ : n ∈ ns ∧ 0 ≤ b ∧ b ≤ 6 ∧ (b = 0 → n ∈ ns.take k) := h
    rw [if_neg (show ¬ (false = true) by decide)]
    rw [R.bind_ok]
    refine (bind_eq (a := (D.str (mkS n), D.int b)) rfl).trans ?_
    refine (bind_eq (a := false) ?_).trans ?_
    · rw [R.bin2_ok, notin_namesS, decide_eq_true h1]; rfl
    rw [if_neg (by decide)]
    refine (bind_eq (a := false) ?_).trans ?_
    · simp only [R.bin2_ok, pLt_ii, R.bind_ok, toB_bl, pGt_ii]
      rw [decide_eq_false (by omega), orT_f, decide_eq_false (by omega)]
    rw [if_neg (by decide)]
    refine (bind_eq (a := false) ?_).trans rfl
    rw [slL_to, ← List.map_take]
    simp only [R.bin2_ok, pEq_ii, R.bind_ok, toB_bl, notin_namesS, andT_ok]
    by_cases hb : b = 0
    · rw [decide_eq_true (h4 hb)]; simp
    · simp [hb]
theorem wants_ok {w : Str} (h : w ∈ W9) : (R.bind (R.bind (R.cons (.ok (.str w)) (.ok [])) f_deed_of) fun d => R.bind (dsp tab_wants "wants" d) fun f => f [d]) = .ok (.int (wantsN w)) := by
  simp only [W9, List.mem_cons, List.not_mem_nil, or_false] at h
  rcases h with rfl | rfl | rfl | rfl | rfl | rfl | rfl | rfl | rfl
  all_goals rfl
theorem row_ok {rows : List Row} (h : LoopOk rows) {k : Nat} {r : Row} (hr : rows[k]? = some r) : f_look_at_row [.lst ((rows.map Row.n).map nmD), .int k, rowD r] = .ok .non := by
  have hm : r ∈ rows := List.mem_of_getElem? hr
  show b_look_at_row _ _ _ = _
  unfold b_look_at_row
  rw [R.bind_ok]
  refine (bind_eq (a := (D.str (mkS r.n), D.str r.w, D.tup (r.rs.map rdD))) rfl).trans ?_
  refine (bind_eq (a := false) ?_).trans ?_
  · rw [R.cons_ok, R.bind_ok, is_name_ok (h.nm r hm), R.bind_ok, toB_bl]; rfl
  rw [if_neg (by decide)]
  refine (bind_eq (a := false) ?_).trans ?_
  · rw [slL_to, ← List.map_take]
    simp only [R.bin2_ok, in_namesS, R.bind_ok, toB_bl]
    congr 1
    refine decide_eq_false fun hmem => ?_
    obtain ⟨j, hj⟩ := List.mem_iff_getElem?.mp hmem
    rw [List.getElem?_take] at hj
    by_cases hjk : j < k
    · rw [if_pos hjk] at hj
      have hk : (rows.map Row.n)[k]? = some r.n := by rw [List.getElem?_map, hr]; rfl
      obtain ⟨l1, e1⟩ := List.getElem?_eq_some_iff.mp hj
      obtain ⟨l2, e2⟩ := List.getElem?_eq_some_iff.mp hk
      have := (List.getElem_inj h.nd).mp (e1.trans e2.symm)
      omega
    · rw [if_neg hjk] at hj
      cases hj
  rw [if_neg (by decide)]
  refine (bind_eq (a := false) ?_).trans ?_
  · rw [wants_ok (h.wd r hm).1]
    simp only [R.cons_ok, R.bind_ok, pLen_t, R.bin2_ok, pNe_ii, toB_bl, List.length_map, (h.wd r hm).2, beq_self_eq_true, Bool.not_true]
  rw [if_neg (by decide), R.bind_ok, toSeq_t, R.bind_ok]
  refine (bind_eq (rFor_same fun x hx => ?_)).trans rfl
  obtain ⟨q, hq, rfl⟩ := List.mem_map.mp hx
  unfold l_look_at_row_1
  rw [R.cons_ok, R.cons_ok, R.cons_ok, R.bind_ok, read_ok (h.rd k r hr q hq)]
  rfl
theorem loop_ok {m : Int} {rows : List Row} (h : LoopOk rows) (h1 : 2 ≤ m) (h2 : m ≤ 10 ^ 60) : f_Loop___init__ [.int m, .lst (rows.map rowD)] = .ok (loopD m rows) := by
  have hl := h.len
  show b_Loop___init__ _ _ = _
  unfold b_Loop___init__
  refine (bind_eq (a := false) ?_).trans ?_
  · simp only [R.bin2_ok, pLt_ii, R.bind_ok, toB_bl, p60, pGt_ii]
    rw [decide_eq_false (by omega), orT_f, decide_eq_false (by omega)]
  rw [if_neg (by decide)]
  refine (bind_eq (a := false) ?_).trans ?_
  · simp only [R.cons_ok, R.bin2_ok, pLt_ii, R.bind_ok, toB_bl, pGt_ii, pLen_l, List.length_map]
    rw [decide_eq_false (by omega), orT_f, decide_eq_false (by omega)]
  rw [if_neg (by decide)]
  refine (bind_eq (a := .lst ((rows.map Row.n).map nmD)) ?_).trans ?_
  · rw [R.bind_ok, toLs_l, List.map_map]
    exact pComp_map (g := nmD ∘ Row.n) (fun r _ => rfl) (by omega)
  refine (bind_eq (a := enumL (rows.map rowD)) (by rw [R.bind_ok, toLs_l, R.bind_ok])).trans ?_
  refine (bind_eq (a := ()) (rFor_same fun x hx => ?_)).trans ?_
  · obtain ⟨k, hk⟩ := List.mem_iff_getElem?.mp hx
    obtain ⟨y, hy, rfl⟩ := enumL_get hk
    rw [List.getElem?_map] at hy
    obtain ⟨r, hr, rfl⟩ := Option.map_eq_some_iff.mp hy
    refine (bind_eq (a := (D.int (k : Nat), rowD r)) rfl).trans ?_
    unfold l_Loop___init___1
    rw [R.cons_ok, R.cons_ok, R.cons_ok, R.bind_ok, row_ok h hr]
    rfl
  refine (bind_eq rfl).trans ?_
  refine (bind_eq (a := D.obj "Loop" ["measure"] [D.int m]) rfl).trans ?_
  refine (bind_eq (a := .lst (rows.map rowD)) ?_).trans ?_
  · rw [R.bind_ok, toLs_l]
    exact pComp_map (g := rowD) (fun r _ => rfl) (by omega)
  refine (bind_eq (a := loopD m rows) rfl).trans rfl
theorem rowD_reads (r : Row) : pIx (rowD r) (.int 2) = .ok (.tup (r.rs.map rdD)) := by
  show pIx (.tup [.str (mkS r.n), .str r.w, .tup (r.rs.map rdD)]) (.int 2) = _
  rw [pIx_t2]
theorem rowD_name (r : Row) : pIx (rowD r) (.int 0) = .ok (nmD r.n) := by
  show pIx (.tup [.str (mkS r.n), .str r.w, .tup (r.rs.map rdD)]) (.int 0) = _
  rw [pIx_t0]
  rfl
end Lx
namespace Lx
open PySem PySem.Spec PyProof.Rows L2 Lw
/-! ### the law's reads -/
theorem law_read_ok {x : Int} {nms : List (List Nat)} {k : Nat} (hx : bd 2200000 x) (hk : k < nms.length) (hl : nms.length ≤ 12) : ∃ q : Rd, f_law_read [.int x, .lst (nms.map nmD), .int (k : Int)] = .ok (rdD q) ∧ RdOk nms k q := by
  obtain ⟨s, es, hs⟩ := emodN (a := x / 4) (b := (nms.length : Int)) (by omega)
  have hs' : s < nms.length := by omega
  obtain ⟨c, hc, ec⟩ : ∃ c : Int, (0 ≤ c ∧ c ≤ 6) ∧ pIx (.lst [.int 0, .int 0, .int 1, .int 1, .int 2, .int 3, .int 6]) (.int (x / 53 % 7)) = .ok (.int c) := by
    obtain ⟨d, hd, ed⟩ := lit_at (ds := [.int 0, .int 0, .int 1, .int 1, .int 2, .int 3, .int 6]) (i := x / 53 % 7) (Int.emod_nonneg _ (by decide)) (by have := Int.emod_lt_of_pos (x / 53) (show (0 : Int) < 7 by decide); simpa using this)
    simp only [List.mem_cons, List.not_mem_nil, or_false] at hd
    rcases hd with rfl | rfl | rfl | rfl | rfl | rfl | rfl
    all_goals exact ⟨_, by decide, ed⟩
  have a3 := Int.emod_nonneg (x / 379) (show (3 : Int) ≠ 0 by decide)
  have a4 := Int.emod_lt_of_pos (x / 379) (show (0 : Int) < 3 by decide)
  obtain ⟨b, eb⟩ : ∃ b : Int, b = if (k : Int) ≤ s ∧ c = 0 then 1 + x / 379 % 3 else c := ⟨_, rfl⟩
  have hb : 0 ≤ b ∧ b ≤ 6 ∧ (b = 0 → s < k) := by rw [eb]; split <;> omega
  by_cases g : x % 4 = 0
  · refine ⟨.num (x * x / 4 % 10 ^ 60), ?_, Int.emod_nonneg _ (by decide), Int.emod_lt_of_pos _ (by decide)⟩
    show b_law_read _ _ _ = _
    unfold b_law_read
    refine (bind_eq (a := true) (by rw [R.bin2_ok, pMod_ii (by decide), R.bin2_ok, pEq_ii, R.bind_ok, toB_bl, g]; rfl)).trans ?_
    rw [if_pos rfl, R.bin2_ok (f := pPow), p60, R.bin2_ok, pMul_ii (hx.mulOk hx (by decide)), R.bin2_ok, pDiv_ii (by decide), R.bin2_ok, pMod_ii (by decide)]
    rfl
  · refine ⟨.row nms[s] b, ?_, List.getElem_mem hs', hb.1, hb.2.1, fun h => ?_⟩
    · show b_law_read _ _ _ = _
      unfold b_law_read
      refine (bind_eq (a := false) ?_).trans ?_
      · rw [R.bin2_ok, pMod_ii (by decide), R.bin2_ok, pEq_ii, R.bind_ok, toB_bl]
        exact congrArg R.ok (beq_eq_false_iff_ne.mpr g)
      rw [if_neg (by decide)]
      refine (bind_eq (a := D.int (s : Int)) (by rw [R.bin2_ok, pDiv_ii (by decide), R.cons_ok, R.bind_ok, pLen_l, List.length_map, R.bin2_ok, pMod_ii (by omega), es])).trans ?_
      refine (bind_eq (a := D.int c) ?_).trans ?_
      · simp only [R.cons_ok, R.bind_ok]
        rw [mkL_ok (by simp), R.bin2_ok, pDiv_ii (by decide), R.bin2_ok, pMod_ii (by decide), R.bin2_ok, ec]
      refine (bind_eq (a := D.int b) ?_).trans ?_
      · simp only [R.bin2_ok, pEq_ii, pGe_ii, R.bind_ok, toB_bl, andT_ok, pDiv_ii (show divOk 379 = true by decide), pMod_ii (show (0 : Int) < 3 by decide), pAdd_ii]
        rw [eb]
        by_cases g1 : c = 0 <;> by_cases g2 : (k : Int) ≤ s <;> simp [g1, g2]
      rw [R.bin2_ok, pIx_ln (by simpa using hs'), List.getElem_map, R.cons_ok, R.cons_ok, R.bind_ok, mkT_2]
      rfl
    · have := hb.2.2 h
      refine List.mem_iff_getElem?.mpr ⟨s, ?_⟩
      rw [List.getElem?_take, if_pos this, List.getElem?_eq_getElem hs']
end Lx
namespace Lx
open PySem PySem.Spec PyProof.Rows L2 Lw
/-! ### the law's rows, by sums -/
theorem W9_many {i : Int} (h : 0 ≤ i ∧ i < 9) : ∃ w, w ∈ W9 ∧ pIx (.lst (W9.map D.str)) (.int i) = .ok (.str w) ∧ pIx (.lst [.int 2, .int 2, .int 2, .int 2, .int 2, .int 3, .int 1, .int 1, .int 0]) (.int i) = .ok (.int (wantsN w : Nat)) := by
  obtain rfl | rfl | rfl | rfl | rfl | rfl | rfl | rfl | rfl : i = 0 ∨ i = 1 ∨ i = 2 ∨ i = 3 ∨ i = 4 ∨ i = 5 ∨ i = 6 ∨ i = 7 ∨ i = 8 := by omega
  all_goals exact ⟨_, by simp [W9], rfl, rfl⟩
theorem wantsN_le {w : Str} (h : w ∈ W9) : wantsN w ≤ 3 := by
  simp only [W9, List.mem_cons, List.not_mem_nil, or_false] at h
  rcases h with rfl | rfl | rfl | rfl | rfl | rfl | rfl | rfl | rfl
  all_goals decide
def RowOk (nms : List (List Nat)) (k : Nat) (r : Row) : Prop := r.w ∈ W9 ∧ r.rs.length = wantsN r.w ∧ ∀ q ∈ r.rs, RdOk nms k q
theorem law_rows_ok {ns : List Int} (hb : ∀ n ∈ ns, Builtin.Int.intBits n ≤ 1048576) {nms : List (List Nat)} (h1 : 1 ≤ nms.length) (h2 : nms.length ≤ 12) : Gv (f_law_rows [.scr (ns.map D.int), .lst (nms.map nmD)]) fun d => ∃ rows : List Row, d = .lst (rows.map rowD) ∧ rows.map Row.n = nms ∧ ∀ k r, rows[k]? = some r → RowOk nms k r := by
  show Gv (b_law_rows _ _) _
  unfold b_law_rows
  refine Gv.step (a := D.lst []) (by rw [R.bind_ok, mkL_0]) ?_
  refine Gv.step (a := D.int (nms.length : Int)) (by rw [R.cons_ok, R.bind_ok, pLen_l, List.length_map]) ?_
  refine Gv.step (a := rngL 0 nms.length) (by rw [R.bind_ok, pRange1_ok (by omega)]) ?_
  refine Gv.bind (Gv.rfor (Q := fun t => ∃ rows : List Row, t = .lst (rows.map rowD) ∧ rows.map Row.n = nms ∧ ∀ k r, rows[k]? = some r → RowOk nms k r) (fun j t => ∃ rows : List Row, t = .lst (rows.map rowD) ∧ rows.map Row.n = nms.take j ∧ ∀ k r, rows[k]? = some r → RowOk nms k r) ⟨[], rfl, rfl, fun k r h => absurd h (by simp)⟩ ?_ fun t ⟨rows, e, e2, e3⟩ => ⟨rows, e, by rw [e2, rngL_length, List.take_length], e3⟩) fun t ht => Gv.ok ht
  rintro k y t hy ⟨rows, rfl, e2, e3⟩
  obtain ⟨hk, rfl⟩ := rngL_at hy
  rw [Int.zero_add]
  unfold l_law_rows_2
  have el : rows.length = k := by
    have := congrArg List.length e2
    simp at this
    omega
  obtain ⟨_, es, i, rfl, hi⟩ := sum_at_ok hb (a := k) (m := nms.length) (by omega) (by omega) (by omega)
  have k1 : bd 10 (k : Int) := bd_le (m := 12) (by omega) (by omega) (by decide)
  obtain ⟨x, ex⟩ : ∃ x : Int, x = (i * i + i + k + 1) * 982451653 := ⟨_, rfl⟩
  have hx1 : bd 2097186 (i * i + i + k + 1) := ((((hi.mul hi).add (hi.mono (by decide))).add (k1.mono (by decide))).add ((bd_le (m := 1) (by decide) (by decide) (by decide) : bd 16 1).mono (by decide))).mono (by decide)
  have b30 : bd 30 982451653 := by unfold bd; decide
  have hx : bd 2200000 x := by rw [ex]; exact (hx1.mul b30).mono (by decide)
  obtain ⟨w, hw, ew, em⟩ := W9_many ⟨Int.emod_nonneg (x / 2) (by decide), Int.emod_lt_of_pos (x / 2) (by decide)⟩
  have hn := wantsN_le hw
  refine Gv.step (a := D.int i) (by rw [R.cons_ok, R.cons_ok, R.cons_ok, R.bind_ok, es]) ?_
  refine Gv.step (a := D.int x) (by simp only [R.bin2_ok, pMul_ii (hi.mulOk hi (by decide)), pAdd_ii, pMul_ii (hx1.mulOk b30 (by decide)), ex]) ?_
  refine Gv.step (a := D.str w) (by rw [law_words_ok, R.bin2_ok, pDiv_ii (by decide), R.bin2_ok, pMod_ii (by decide), R.bin2_ok, ew]) ?_
  refine Gv.step (a := D.lst []) (by rw [R.bind_ok, mkL_0]) ?_
  refine Gv.step (a := rngL 0 (wantsN w)) ?_ ?_
  · simp only [R.cons_ok, R.bind_ok]
    rw [mkL_ok (by simp), R.bin2_ok, pDiv_ii (by decide), R.bin2_ok, pMod_ii (by decide), R.bin2_ok, em, R.bind_ok, pRange1_ok (by omega)]
  refine Gv.bind (Gv.rfor (Q := fun t => ∃ rs : List Rd, t = .lst (rs.map rdD) ∧ rs.length = wantsN w ∧ ∀ q ∈ rs, RdOk nms k q) (fun j t => ∃ rs : List Rd, t = .lst (rs.map rdD) ∧ rs.length = j ∧ ∀ q ∈ rs, RdOk nms k q) ⟨[], rfl, rfl, fun q h => absurd h (by simp)⟩ ?_ fun t ⟨rs, e, e2, e3⟩ => ⟨rs, e, by rw [e2, rngL_length], e3⟩) ?_
  · rintro j y t hy ⟨rs, rfl, f2, f3⟩
    obtain ⟨hj, rfl⟩ := rngL_at hy
    rw [Int.zero_add]
    unfold l_law_rows_1
    have j1 : bd 10 (j : Int) := bd_le (m := 12) (by omega) (by omega) (by decide)
    have m1 : pMul (.int 401) (.int (j : Int)) = .ok (.int (401 * (j : Int))) := pMul_ii ((show bd 10 401 by unfold bd; decide).mulOk j1 (by decide))
    obtain ⟨q, eq, hq⟩ := law_read_ok (x := x / (18 + 401 * (j : Int))) (nms := nms) (k := k) (hx.div (by omega)) hk h2
    rw [toL_l, R.bind_ok]
    refine Gv.step (a := rdD q) (by rw [R.bin2_ok (f := pMul), m1, R.bin2_ok, pAdd_ii, R.bin2_ok, pDiv_ii (divOk_small (by omega) (by omega)), R.cons_ok, R.cons_ok, R.cons_ok, R.bind_ok, eq]) ?_
    refine Gv.step (appL_ok (by simp; omega)) (Gv.ok ⟨rs ++ [q], by simp, by simp [f2], fun p hp => ?_⟩)
    rcases List.mem_append.mp hp with h | h
    · exact f3 p h
    · rw [show p = q by simpa using h]
      exact hq
  rintro _ ⟨rs, rfl, f2, f3⟩
  rw [toL_l, R.bind_ok]
  refine Gv.step (a := rowD ⟨nms[k], w, rs⟩) ?_ ?_
  · rw [R.bin2_ok, pIx_ln (by simpa using hk), List.getElem_map, R.cons_ok, R.bind_ok, pTuple_l, R.cons_ok, R.cons_ok, R.cons_ok, R.bind_ok, mkT_3]
    rfl
  refine Gv.step (appL_ok (by simp; omega)) (Gv.ok ⟨rows ++ [⟨nms[k], w, rs⟩], by simp, ?_, fun j r hr => ?_⟩)
  · rw [List.map_append, e2, List.take_succ, List.getElem?_eq_getElem hk]
    rfl
  · by_cases hj : j < rows.length
    · rw [List.getElem?_append_left hj] at hr
      exact e3 j r hr
    · rw [List.getElem?_append_right (by omega)] at hr
      have ej : j = k := by
        by_cases e : j - rows.length = 0
        · omega
        · rw [List.getElem?_eq_none (by simp; omega)] at hr
          cases hr
      subst ej
      rw [el, Nat.sub_self] at hr
      have er : (⟨nms[j], w, rs⟩ : Row) = r := by simpa using hr
      rw [← er]
      exact ⟨hw, f2, f3⟩
theorem loopOk_of {nms : List (List Nat)} {rows : List Row} (h1 : 1 ≤ nms.length) (h2 : nms.length ≤ 12) (hn : ∀ n ∈ nms, Nm n) (hd : nms.Nodup) (e : rows.map Row.n = nms) (h : ∀ k r, rows[k]? = some r → RowOk nms k r) : LoopOk rows where
  len := by rw [← e, List.length_map] at h1 h2; exact ⟨h1, h2⟩
  nd := by rw [e]; exact hd
  nm := fun r hr => hn _ (by rw [← e]; exact List.mem_map_of_mem hr)
  wd := fun r hr => by
    obtain ⟨k, hk⟩ := List.mem_iff_getElem?.mp hr
    exact ⟨(h k r hk).1, (h k r hk).2.1⟩
  rd := fun k r hr q hq => by rw [e]; exact (h k r hr).2.2 q hq
end Lx
namespace Lx
open PySem PySem.Spec PyProof.Rows L2 Lw
open TL
/-! ### texts: numbers, parts, rows -/
theorem sOk_asc {l : List Nat} (h : ∀ c ∈ l, c < 128) (hl : l.length ≤ 16777216) : sOk (mkS l) = true := by
  refine sOk_mk ?_ (by rw [mkS_len]; exact hl)
  unfold PyData.strOk
  rw [Array.all_eq_true_iff_forall_mem]
  intro c hc
  have := h c (by simpa [mkS] using hc)
  exact decide_eq_true (by omega)
theorem tl_mkS (l : List Nat) : tl (mkS l) = l := mkS_cps l
theorem mkS_tl (s : Str) : mkS (tl s) = s := (str_mk s).symm
theorem sStr_nat (n : Nat) : sStr (n : Int) = mkS (numL n) := ext_tl (by rw [tl_mkS]; exact tl_num n)
theorem numL_asc {n : Nat} : ∀ c ∈ numL n, c < 128 := fun c hc => by
  have := numL_digits n c hc
  omega
theorem numL_61 {n : Nat} (h : n < 10 ^ 61) : (numL n).length ≤ 61 := numL_len (by decide) h
theorem log2_61 {n : Nat} (h : n < 10 ^ 61) : n.log2 < 1920 := by
  by_cases h0 : n = 0
  · subst h0; decide
  · exact (Nat.log2_lt h0).mpr (Nat.lt_of_lt_of_le h (by decide +kernel))
theorem pStr_nat {n : Nat} (h : n < 10 ^ 61) : pStr [.int (n : Int)] = .ok (.str (mkS (numL n))) := by
  show (if (decide (((n : Int)).natAbs.log2 < 1920) && sOk (sStr (n : Int))) = true then (R.ok (.str (sStr (n : Int))) : R D) else .bad) = _
  have h2 := numL_61 h
  rw [sStr_nat, sOk_asc numL_asc (by omega), Int.natAbs_natCast, decide_eq_true (log2_61 h)]
  rfl
theorem pFmt_nat {n : Nat} (h : n < 10 ^ 61) : pFmt (.int (n : Int)) = .ok (.str (mkS (numL n))) := pStr_nat h
theorem pIntT_nat {n : Nat} (h : n < 10 ^ 61) : pIntT [.str (mkS (numL n))] = .ok (.int (n : Int)) := by
  have h2 := numL_61 h
  show (if (decide ((mkS (numL n)).length ≤ 640)) = true then (match intText? (mkS (numL n)) with
    | some n => (R.ok (.int n) : R D)
    | none => .bad) else .bad) = _
  rw [mkS_len, decide_eq_true (by omega), if_pos rfl]
  have e : intText? (mkS (numL n)) = some (n : Int) := by
    rw [← sStr_nat]
    exact int_num (by omega)
  rw [e]
/-! ### cut at a sign, joined by one -/
def cutL (s : Nat) : List Nat → List Nat → List (List Nat)
  | acc, [] => [acc]
  | acc, c :: r => if c = s then acc :: cutL s [] r else cutL s (acc ++ [c]) r
theorem spl_cut (s : Nat) : ∀ (l acc : List Nat), spl [s] 0 acc l = cutL s acc l
  | [], acc => spl_nil _ _ _
  | c :: r, acc => by
    by_cases h : c = s
    · subst h
      rw [spl_hit (by simp [pre])]
      show acc :: spl [c] 0 [] r = _
      rw [spl_cut c r []]
      simp [cutL]
    · rw [spl_miss (by simp [pre, h]), spl_cut s r (acc ++ [c])]
      simp [cutL, h]
theorem cutL_mem {s : Nat} : ∀ {l acc : List Nat} {p : List Nat}, p ∈ cutL s acc l → ∀ c ∈ p, c ∈ acc ∨ c ∈ l
  | [], acc, p, h, c, hc => by
    rw [List.mem_singleton.mp h] at hc
    exact .inl hc
  | d :: r, acc, p, h, c, hc => by
    unfold cutL at h
    split at h
    · rcases List.mem_cons.mp h with rfl | h
      · exact .inl hc
      · rcases cutL_mem h c hc with z | z
        · cases z
        · exact .inr (List.mem_cons_of_mem _ z)
    · rcases cutL_mem h c hc with z | z
      · rcases List.mem_append.mp z with z | z
        · exact .inl z
        · rw [List.mem_singleton.mp z]
          exact .inr List.mem_cons_self
      · exact .inr (List.mem_cons_of_mem _ z)
theorem cutL_len {s : Nat} : ∀ {l acc : List Nat} {p : List Nat}, p ∈ cutL s acc l → p.length ≤ acc.length + l.length
  | [], acc, p, h => by rw [List.mem_singleton.mp h]; simp
  | d :: r, acc, p, h => by
    unfold cutL at h
    split at h
    · rcases List.mem_cons.mp h with rfl | h
      · simp
      · have := cutL_len h
        simp at this ⊢
        omega
    · have := cutL_len h
      simp at this ⊢
      omega
theorem cutL_join {s : Nat} {parts : List (List Nat)} (hne : parts ≠ []) (hp : ∀ p ∈ parts, s ∉ p) : cutL s [] (joinL [s] parts) = parts := by
  rw [← spl_cut]
  exact spl_join hne hp
def txD (l : List Nat) : D := .str (mkS l)
theorem split_gen {l : List Nat} {s : Nat} (h : ∀ c ∈ l, c < 128) (hl : l.length ≤ 1000000) (hs : s < 128) : pSplit (txD l) (.str (mkS [s])) = .ok (.lst ((cutL s [] l).map txD)) := by
  have e : (Txt.split (mkS l) (mkS [s])) = (cutL s [] l).map mkS := by
    refine map_tl_inj ?_
    rw [split_spl _ _ (by rw [tl_mkS]; simp) (kind_ok (by simp [mkS]; omega)), tl_mkS, tl_mkS, spl_cut, List.map_map]
    rw [show (tl ∘ mkS) = id from funext tl_mkS, List.map_id]
  show (if ((mkS [s]).length == 0) = false ∧ (mkS l).length + 2 ≤ 16777216 ∧ (Txt.split (mkS l) (mkS [s])).all sOk = true then (R.ok (.lst ((Txt.split (mkS l) (mkS [s])).map D.str)) : R D) else .bad) = _
  rw [e, if_pos, List.map_map]
  · rfl
  · refine ⟨rfl, by rw [mkS_len]; omega, List.all_eq_true.mpr fun z hz => ?_⟩
    obtain ⟨p, hp, rfl⟩ := List.mem_map.mp hz
    have h2 := cutL_len hp
    simp at h2
    exact sOk_asc (fun c hc => (cutL_mem hp c hc).elim (fun z => by cases z) (h c)) (by omega)
theorem joinL_mem {s : Nat} : ∀ {parts : List (List Nat)} {c : Nat}, c ∈ joinL [s] parts → c = s ∨ ∃ p ∈ parts, c ∈ p
  | [p], c, h => .inr ⟨p, List.mem_singleton.mpr rfl, h⟩
  | p :: q :: r, c, h => by
    have h' : c ∈ p ++ ([s] ++ joinL [s] (q :: r)) := h
    rcases List.mem_append.mp h' with h | h
    · exact .inr ⟨p, List.mem_cons_self, h⟩
    · rcases List.mem_append.mp h with h | h
      · exact .inl (List.mem_singleton.mp h)
      · rcases joinL_mem h with z | ⟨z, hz, hc⟩
        · exact .inl z
        · exact .inr ⟨z, List.mem_cons_of_mem _ hz, hc⟩
theorem joinL_len {s : Nat} : ∀ {parts : List (List Nat)}, (joinL [s] parts).length ≤ (parts.map List.length).sum + parts.length
  | [] => Nat.zero_le _
  | [p] => by simp [joinL]
  | p :: q :: r => by
    have := joinL_len (s := s) (parts := q :: r)
    show (p ++ ([s] ++ joinL [s] (q :: r))).length ≤ _
    simp at this ⊢
    omega
theorem sum_le {k : Nat} : ∀ {parts : List (List Nat)}, (∀ p ∈ parts, p.length ≤ k) → (parts.map List.length).sum ≤ parts.length * k
  | [], _ => Nat.zero_le _
  | p :: parts, h => by
    have h1 := h p List.mem_cons_self
    have h2 := sum_le fun q hq => h q (List.mem_cons_of_mem _ hq)
    simp only [List.map_cons, List.sum_cons, List.length_cons, Nat.succ_mul]
    omega
theorem join_gen {parts : List (List Nat)} {s : Nat} (h : ∀ p ∈ parts, ∀ c ∈ p, c < 128) (hl : (parts.map List.length).sum + parts.length ≤ 1000000) (hs : s < 128) : pJoin (.str (mkS [s])) (.lst (parts.map txD)) = .ok (txD (joinL [s] parts)) := by
  have e0 : pJoin (.str (mkS [s])) (.lst (parts.map txD)) = (match toStrs (parts.map fun p => D.str (mkS p)) with
    | some ys => if (ys.map (·.length)).sum + ys.length * (mkS [s]).length ≤ 16777216 ∧ sOk (Txt.join (mkS [s]) ys) = true then (.ok (.str (Txt.join (mkS [s]) ys)) : R D) else .bad
    | none => .bad) := rfl
  rw [e0, toStrs_map]
  have e : Txt.join (mkS [s]) (parts.map mkS) = mkS (joinL [s] parts) := by
    refine ext_tl ?_
    rw [join_eq, tl_join, tl_mkS, tl_mkS, List.map_map, show (tl ∘ mkS) = id from funext tl_mkS, List.map_id]
  have e2 : (parts.map mkS).map (·.length) = parts.map List.length := by
    rw [List.map_map]
    exact List.map_congr_left fun p _ => mkS_len p
  have h3 := joinL_len (s := s) (parts := parts)
  show (if _ then _ else _) = _
  rw [e, e2, if_pos]
  · rfl
  · refine ⟨by rw [List.length_map, mkS_len]; simp; omega, sOk_asc (fun c hc => ?_) (by omega)⟩
    rcases joinL_mem hc with z | ⟨p, hp, hc⟩
    · omega
    · exact h p hp c hc
/-! ### figures, words -/
def dgs : List Nat := (List.range 10).map (48 + ·)
theorem dgs_eq : ("0123456789" : Str) = mkS dgs := by decide +kernel
theorem mem_dgs {c : Nat} : c ∈ dgs ↔ 48 ≤ c ∧ c ≤ 57 := by
  unfold dgs
  rw [List.mem_map]
  constructor
  · rintro ⟨k, hk, rfl⟩
    have := List.mem_range.mp hk
    omega
  · intro h
    exact ⟨c - 48, List.mem_range.mpr (by omega), by omega⟩
def figs (l : List Nat) : Bool := (l.all fun c => decide (c ∈ dgs)) && ((decide (1 ≤ l.length) && decide (l.length ≤ 61)) && (decide (l = [48]) || !decide (l.head? = some 48)))
theorem mk1_eq {l : List Nat} {c : Nat} : (mkS l == mkS [c]) = decide (l = [c]) := by
  by_cases h : l = [c]
  · subst h; simp
  · simp [h, mkS_inj]
theorem figures_gen (l : List Nat) : f_is_figures [txD l] = .ok (.bl (figs l)) := by
  show b_is_figures (.str (mkS l)) = _
  unfold b_is_figures figs
  rw [R.bind_ok, toChr_s, R.bind_ok, chrL_mk]
  rw [rForX_all (p := fun c => decide (c ∈ dgs)) (o := D.bl false) fun c hc => ?_]
  · cases l.all fun c => decide (c ∈ dgs) with
    | false => rfl
    | true =>
      rw [if_pos rfl, R.bind_ok, thn_go, Bool.true_and]
      have e1 : chn (.ok (.int 0)) (R.bind (R.cons (.ok (.str (mkS l))) (.ok [])) pLen) (.ok (.int 61)) pLt pLe = .ok (.bl (decide (1 ≤ l.length) && decide (l.length ≤ 61))) := by
        unfold chn
        simp only [R.bind_ok, R.cons_ok, pLen_s, mkS_len, pLt_ii]
        by_cases h : 1 ≤ l.length
        · rw [decide_eq_true (show (0 : Int) < l.length by omega), decide_eq_true h]
          simp
          omega
        · rw [decide_eq_false (show ¬ (0 : Int) < l.length by omega), decide_eq_false h]
          simp
      rw [e1]
      by_cases h : 1 ≤ l.length
      · have hz : ("0" : Str) = mkS [48] := by decide +kernel
        have e2 : pIx (.str (mkS l)) (.int 0) = .ok (.str (mkS [l[0]])) := pIx_mk (k := 0) h
        have e3 : (l.head? = some 48) ↔ l[0] = 48 := by
          rw [List.head?_eq_getElem?, List.getElem?_eq_getElem h]
          simp
        rw [R.bin2_ok, hz, pEq_ss, R.bin2_ok (f := pIx), e2, R.bin2_ok, pNe_ss, orV_ok, andV_ok, mk1_eq, mk1_eq]
        congr 4
        simp [e3]
      · rw [decide_eq_false h, Bool.false_and, andV_f, Bool.false_and]
  unfold l_is_figures_1
  rw [R.bin2_ok, dgs_eq, pNotInS_one]
  by_cases h : c ∈ dgs <;> simp [h]
def wordB (l : List Nat) : Bool := !decide (l = []) && l.all fun c => decide (c ∈ az)
theorem nil_eq : ("" : Str) = mkS [] := by decide +kernel
theorem word_gen (l : List Nat) : f_is_word [txD l] = .ok (.bl (wordB l)) := by
  show b_is_word (.str (mkS l)) = _
  unfold b_is_word wordB
  rw [R.bin2_ok, nil_eq, pNe_ss, R.cons_ok, R.bind_ok, letters_gen, andV_ok]
  congr 3
  by_cases h : l = []
  · subst h; simp
  · simp [h, mkS_inj]
theorem numL_head {n : Nat} (h : 10 ≤ n) : (numL n).head? ≠ some 48 := by
  induction n using Nat.strongRecOn with
  | ind n ih =>
    rw [numL_step h]
    obtain ⟨a, r, e⟩ : ∃ a r, numL (n / 10) = a :: r := by
      cases e : numL (n / 10) with
      | nil => exact absurd e (numL_ne _)
      | cons a r => exact ⟨a, r, rfl⟩
    rw [e]
    show some a ≠ some 48
    by_cases h2 : n / 10 < 10
    · rw [numL_lt h2] at e
      injection e with e1 _
      rw [← e1]
      intro z
      injection z with z
      omega
    · have := ih (n / 10) (by omega) (by omega)
      rw [e] at this
      exact this
theorem figs_num {n : Nat} (h : n < 10 ^ 61) : figs (numL n) = true := by
  have h1 := numL_61 h
  have h2 : 1 ≤ (numL n).length := by
    have := numL_ne n
    have : (numL n).length ≠ 0 := fun z => this (List.length_eq_zero_iff.mp z)
    omega
  unfold figs
  rw [decide_eq_true h1, decide_eq_true h2]
  have e : ((numL n).all fun c => decide (c ∈ dgs)) = true := List.all_eq_true.mpr fun c hc => decide_eq_true (mem_dgs.mpr (numL_digits n c hc))
  rw [e, Bool.true_and, Bool.true_and, Bool.true_and]
  by_cases h0 : n < 10
  · rw [numL_lt h0]
    by_cases z : n = 0
    · subst z; simp
    · simp [z]
  · rw [decide_eq_false (numL_head (by omega))]
    simp
theorem word_nm {l : List Nat} (h : Nm l) : wordB l = true := by
  unfold wordB
  have h1 : l ≠ [] := fun z => by have := h.1; rw [z] at this; simp at this
  rw [decide_eq_false h1, Bool.not_false, Bool.true_and, List.all_eq_true]
  exact fun c hc => decide_eq_true (low_az (h.2.2 c hc))
theorem w9_low {w : Str} (h : w ∈ W9) : Nm (tl w) := by
  have : ∀ w ∈ W9, 1 ≤ (tl w).length ∧ (tl w).length ≤ 12 ∧ ((tl w).all fun c => decide (97 ≤ c ∧ c < 123)) = true := by decide +kernel
  obtain ⟨h1, h2, h3⟩ := this w h
  exact ⟨h1, h2, fun c hc => of_decide_eq_true (List.all_eq_true.mp h3 c hc)⟩
theorem low_asc {l : List Nat} (h : low l) : ∀ c ∈ l, c < 128 := fun c hc => by have := h c hc; omega
end Lx
namespace Lx
open PySem PySem.Spec PyProof.Rows L2 Lw
open TL
/-! ### what a text's parts write -/
def badT (k : Nat) : Ex := ⟨"BadText", ["row"], [.int (k : Int)]⟩
theorem sp_eq : (" " : Str) = mkS [32] := by decide +kernel
theorem nl_eq : ("\n" : Str) = mkS [10] := by decide +kernel
theorem at_eq : ("@" : Str) = mkS [64] := by decide +kernel
theorem is_eq : ("=" : Str) = mkS [61] := by decide +kernel
theorem ze_eq : ("0" : Str) = mkS [48] := by decide +kernel
def meW : List Nat := [109, 101, 97, 115, 117, 114, 101]
theorem me_eq : ("measure" : Str) = mkS meW := by decide +kernel
theorem me_eq2 : ("measure " : Str) = mkS (meW ++ [32]) := by decide +kernel
theorem str_tl (s : Str) : D.str s = txD (tl s) := by unfold txD; rw [mkS_tl]
theorem pAdd_tx {a b : List Nat} (h : a.length + b.length ≤ 1000000) : pAdd (txD a) (txD b) = .ok (txD (a ++ b)) := pAdd_mk (by omega)
theorem pStr_int {i : Int} (h : 0 ≤ i) (h2 : i < 10 ^ 61) : pStr [.int i] = .ok (txD (numL i.toNat)) := by
  have := pStr_nat (n := i.toNat) (by omega)
  rw [show ((i.toNat : Nat) : Int) = i by omega] at this
  exact this
theorem num_len {i : Int} (h : 0 ≤ i) (h2 : i < 10 ^ 61) : (numL i.toNat).length ≤ 61 := numL_61 (by omega)
theorem stO (l : List Nat) : R.bind (.ok (txD l)) stOnly = .ok (txD l) := rfl
theorem eq_tx (a b : List Nat) : pEq (txD a) (txD b) = .ok (.bl (decide (a = b))) := by
  show pEq (.str (mkS a)) (.str (mkS b)) = _
  rw [pEq_ss]
  congr 2
  rw [Bool.beq_eq_decide_eq]
  exact decide_eq_decide.mpr mkS_inj
theorem ne_tx (a b : List Nat) : pNe (txD a) (txD b) = .ok (.bl (!decide (a = b))) := by
  show pNe (.str (mkS a)) (.str (mkS b)) = _
  rw [pNe_ss]
  congr 3
  rw [Bool.beq_eq_decide_eq]
  exact decide_eq_decide.mpr mkS_inj
theorem bad_init {k : Nat} (h : k < 10 ^ 61) : f_BadText___init__ [.int (k : Int)] = .ok (.exc "BadText" ["row"] [.int (k : Int)]) := by
  show b_BadText___init__ _ = _
  unfold b_BadText___init__
  have e : ("no row can be read at " : Str) = mkS (tl "no row can be read at ") := str_mk _
  have h1 := numL_61 h
  rw [R.cons_ok, R.bind_ok (f := pStr), pStr_nat h, R.bin2_ok, pAdd_ss (by rw [mkS_len]; show 22 + _ ≤ _; omega)]
  rfl
theorem raise_bad {α : Type} {k : Nat} (h : k < 10 ^ 61) : (R.bind (R.cons (.ok (.int (k : Int))) (.ok [])) fun ds => R.bind (noX (f_BadText___init__ ds)) fun d => if d matches .exc _ _ _ then toExc d else .bad) = (.exc (badT k) : R α) := by
  rw [R.cons_ok, R.bind_ok, bad_init h]
  rfl
theorem figs_all {l : List Nat} (h : figs l = true) : NumText.AllDigits l ∧ l ≠ [] ∧ l.length ≤ 61 := by
  unfold figs at h
  obtain ⟨h1, h2⟩ := Bool.and_eq_true_iff.mp h
  obtain ⟨h2, h3⟩ := Bool.and_eq_true_iff.mp h2
  obtain ⟨h4, h5⟩ := Bool.and_eq_true_iff.mp h2
  refine ⟨fun c hc => mem_dgs.mp (of_decide_eq_true (List.all_eq_true.mp h1 c hc)), fun z => ?_, of_decide_eq_true h5⟩
  have := of_decide_eq_true h4
  rw [z] at this
  simp at this
def valL (l : List Nat) : Nat := NumText.digitsVal l
theorem int_figs {l : List Nat} (h : figs l = true) : pIntT [txD l] = .ok (.int (valL l : Nat)) := by
  obtain ⟨h1, h2, h3⟩ := figs_all h
  show (if (decide ((mkS l).length ≤ 640)) = true then (match intText? (mkS l) with
    | some n => (R.ok (.int n) : R D)
    | none => .bad) else .bad) = _
  rw [mkS_len, decide_eq_true (by omega), if_pos rfl]
  have e := intText_digits (x := mkS l) (by rw [show (mkS l).cps.toList = l from tl_mkS l]; exact h1) (by rw [show (mkS l).cps.toList = l from tl_mkS l]; exact h2) (by rw [mkS_len]; omega)
  rw [e, show (mkS l).cps.toList = l from tl_mkS l]
  rfl
theorem val_num (n : Nat) : valL (numL n) = n := numL_val n
/-! ### parted at a sign -/
def befA (l : List Nat) : List Nat := l.takeWhile (fun c => decide (c ≠ 64))
def aftA (l : List Nat) : List Nat := (l.dropWhile (fun c => decide (c ≠ 64))).tail
theorem bef_free : ∀ l : List Nat, 64 ∉ befA l
  | [] => by simp [befA]
  | c :: r => by
    unfold befA
    by_cases h : c = 64
    · rw [List.takeWhile_cons_of_neg (by simp [h])]
      simp
    · rw [List.takeWhile_cons_of_pos (by simp [h]), List.mem_cons, not_or]
      exact ⟨fun z => h z.symm, bef_free r⟩
theorem bef_aft : ∀ {l : List Nat}, 64 ∈ l → l = befA l ++ 64 :: aftA l
  | c :: r, hm => by
    unfold befA aftA
    by_cases h : c = 64
    · rw [List.takeWhile_cons_of_neg (by simp [h]), List.dropWhile_cons_of_neg (by simp [h]), h]
      rfl
    · rw [List.takeWhile_cons_of_pos (by simp [h]), List.dropWhile_cons_of_pos (by simp [h])]
      have := bef_aft (l := r) (by rcases List.mem_cons.mp hm with z | z; exact absurd z.symm h; exact z)
      show c :: r = c :: (befA r ++ 64 :: aftA r)
      rw [← this]
theorem bef_none : ∀ {l : List Nat}, 64 ∉ l → befA l = l ∧ aftA l = []
  | [], _ => ⟨rfl, rfl⟩
  | c :: r, hm => by
    rw [List.mem_cons, not_or] at hm
    have h : c ≠ 64 := fun z => hm.1 z.symm
    obtain ⟨h1, h2⟩ := bef_none hm.2
    unfold befA aftA at *
    rw [List.takeWhile_cons_of_pos (by simp [h]), List.dropWhile_cons_of_pos (by simp [h]), h1, h2]
    exact ⟨rfl, rfl⟩
theorem bef_len (l : List Nat) : (befA l).length ≤ l.length := (List.takeWhile_sublist _).length_le
theorem bef_mem {l : List Nat} {c : Nat} (h : c ∈ befA l) : c ∈ l := (List.takeWhile_sublist _).subset h
theorem aft_sub (l : List Nat) : (aftA l).Sublist l := (List.tail_sublist _).trans (List.dropWhile_sublist _)
theorem part_gen {l : List Nat} (h : ∀ c ∈ l, c < 128) (hl : l.length ≤ 1000000) : pPart (txD l) (.str "@") = .ok (.tup [txD (befA l), txD (if 64 ∈ l then [64] else []), txD (aftA l)]) := by
  have s1 : sOk (mkS (befA l)) = true := sOk_asc (fun c hc => h c (bef_mem hc)) (by have := bef_len l; omega)
  have s2 : sOk (mkS (aftA l)) = true := sOk_asc (fun c hc => h c ((aft_sub l).subset hc)) (by have := (aft_sub l).length_le; omega)
  have e : Txt.partition (mkS l) "@" = (mkS (befA l), mkS (if 64 ∈ l then [64] else []), mkS (aftA l)) := by
    rw [at_eq]
    by_cases hm : 64 ∈ l
    · rw [if_pos hm]
      have e1 : mkS l = mkS (befA l) ++ mkS [64] ++ mkS (aftA l) := by
        rw [mkS_app, mkS_app]
        congr 1
        rw [List.append_assoc]
        exact bef_aft hm
      rw [e1, TL.partition_app (s := 64) (S := []) (tl_mkS _) (by rw [tl_mkS]; exact bef_free l)]
    · rw [if_neg hm, (bef_none hm).1, (bef_none hm).2, TL.partition_none (s := 64) (S := []) (tl_mkS _) (by rw [tl_mkS]; exact hm)]
      rw [show Str.empty = mkS [] from nil_eq]
  have s3 : sOk (mkS (if 64 ∈ l then [64] else [])) = true := by
    split <;> exact sOk_asc (by decide) (by decide)
  show (if (("@" : Str).length == 0) = false ∧ sOk (Txt.partition (mkS l) "@").1 = true ∧ sOk (Txt.partition (mkS l) "@").2.1 = true ∧ sOk (Txt.partition (mkS l) "@").2.2 = true then (R.ok (.tup [.str (Txt.partition (mkS l) "@").1, .str (Txt.partition (mkS l) "@").2.1, .str (Txt.partition (mkS l) "@").2.2]) : R D) else .bad) = _
  rw [e, if_pos ⟨by decide, s1, s3, s2⟩]
  rfl
/-! ### reads, rows, the measure -/
def rdOf (l : List Nat) : Option Rd :=
  if figs l = true then some (.num (valL l : Nat)) else if wordB (befA l) = false then none else if 64 ∈ l then (if figs (aftA l) = false ∨ aftA l = [48] then none else some (.row (befA l) (valL (aftA l) : Nat))) else some (.row (befA l) 0)
theorem read_of_gen {l : List Nat} {k : Nat} (h : ∀ c ∈ l, c < 128) (hl : l.length ≤ 1000000) (hk : k < 10 ^ 61) : f_read_of [txD l, .int (k : Int)] = match rdOf l with | some q => .ok (rdD q) | none => .exc (badT k) := by
  show b_read_of _ _ = _
  unfold b_read_of rdOf
  rw [R.cons_ok, R.bind_ok (f := f_is_figures), figures_gen, R.bind_ok, toB_bl, R.bind_ok]
  cases hf : figs l with
  | true =>
    rw [if_pos rfl, if_pos rfl, R.bind_ok, int_figs hf]
    rfl
  | false =>
    rw [if_neg (by decide), if_neg (by decide), stO, R.bin2_ok, part_gen h hl, R.bind_ok]
    refine (bind_eq (a := (txD (befA l), txD (if 64 ∈ l then [64] else []), txD (aftA l))) rfl).trans ?_
    rw [R.cons_ok, R.bind_ok (f := f_is_word), word_gen, R.bind_ok, toB_bl, notT_ok, R.bind_ok]
    cases hw : wordB (befA l) with
    | false =>
      rw [if_pos (show (!false) = true by decide), if_pos rfl]
      exact raise_bad hk
    | true =>
      rw [if_neg (show ¬ (!true) = true by decide), if_neg (show ¬ true = false by decide)]
      have e0 : pEq (txD (if 64 ∈ l then [64] else [])) (.str "") = .ok (.bl (!decide (64 ∈ l))) := by
        rw [nil_eq]
        refine (eq_tx _ []).trans ?_
        congr 2
        by_cases hm : 64 ∈ l <;> simp [hm]
      refine (bind_eq (a := !decide (64 ∈ l)) ?_).trans ?_
      · show R.bind (R.bin2 (.ok (txD (if 64 ∈ l then [64] else []))) (.ok (.str "")) pEq) toB = _
        rw [R.bin2_ok, e0]
        rfl
      by_cases hm : 64 ∈ l
      · rw [if_neg (show ¬ (!decide (64 ∈ l)) = true by simp [hm])]
        simp only [if_pos hm]
        have e1 : orT (notT (R.bind (R.bind (R.cons (.ok (txD (aftA l))) (.ok [])) f_is_figures) toB)) (R.bind (R.bin2 (.ok (txD (aftA l))) (.ok (.str "0")) pEq) toB) = .ok (!figs (aftA l) || decide (aftA l = [48])) := by
          rw [R.cons_ok, R.bind_ok (f := f_is_figures), figures_gen, R.bind_ok, toB_bl, notT_ok, R.bin2_ok, ze_eq]
          show orT _ (R.bind (pEq (txD (aftA l)) (txD [48])) toB) = _
          rw [eq_tx, R.bind_ok, toB_bl, orT_ok]
        refine (bind_eq e1).trans ?_
        by_cases hc : figs (aftA l) = false ∨ aftA l = [48]
        · rw [if_pos hc, if_pos (by simpa using hc)]
          exact raise_bad hk
        · rw [if_neg hc, if_neg (by simpa using hc)]
          have hF : figs (aftA l) = true := by
            cases e : figs (aftA l) with
            | true => rfl
            | false => exact absurd (.inl e) hc
          rw [R.cons_ok, R.bind_ok (f := pIntT), int_figs hF, R.cons_ok, R.cons_ok, R.bind_ok, mkT_2]
          rfl
      · rw [if_pos (show (!decide (64 ∈ l)) = true by simp [hm])]
        simp only [if_neg hm]
        rw [R.cons_ok, R.cons_ok, R.bind_ok, mkT_2]
        rfl
def rowOf (ps : List (List Nat)) : Option Row := match ps with
  | n :: e :: w :: rs => if e = [61] ∧ wordB n = true ∧ wordB w = true then (optL (rs.map rdOf)).map (fun qs => ⟨n, mkS w, qs⟩) else none
  | _ => none
theorem rowOf_c (n e w : List Nat) (rs : List (List Nat)) : rowOf (n :: e :: w :: rs) = if e = [61] ∧ wordB n = true ∧ wordB w = true then (optL (rs.map rdOf)).map (fun qs => ⟨n, mkS w, qs⟩) else none := rfl
theorem cut_asc {l : List Nat} {s : Nat} (h : ∀ c ∈ l, c < 128) {p : List Nat} (hp : p ∈ cutL s [] l) : (∀ c ∈ p, c < 128) ∧ p.length ≤ l.length := by
  refine ⟨fun c hc => (cutL_mem hp c hc).elim (fun z => by cases z) (h c), ?_⟩
  have := cutL_len hp
  simpa using this
theorem cutL_many {s : Nat} : ∀ (l acc : List Nat), (cutL s acc l).length ≤ l.length + 1
  | [], acc => by simp [cutL]
  | c :: r, acc => by
    unfold cutL
    split
    · have := cutL_many (s := s) r []
      simp
      omega
    · have := cutL_many (s := s) r (acc ++ [c])
      simp
      omega
theorem row_of_gen {l : List Nat} {k : Nat} (h : ∀ c ∈ l, c < 128) (hl : l.length ≤ 1000000) (hk : k < 10 ^ 61) : f_row_of [txD l, .int (k : Int)] = match rowOf (cutL 32 [] l) with | some r => .ok (rowD r) | none => .exc (badT k) := by
  show b_row_of _ _ = _
  unfold b_row_of
  rw [stO, R.bin2_ok, sp_eq, split_gen h hl (by decide), R.bind_ok]
  have hP : ∀ p ∈ cutL 32 [] l, (∀ c ∈ p, c < 128) ∧ p.length ≤ l.length := fun p hp => cut_asc h hp
  have hM := cutL_many (s := 32) l []
  generalize cutL 32 [] l = ps at hP hM
  rw [R.cons_ok, R.bind_ok (f := pLen), pLen_l, List.length_map, R.bin2_ok, pLt_ii, R.bind_ok, toB_bl]
  match ps, hP, hM with
  | [], _, _ => exact raise_bad hk
  | [a], _, _ => exact raise_bad hk
  | [a, b], _, _ => exact raise_bad hk
  | n :: e :: w :: rs, hP, hM =>
    have e0 : orT (.ok (decide (((n :: e :: w :: rs).length : Int) < 3))) (orT (R.bind (R.bin2 (R.bin2 (.ok (.lst ((n :: e :: w :: rs).map txD))) (.ok (.int 1)) pIx) (.ok (.str "=")) pNe) toB) (orT (notT (R.bind (R.bind (R.cons (R.bin2 (.ok (.lst ((n :: e :: w :: rs).map txD))) (.ok (.int 0)) pIx) (.ok [])) f_is_word) toB)) (notT (R.bind (R.bind (R.cons (R.bin2 (.ok (.lst ((n :: e :: w :: rs).map txD))) (.ok (.int 2)) pIx) (.ok [])) f_is_word) toB)))) = .ok (!decide (e = [61]) || (!wordB n || !wordB w)) := by
      have z : ¬ ((n :: e :: w :: rs).length : Int) < 3 := by simp only [List.length_cons]; omega
      rw [decide_eq_false z, orT_f, List.map_cons, List.map_cons, List.map_cons, R.bin2_ok, pIx_1, R.bin2_ok, is_eq, R.bin2_ok, pIx_0, R.bin2_ok, pIx_2]
      show orT (R.bind (pNe (txD e) (txD [61])) toB) _ = _
      rw [ne_tx, R.cons_ok, R.cons_ok, R.bind_ok (f := f_is_word), R.bind_ok (f := f_is_word), word_gen, word_gen, R.bind_ok, toB_bl, R.bind_ok, toB_bl, R.bind_ok, toB_bl, notT_ok, notT_ok, orT_ok, orT_ok]
    refine (bind_eq e0).trans ?_
    rw [rowOf_c]
    by_cases hc : e = [61] ∧ wordB n = true ∧ wordB w = true
    · rw [if_pos hc, if_neg (by simp [hc])]
      have e1 : sl3 (.ok (.lst ((n :: e :: w :: rs).map txD))) (R.bind (.ok (.int 3)) toI) (.ok none) pSlL = .ok (.lst (rs.map txD)) := by
        refine (slL_fr (k := 3) rfl).trans ?_
        rfl
      rw [e1, R.bind_ok, toSeq_l]
      have hrs : rs.length ≤ 16777216 := by simp only [List.length_cons] at hM; omega
      have e2 := pCompX_opt (m := txD) (m2 := rdD) (g := rdOf) (x := badT k) (xs := rs) (f := fun p2 => (R.bind (R.cons (.ok p2) (R.cons (.ok (.int (k : Int))) (.ok []))) f_read_of)) (fun p hp => by
        have := hP p (List.mem_cons_of_mem _ (List.mem_cons_of_mem _ (List.mem_cons_of_mem _ hp)))
        rw [R.cons_ok, R.cons_ok, R.bind_ok, read_of_gen this.1 (by omega) hk]
        cases rdOf p <;> rfl) hrs
      rw [e2, List.map_cons, List.map_cons, List.map_cons, R.bin2_ok, pIx_0, R.bin2_ok, pIx_2]
      cases optL (rs.map rdOf) with
      | none => rfl
      | some qs =>
        show R.bind (R.cons (.ok (txD n)) (R.cons (.ok (txD w)) (R.cons (R.bind (R.cons (.ok (.lst (qs.map rdD))) (.ok [])) pTuple) (.ok [])))) mkT = _
        rw [R.cons_ok, R.bind_ok (f := pTuple), pTuple_l, R.cons_ok, R.cons_ok, R.cons_ok, R.bind_ok, mkT_3]
        rfl
    · rw [if_neg hc, if_pos]
      · exact raise_bad hk
      · by_cases h1 : e = [61]
        · by_cases h2 : wordB n = true
          · have h3 : wordB w = false := by
              cases z : wordB w with
              | false => rfl
              | true => exact absurd ⟨h1, h2, z⟩ hc
            simp [h3]
          · simp [h2]
        · simp [h1]
def measOf (ps : List (List Nat)) : Option Int := match ps with
  | [a, b] => if a = meW ∧ figs b = true then some (valL b : Nat) else none
  | _ => none
theorem measOf_2 (a b : List Nat) : measOf [a, b] = (if a = meW ∧ figs b = true then some ((valL b : Nat) : Int) else none) := rfl
theorem measure_of_gen {l : List Nat} (h : ∀ c ∈ l, c < 128) (hl : l.length ≤ 1000000) : f_measure_of [txD l] = match measOf (cutL 32 [] l) with | some m => .ok (.int m) | none => .exc (badT 0) := by
  show b_measure_of _ = _
  unfold b_measure_of
  rw [stO, R.bin2_ok, sp_eq, split_gen h hl (by decide), R.bind_ok]
  generalize cutL 32 [] l = ps
  rw [R.cons_ok, R.bind_ok (f := pLen), pLen_l, List.length_map, R.bin2_ok, pNe_ii, R.bind_ok, toB_bl]
  match ps with
  | [] => exact raise_bad (k := 0) (by decide)
  | [a] => exact raise_bad (k := 0) (by decide)
  | a :: b :: c :: r =>
    have z : (!(((a :: b :: c :: r).length : Int) == 2)) = true := by
      have : ¬ ((a :: b :: c :: r).length : Int) = 2 := by simp only [List.length_cons]; omega
      rw [beq_eq_false_iff_ne.mpr this]
      rfl
    rw [z, orT_t]
    exact raise_bad (k := 0) (by decide)
  | [a, b] =>
    have e0 : orT (.ok (!((([a, b] : List (List Nat)).length : Int) == 2))) (orT (R.bind (R.bin2 (R.bin2 (.ok (.lst ([a, b].map txD))) (.ok (.int 0)) pIx) (.ok (.str "measure")) pNe) toB) (notT (R.bind (R.bind (R.cons (R.bin2 (.ok (.lst ([a, b].map txD))) (.ok (.int 1)) pIx) (.ok [])) f_is_figures) toB))) = .ok (!decide (a = meW) || !figs b) := by
      rw [show (!((([a, b] : List (List Nat)).length : Int) == 2)) = false from rfl, orT_f, List.map_cons, List.map_cons, List.map_nil, R.bin2_ok, pIx_0, R.bin2_ok, me_eq, R.bin2_ok, pIx_1]
      show orT (R.bind (pNe (txD a) (txD meW)) toB) _ = _
      rw [ne_tx, R.cons_ok, R.bind_ok (f := f_is_figures), figures_gen, R.bind_ok, toB_bl, R.bind_ok, toB_bl, notT_ok, orT_ok]
    refine (bind_eq e0).trans ?_
    rw [measOf_2]
    by_cases hc : a = meW ∧ figs b = true
    · rw [if_pos hc, if_neg (by simp [hc]), List.map_cons, List.map_cons, R.bin2_ok, pIx_1, R.cons_ok, R.bind_ok, int_figs hc.2]
    · rw [if_neg hc, if_pos]
      · exact raise_bad (k := 0) (by decide)
      · by_cases h1 : a = meW
        · have h2 : figs b = false := by
            cases z : figs b with
            | false => rfl
            | true => exact absurd ⟨h1, z⟩ hc
          simp [h2]
        · simp [h1]
/-- the lines of a loop: the measure and rows, or the number of the first that is none -/
def rowsOf : Nat → List (List Nat) → Nat ⊕ List Row
  | _, [] => .inr []
  | k, l :: ls => match rowOf (cutL 32 [] l) with
    | none => .inl k
    | some r => match rowsOf (k + 1) ls with
      | .inl j => .inl j
      | .inr rs => .inr (r :: rs)
theorem rows_loop : ∀ {ls : List (List Nat)} {acc : List Row} {k : Nat}, 1 ≤ k → k + ls.length < 1000000 → acc.length + ls.length < 1000000 → (∀ l ∈ ls, (∀ c ∈ l, c < 128) ∧ l.length ≤ 1000000) →
    rFor (ls.zipIdx k |>.map fun p => D.tup [.int (p.2 : Nat), txD p.1]) (.lst (acc.map rowD)) (fun x t4 => R.bind (un2 x) fun p5 => l_loop_read_1 p5 t4) = match rowsOf k ls with | .inl j => .exc (badT j) | .inr rs => .ok (.lst ((acc ++ rs).map rowD))
  | [], acc, k, _, _, _, _ => by
    show R.ok (D.lst (acc.map rowD)) = R.ok (D.lst ((acc ++ []).map rowD))
    rw [List.append_nil]
  | l :: ls, acc, k, hk, h1, h2, h3 => by
    simp only [List.length_cons] at h1 h2
    have hl := h3 l List.mem_cons_self
    rw [List.zipIdx_cons, List.map_cons]
    show (R.bind (R.bind (un2 (D.tup [.int (k : Nat), txD l])) fun p5 => l_loop_read_1 p5 (.lst (acc.map rowD))) fun t => rFor _ t _) = _
    rw [show un2 (D.tup [.int (k : Nat), txD l]) = .ok (D.int (k : Nat), txD l) from rfl, R.bind_ok]
    unfold l_loop_read_1
    rw [R.bin2_ok, pGt_ii, R.bind_ok, toB_bl, R.bind_ok, decide_eq_true (by omega), if_pos rfl, toL_l, R.bind_ok, R.cons_ok, R.cons_ok, R.bind_ok (f := f_row_of), row_of_gen hl.1 hl.2 (by omega)]
    unfold rowsOf
    cases rowOf (cutL 32 [] l) with
    | none => rfl
    | some r =>
      show (R.bind (R.bind (.ok (rowD r)) fun d => R.bind (appL (acc.map rowD) d) fun x6 => .ok x6) fun t => rFor _ t _) = _
      rw [R.bind_ok, appL_ok (by simp; omega), R.bind_ok, R.bind_ok, show acc.map rowD ++ [rowD r] = (acc ++ [r]).map rowD by simp]
      refine (rows_loop (k := k + 1) (by omega) (by omega) (by simp; omega) fun z hz => h3 z (List.mem_cons_of_mem _ hz)).trans ?_
      cases rowsOf (k + 1) ls with
      | inl j => rfl
      | inr rs =>
        show R.ok (D.lst ((acc ++ [r] ++ rs).map rowD)) = R.ok (D.lst ((acc ++ r :: rs).map rowD))
        simp
theorem cutL_ne (s : Nat) : ∀ l acc : List Nat, cutL s acc l ≠ []
  | [], acc => by simp [cutL]
  | c :: r, acc => by
    unfold cutL
    split
    · simp
    · exact cutL_ne s r _
theorem loop_read_gen {t : List Nat} (h : ∀ c ∈ t, c < 128) (hl : t.length ≤ 100000) : f_loop_read [txD t] = match cutL 10 [] t with
    | [] => .bad
    | l0 :: ls => match measOf (cutL 32 [] l0) with
      | none => .exc (badT 0)
      | some m => match rowsOf 1 ls with
        | .inl j => .exc (badT j)
        | .inr rs => f_Loop___init__ [.int m, .lst (rs.map rowD)] := by
  show b_loop_read _ = _
  unfold b_loop_read
  rw [stO, R.bin2_ok, nl_eq, split_gen h (by omega) (by decide), R.bind_ok]
  have hP : ∀ p ∈ cutL 10 [] t, (∀ c ∈ p, c < 128) ∧ p.length ≤ t.length := fun p hp => cut_asc h hp
  have hM := cutL_many (s := 10) t []
  have hN := cutL_ne 10 t []
  generalize cutL 10 [] t = ls at hP hM hN
  match ls, hP, hM, hN with
  | l0 :: ls, hP, hM, _ =>
    simp only [List.length_cons] at hM
    have h0 := hP l0 List.mem_cons_self
    rw [List.map_cons, R.bin2_ok, pIx_0, R.cons_ok, R.bind_ok (f := f_measure_of), measure_of_gen h0.1 (by omega)]
    show _ = match measOf (cutL 32 [] l0) with
      | none => R.exc (badT 0)
      | some m => match rowsOf 1 ls with
        | .inl j => R.exc (badT j)
        | .inr rs => f_Loop___init__ [.int m, .lst (rs.map rowD)]
    cases measOf (cutL 32 [] l0) with
    | none => rfl
    | some m =>
      show R.bind (.ok (D.int m)) _ = _
      rw [R.bind_ok, R.bind_ok, mkL_0, R.bind_ok, R.bind_ok, toLs_l, R.bind_ok, R.bind_ok, ← List.map_cons (f := txD), enumL_map]
      have e1 : (l0 :: ls).zipIdx.map (fun p => D.tup [.int (p.2 : Nat), txD p.1]) = D.tup [.int 0, txD l0] :: (ls.zipIdx 1).map (fun p => D.tup [.int (p.2 : Nat), txD p.1]) := by
        rw [List.zipIdx_cons, List.map_cons]
        rfl
      rw [e1]
      show R.bind (R.bind (R.bind (un2 (D.tup [.int 0, txD l0])) fun p5 => l_loop_read_1 p5 (D.lst [])) fun t => rFor _ t _) _ = _
      have e2 : (R.bind (un2 (D.tup [.int 0, txD l0])) fun p5 => l_loop_read_1 p5 (D.lst [])) = .ok (.lst []) := rfl
      rw [e2, R.bind_ok]
      have e3 := rows_loop (ls := ls) (acc := []) (k := 1) (by omega) (by omega) (by simp; omega) fun z hz => by
        have := hP z (List.mem_cons_of_mem _ hz)
        exact ⟨this.1, by omega⟩
      rw [show D.lst [] = D.lst (([] : List Row).map rowD) from rfl, e3]
      cases rowsOf 1 ls with
      | inl j => rfl
      | inr rs =>
        show R.bind (.ok (D.lst (([] ++ rs).map rowD))) _ = _
        rw [R.bind_ok, R.cons_ok, R.cons_ok, R.bind_ok, List.nil_append]
end Lx
namespace Lx
open PySem PySem.Spec PyProof.Rows L2 Lw
open TL
/-! ### a loop as a text -/
def readL : Rd → List Nat
  | .num i => numL i.toNat
  | .row n b => if b = 0 then n else n ++ 64 :: numL b.toNat
def rowPs (r : Row) : List (List Nat) := r.n :: [61] :: tl r.w :: r.rs.map readL
def rowL (r : Row) : List Nat := joinL [32] (rowPs r)
def measL (m : Int) : List Nat := joinL [32] [meW, numL m.toNat]
def loopLs (m : Int) (rows : List Row) : List (List Nat) := measL m :: rows.map rowL
def loopT (m : Int) (rows : List Row) : List Nat := joinL [10] (loopLs m rows)
theorem meW_asc : ∀ c ∈ meW, c < 128 ∧ c ≠ 32 ∧ c ≠ 10 := by decide
/-- signs of a part: no blank, no line end -/
def ptOk (p : List Nat) : Prop := ∀ c ∈ p, c < 128 ∧ c ≠ 32 ∧ c ≠ 10
theorem pt_low {l : List Nat} (h : low l) : ptOk l := fun c hc => by have := h c hc; omega
theorem pt_num (n : Nat) : ptOk (numL n) := fun c hc => by have := numL_digits n c hc; omega
theorem rd_names {rows : List Row} (h : LoopOk rows) {r : Row} (hr : r ∈ rows) {q : Rd} (hq : q ∈ r.rs) : match q with
    | .num i => 0 ≤ i ∧ i < 10 ^ 60
    | .row n b => Nm n ∧ 0 ≤ b ∧ b ≤ 6 := by
  obtain ⟨k, hk⟩ := List.mem_iff_getElem?.mp hr
  have := h.rd k r hk q hq
  cases q with
  | num i => exact this
  | row n b =>
    obtain ⟨h1, h2, h3, _⟩ : n ∈ rows.map Row.n ∧ 0 ≤ b ∧ b ≤ 6 ∧ (b = 0 → n ∈ (rows.map Row.n).take k) := this
    obtain ⟨r2, hr2, rfl⟩ := List.mem_map.mp h1
    exact ⟨h.nm r2 hr2, h2, h3⟩
theorem read_pt {rows : List Row} (h : LoopOk rows) {r : Row} (hr : r ∈ rows) {q : Rd} (hq : q ∈ r.rs) : ptOk (readL q) ∧ (readL q).length ≤ 100 := by
  have := rd_names h hr hq
  cases q with
  | num i =>
    have := num_len (i := i) this.1 (by have := this.2; omega)
    exact ⟨pt_num _, by show (numL i.toNat).length ≤ 100; omega⟩
  | row n b =>
    obtain ⟨h1, h2, h3⟩ := this
    have h4 := num_len (i := b) h2 (by omega)
    have h5 := h1.2.1
    show ptOk (if b = 0 then n else n ++ 64 :: numL b.toNat) ∧ (if b = 0 then n else n ++ 64 :: numL b.toNat).length ≤ 100
    split
    · exact ⟨pt_low h1.2.2, by omega⟩
    · refine ⟨fun c hc => ?_, by simp; omega⟩
      rcases List.mem_append.mp hc with hc | hc
      · exact pt_low h1.2.2 c hc
      · rcases List.mem_cons.mp hc with rfl | hc
        · decide
        · exact pt_num _ c hc
theorem row_pts {rows : List Row} (h : LoopOk rows) {r : Row} (hr : r ∈ rows) {p : List Nat} (hp : p ∈ rowPs r) : ptOk p ∧ p.length ≤ 100 := by
  unfold rowPs at hp
  rcases List.mem_cons.mp hp with rfl | hp
  · have := h.nm r hr
    exact ⟨pt_low this.2.2, by have := this.2.1; omega⟩
  rcases List.mem_cons.mp hp with rfl | hp
  · exact ⟨by intro c hc; rw [List.mem_singleton.mp hc]; decide, by decide⟩
  rcases List.mem_cons.mp hp with rfl | hp
  · have := w9_low (h.wd r hr).1
    exact ⟨pt_low this.2.2, by have := this.2.1; omega⟩
  · obtain ⟨q, hq, rfl⟩ := List.mem_map.mp hp
    exact read_pt h hr hq
theorem wants3 {w : Str} : wantsN w ≤ 3 := by
  unfold wantsN
  split
  · omega
  · split
    · omega
    · split <;> omega
theorem row_many {rows : List Row} (h : LoopOk rows) {r : Row} (hr : r ∈ rows) : (rowPs r).length ≤ 6 := by
  have h1 := (h.wd r hr).2
  have h2 := wants3 (w := r.w)
  simp [rowPs]
  omega
theorem row_len {rows : List Row} (h : LoopOk rows) {r : Row} (hr : r ∈ rows) : (rowL r).length ≤ 1000 ∧ (∀ c ∈ rowL r, c < 128) ∧ 10 ∉ rowL r ∧ ((rowPs r).map List.length).sum + (rowPs r).length ≤ 1000000 := by
  have h1 := row_many h hr
  have h2 := sum_le (k := 100) (parts := rowPs r) fun p hp => (row_pts h hr hp).2
  have h3 := joinL_len (s := 32) (parts := rowPs r)
  refine ⟨by show (joinL [32] (rowPs r)).length ≤ 1000; omega, fun c hc => ?_, fun hc => ?_, by omega⟩
  · rcases joinL_mem hc with z | ⟨p, hp, hc⟩
    · omega
    · exact ((row_pts h hr hp).1 c hc).1
  · rcases joinL_mem hc with z | ⟨p, hp, hc⟩
    · omega
    · exact ((row_pts h hr hp).1 10 hc).2.2 rfl
theorem meas_len {m : Int} (h1 : 2 ≤ m) (h2 : m ≤ 10 ^ 60) : (measL m).length ≤ 1000 ∧ (∀ c ∈ measL m, c < 128) ∧ 10 ∉ measL m := by
  have h3 := num_len (i := m) (by omega) (by omega)
  refine ⟨by simp [measL, joinL, meW]; omega, fun c hc => ?_, fun hc => ?_⟩
  · rcases joinL_mem hc with z | ⟨p, hp, hc⟩
    · omega
    · simp only [List.mem_cons, List.not_mem_nil, or_false] at hp
      rcases hp with rfl | rfl
      · exact (meW_asc c hc).1
      · exact (pt_num _ c hc).1
  · rcases joinL_mem hc with z | ⟨p, hp, hc⟩
    · omega
    · simp only [List.mem_cons, List.not_mem_nil, or_false] at hp
      rcases hp with rfl | rfl
      · exact (meW_asc 10 hc).2.2 rfl
      · exact (pt_num _ 10 hc).2.2 rfl
theorem lines_ok {m : Int} (h1 : 2 ≤ m) (h2 : m ≤ 10 ^ 60) {rows : List Row} (h : LoopOk rows) {p : List Nat} (hp : p ∈ loopLs m rows) : p.length ≤ 1000 ∧ (∀ c ∈ p, c < 128) ∧ 10 ∉ p := by
  rcases List.mem_cons.mp hp with rfl | hp
  · exact meas_len h1 h2
  · obtain ⟨r, hr, rfl⟩ := List.mem_map.mp hp
    have := row_len h hr
    exact ⟨this.1, this.2.1, this.2.2.1⟩
theorem lines_many {m : Int} (h1 : 2 ≤ m) (h2 : m ≤ 10 ^ 60) {rows : List Row} (h : LoopOk rows) : ((loopLs m rows).map List.length).sum + (loopLs m rows).length ≤ 50000 := by
  have h3 : (loopLs m rows).length ≤ 13 := by have := h.len; simp [loopLs]; omega
  have h4 := sum_le (k := 1000) (parts := loopLs m rows) fun p hp => (lines_ok h1 h2 h hp).1
  omega
theorem joined_ok {m : Int} (h1 : 2 ≤ m) (h2 : m ≤ 10 ^ 60) {rows : List Row} (h : LoopOk rows) : R.bin2 (R.bind (.ok (.str "\n")) stOnly) (.ok (.lst ((loopLs m rows).map txD))) pJoin = .ok (txD (loopT m rows)) := by
  have e : R.bind (.ok (D.str "\n")) stOnly = .ok (.str "\n") := rfl
  rw [e, R.bin2_ok, nl_eq, join_gen (fun p hp => (lines_ok h1 h2 h hp).2.1) (by have := lines_many h1 h2 h; omega) (by decide)]
  rfl
theorem meas_tx {m : Int} (h1 : 2 ≤ m) (h2 : m ≤ 10 ^ 60) {r : R D} (hr : r = .ok (.int m)) : R.bin2 (.ok (.str "measure ")) (R.bind (R.cons r (.ok [])) pStr) pAdd = .ok (txD (measL m)) := by
  have h3 := num_len (i := m) (by omega) (by omega)
  rw [hr, R.cons_ok, R.bind_ok, pStr_int (by omega) (by omega), me_eq2, R.bin2_ok]
  show pAdd (txD (meW ++ [32])) (txD (numL m.toNat)) = _
  rw [pAdd_tx (by simp [meW]; omega)]
  simp [measL, joinL]
theorem joinL_snoc {s : Nat} : ∀ {ps : List (List Nat)} {q : List Nat}, ps ≠ [] → joinL [s] (ps ++ [q]) = joinL [s] ps ++ ([s] ++ q)
  | [p], q, _ => rfl
  | p :: p2 :: r, q, _ => by
    show p ++ ([s] ++ joinL [s] (p2 :: r ++ [q])) = (p ++ ([s] ++ joinL [s] (p2 :: r))) ++ ([s] ++ q)
    rw [joinL_snoc (by simp)]
    simp
theorem read_shown_ok {rows : List Row} (h : LoopOk rows) {r : Row} (hr : r ∈ rows) {q : Rd} (hq : q ∈ r.rs) : f_read_shown [rdD q] = .ok (txD (readL q)) := by
  have hn := rd_names h hr hq
  show b_read_shown _ = _
  unfold b_read_shown
  rw [R.cons_ok, R.bind_ok (f := f_is_number), isnum_ok, R.bind_ok, toB_bl, R.bind_ok]
  cases q with
  | num i =>
    rw [if_pos rfl]
    show R.bind (R.bind (.ok [.int i]) pStr) _ = _
    rw [R.bind_ok, pStr_int hn.1 (by have := hn.2; omega)]
    rfl
  | row n b =>
    obtain ⟨h1, h2, h3⟩ := hn
    have h4 := num_len (i := b) h2 (by omega)
    have h5 := h1.2.1
    rw [if_neg (show ¬ (false = true) by decide)]
    show R.bind (R.bind (R.bin2 (R.bin2 (.ok (.tup [.str (mkS n), .int b])) (.ok (.int 1)) pIx) (.ok (.int 0)) pEq) toB) _ = _
    refine (bind_eq (a := b == 0) (by rw [R.bin2_ok, pIx_t1, R.bin2_ok, pEq_ii, R.bind_ok, toB_bl])).trans ?_
    show _ = R.ok (txD (if b = 0 then n else n ++ 64 :: numL b.toNat))
    by_cases hb : b = 0
    · rw [if_pos (by simpa using hb), if_pos hb]
      rfl
    · rw [if_neg (by simpa using hb), if_neg hb]
      have e1 : R.bin2 (.ok (D.tup [.str (mkS n), .int b])) (.ok (.int 0)) pIx = .ok (txD n) := rfl
      have e2 : R.bind (R.cons (R.bin2 (.ok (rdD (.row n b))) (.ok (.int 1)) pIx) (.ok [])) pStr = .ok (txD (numL b.toNat)) := by
        show R.bind (R.cons (.ok (.int b)) (.ok [])) pStr = _
        rw [R.cons_ok, R.bind_ok, pStr_int h2 (by omega)]
      show R.bin2 (R.bin2 (R.bin2 (.ok (D.tup [.str (mkS n), .int b])) (.ok (.int 0)) pIx) (.ok (.str "@")) pAdd) (R.bind (R.cons (R.bin2 (.ok (rdD (.row n b))) (.ok (.int 1)) pIx) (.ok [])) pStr) pAdd = _
      rw [e1, e2, at_eq, R.bin2_ok]
      show R.bin2 (pAdd (txD n) (txD [64])) _ _ = _
      rw [pAdd_tx (by simp; omega), R.bin2_ok, pAdd_tx (by simp; omega)]
      simp
theorem loop_shown_ok {m : Int} (h1 : 2 ≤ m) (h2 : m ≤ 10 ^ 60) {rows : List Row} (h : LoopOk rows) : f_loop_shown [loopD m rows] = .ok (txD (loopT m rows)) := by
  have hl := h.len
  show b_loop_shown _ = _
  unfold b_loop_shown
  rw [meas_tx h1 h2 (r := R.bind (.ok (loopD m rows)) (pFld "Loop" "measure")) rfl, R.cons_ok, R.bind_ok (f := mkL), mkL_1, R.bind_ok]
  refine (bind_eq (a := rows.map rowD) rfl).trans ?_
  obtain ⟨t', e, et⟩ := rFor_inv (f := fun x t2 => R.bind (un3 x) fun p3 => l_loop_shown_1 p3 t2) (xs := rows.map rowD) (t := D.lst [txD (measL m)]) (fun j t => t = D.lst ((loopLs m (rows.take j)).map txD)) (fun j y t hy ht => by
    rw [List.getElem?_map] at hy
    obtain ⟨r, hq, rfl⟩ := Option.map_eq_some_iff.mp hy
    have hr := List.mem_of_getElem? hq
    have hL := row_len h hr
    have hw3 := wants3 (w := r.w)
    have hwd := (h.wd r hr).2
    refine ⟨_, ?_, rfl⟩
    refine (bind_eq (a := (txD r.n, D.str r.w, D.tup (r.rs.map rdD))) rfl).trans ?_
    unfold l_loop_shown_1
    rw [ht]
    refine (bind_eq rfl).trans ?_
    have e1 : (pComp (R.bind (.ok (D.tup (r.rs.map rdD))) toSeq) (fun d => .ok d) (fun p4 => (.ok true)) (fun p4 => (R.bind (R.cons (.ok p4) (.ok [])) f_read_shown))) = .ok (.lst (r.rs.map fun q => txD (readL q))) := by
      rw [R.bind_ok, toSeq_t]
      exact pComp_map (fun q hq => by rw [R.cons_ok, R.bind_ok, read_shown_ok h hr hq]) (by omega)
    have e2 : (R.bind (R.cons (.ok (txD r.n)) (R.cons (.ok (.str "=")) (R.cons (.ok (D.str r.w)) (.ok [])))) mkL) = .ok (.lst [txD r.n, txD [61], txD (tl r.w)]) := by
      rw [is_eq, str_tl r.w, R.cons_ok, R.cons_ok, R.cons_ok, R.bind_ok, mkL_3]
      rfl
    have e3 : R.bin2 (R.bind (.ok (.str " ")) stOnly) (.ok (.lst ((rowPs r).map txD))) pJoin = .ok (txD (rowL r)) := by
      have e : R.bind (.ok (D.str " ")) stOnly = .ok (.str " ") := rfl
      rw [e, R.bin2_ok, sp_eq, join_gen (fun p hp c hc => ((row_pts h hr hp).1 c hc).1) hL.2.2.2 (by decide)]
      rfl
    refine (bind_eq (a := txD (rowL r)) ?_).trans ?_
    · show R.bin2 _ (R.bin2 (R.bind (R.cons (.ok (txD r.n)) (R.cons (.ok (.str "=")) (R.cons (.ok (D.str r.w)) (.ok [])))) mkL) (pComp (R.bind (.ok (D.tup (r.rs.map rdD))) toSeq) (fun d => .ok d) (fun p4 => (.ok true)) (fun p4 => (R.bind (R.cons (.ok p4) (.ok [])) f_read_shown))) pCatL) pJoin = _
      rw [e1, e2, R.bin2_ok (f := pCatL), pCatL_ok (by simp; omega)]
      rw [show [txD r.n, txD [61], txD (tl r.w)] ++ r.rs.map (fun q => txD (readL q)) = (rowPs r).map txD by simp [rowPs]]
      exact e3
    have hj := (List.getElem?_eq_some_iff.mp hq).1
    rw [appL_ok (by simp [loopLs]; omega), R.bind_ok, List.take_succ, hq]
    simp [loopLs]) (by rfl)
  rw [e, R.bind_ok, et, List.length_map, List.take_length]
  exact joined_ok h1 h2 h
theorem law_loop_text_ok {m : Int} (h1 : 2 ≤ m) (h2 : m ≤ 10 ^ 60) {rows : List Row} (h : LoopOk rows) : f_law_loop_text [.int m, .lst (rows.map rowD)] = .ok (txD (loopT m rows)) := by
  have hl := h.len
  show b_law_loop_text _ _ = _
  unfold b_law_loop_text
  rw [meas_tx h1 h2 rfl, R.cons_ok, R.bind_ok (f := mkL), mkL_1, R.bind_ok, R.bind_ok, toSeq_l, R.bind_ok]
  obtain ⟨t', e, et⟩ := rFor_inv (f := fun x t2 => R.bind (un3 x) fun p3 => l_law_loop_text_2 p3 t2) (xs := rows.map rowD) (t := D.lst [txD (measL m)]) (fun j t => t = D.lst ((loopLs m (rows.take j)).map txD)) (fun j y t hy ht => by
    rw [List.getElem?_map] at hy
    obtain ⟨r, hq, rfl⟩ := Option.map_eq_some_iff.mp hy
    have hr := List.mem_of_getElem? hq
    have hL := row_len h hr
    have hw3 := wants3 (w := r.w)
    have hwd := (h.wd r hr).2
    refine ⟨_, ?_, rfl⟩
    refine (bind_eq (a := (txD r.n, D.str r.w, D.tup (r.rs.map rdD))) rfl).trans ?_
    unfold l_law_loop_text_2
    have hw := w9_low (h.wd r hr).1
    have hn := h.nm r hr
    have g1 := hw.2.1
    have g2 := hn.2.1
    have ei : (" = " : Str) = mkS [32, 61, 32] := by decide +kernel
    refine (bind_eq (a := txD (joinL [32] [r.n, [61], tl r.w])) ?_).trans ?_
    · show R.bin2 (R.bin2 (.ok (txD r.n)) (.ok (.str " = ")) pAdd) (.ok (.str r.w)) pAdd = _
      rw [ei, R.bin2_ok, str_tl r.w]
      show R.bin2 (pAdd (txD r.n) (txD [32, 61, 32])) _ _ = _
      rw [pAdd_tx (by simp; omega), R.bin2_ok, pAdd_tx (by simp only [List.length_append, List.length_cons, List.length_nil]; omega)]
      simp [joinL]
    refine (bind_eq (a := r.rs.map rdD) rfl).trans ?_
    obtain ⟨t2, e2, et2⟩ := rFor_inv (f := l_law_loop_text_1) (xs := r.rs.map rdD) (t := txD (joinL [32] [r.n, [61], tl r.w])) (fun i t => t = txD (joinL [32] (r.n :: [61] :: tl r.w :: (r.rs.take i).map readL))) (fun i y t hy ht => by
      rw [List.getElem?_map] at hy
      obtain ⟨q, hq2, rfl⟩ := Option.map_eq_some_iff.mp hy
      have hqm := List.mem_of_getElem? hq2
      have hrd := read_pt h hr hqm
      have hnm := rd_names h hr hqm
      have hi := (List.getElem?_eq_some_iff.mp hq2).1
      refine ⟨_, ?_, rfl⟩
      have eS : (r.n :: [61] :: tl r.w :: (r.rs.take (i + 1)).map readL) = (r.n :: [61] :: tl r.w :: (r.rs.take i).map readL) ++ [readL q] := by
        rw [List.take_succ, hq2]
        simp
      rw [eS, joinL_snoc (by simp), ht]
      have hlen : (joinL [32] (r.n :: [61] :: tl r.w :: (r.rs.take i).map readL)).length ≤ 1000 := by
        have a1 := joinL_len (s := 32) (parts := r.n :: [61] :: tl r.w :: (r.rs.take i).map readL)
        have a2 := sum_le (k := 100) (parts := r.n :: [61] :: tl r.w :: (r.rs.take i).map readL) fun p hp => (row_pts h hr (p := p) (by
          unfold rowPs
          rcases List.mem_cons.mp hp with rfl | hp
          · exact List.mem_cons_self
          rcases List.mem_cons.mp hp with rfl | hp
          · exact List.mem_cons_of_mem _ List.mem_cons_self
          rcases List.mem_cons.mp hp with rfl | hp
          · exact List.mem_cons_of_mem _ (List.mem_cons_of_mem _ List.mem_cons_self)
          · obtain ⟨z, hz, rfl⟩ := List.mem_map.mp hp
            exact List.mem_cons_of_mem _ (List.mem_cons_of_mem _ (List.mem_cons_of_mem _ (List.mem_map_of_mem (List.mem_of_mem_take hz)))))).2
        simp only [List.length_cons, List.length_map, List.length_take] at a1 a2
        omega
      generalize joinL [32] (r.n :: [61] :: tl r.w :: (r.rs.take i).map readL) = L at hlen
      unfold l_law_loop_text_1
      have e5 : R.bin2 (.ok (txD L)) (.ok (.str " ")) pAdd = .ok (txD (L ++ [32])) := by
        rw [sp_eq, R.bin2_ok]
        exact pAdd_tx (by simp; omega)
      cases q with
      | num z =>
        refine (bind_eq (a := true) rfl).trans ?_
        rw [if_pos rfl, e5]
        have : R.bind (R.cons (.ok (rdD (.num z))) (.ok [])) pStr = .ok (txD (numL z.toNat)) := by
          show R.bind (R.cons (.ok (.int z)) (.ok [])) pStr = _
          rw [R.cons_ok, R.bind_ok, pStr_int hnm.1 (by have := hnm.2; omega)]
        have hr2 : (numL z.toNat).length ≤ 100 := hrd.2
        rw [this, R.bin2_ok, pAdd_tx (by simp; omega), R.bind_ok]
        show R.ok (txD (L ++ [32] ++ numL z.toNat)) = R.ok (txD (L ++ ([32] ++ numL z.toNat)))
        rw [List.append_assoc]
      | row n b =>
        obtain ⟨k1, k2, k3⟩ := hnm
        have k4 := num_len (i := b) k2 (by omega)
        have k5 := k1.2.1
        refine (bind_eq (a := false) rfl).trans ?_
        rw [if_neg (by decide), e5]
        have e6 : R.bin2 (.ok (rdD (.row n b))) (.ok (.int 0)) pIx = .ok (txD n) := rfl
        have e7 : R.bin2 (.ok (rdD (.row n b))) (.ok (.int 1)) pIx = .ok (.int b) := rfl
        have e8 : R.bin2 (.ok (.str "@")) (R.bind (R.cons (.ok (.int b)) (.ok [])) pStr) pAdd = .ok (txD (64 :: numL b.toNat)) := by
          rw [R.cons_ok, R.bind_ok, pStr_int k2 (by omega), at_eq, R.bin2_ok]
          exact pAdd_tx (a := [64]) (by simp; omega)
        have e9 : (R.bin2 (R.bind (R.cons (.ok (.str "")) (R.cons (.ok (txD (64 :: numL b.toNat))) (.ok []))) mkL) (R.bind (R.cons (R.bin2 (.ok (.int b)) (.ok (.int 0)) pGt) (.ok [])) pInt) pIx) = .ok (txD (if b = 0 then [] else 64 :: numL b.toNat)) := by
          rw [R.cons_ok, R.cons_ok, R.bind_ok (f := mkL), mkL_2, R.bin2_ok, pGt_ii, R.cons_ok, R.bind_ok (f := pInt), pInt_b]
          by_cases hb : b = 0
          · rw [if_pos hb, decide_eq_false (by omega), if_neg (by decide), R.bin2_ok, pIx_0, nil_eq]
            rfl
          · rw [if_neg hb, decide_eq_true (by omega), if_pos rfl, R.bin2_ok, pIx_1]
        rw [e6, e7, e8, e9, R.bin2_ok, pAdd_tx (by simp; omega), R.bin2_ok]
        rw [pAdd_tx (by split <;> simp <;> omega), R.bind_ok]
        show R.ok (txD (L ++ [32] ++ n ++ if b = 0 then [] else 64 :: numL b.toNat)) = R.ok (txD (L ++ ([32] ++ if b = 0 then n else n ++ 64 :: numL b.toNat)))
        by_cases hb : b = 0
        · simp [hb]
        · simp [hb]) (by rfl)
    refine (bind_eq e2).trans ?_
    rw [ht]
    refine (bind_eq rfl).trans ?_
    have hj := (List.getElem?_eq_some_iff.mp hq).1
    rw [et2, List.length_map, List.take_length, R.bind_ok, appL_ok (by simp [loopLs]; omega), R.bind_ok, List.take_succ, hq]
    simp [loopLs, rowL, rowPs]) (by rfl)
  rw [e, R.bind_ok, et, List.length_map, List.take_length]
  exact joined_ok h1 h2 h
/-! ### read back -/
theorem bef_app {n r : List Nat} (h : 64 ∉ n) : befA (n ++ 64 :: r) = n ∧ aftA (n ++ 64 :: r) = r := by
  induction n with
  | nil => exact ⟨rfl, rfl⟩
  | cons c n ih =>
    rw [List.mem_cons, not_or] at h
    have hc : c ≠ 64 := fun z => h.1 z.symm
    obtain ⟨i1, i2⟩ := ih h.2
    unfold befA aftA at *
    rw [List.cons_append, List.takeWhile_cons_of_pos (by simp [hc]), List.dropWhile_cons_of_pos (by simp [hc]), i1, i2]
    exact ⟨rfl, rfl⟩
theorem figs_no {l : List Nat} {c : Nat} (hc : c ∈ l) (h : c ∉ dgs) : figs l = false := by
  unfold figs
  have : (l.all fun c => decide (c ∈ dgs)) = false := by
    rw [List.all_eq_false]
    exact ⟨c, hc, by simp [h]⟩
  rw [this, Bool.false_and]
theorem rdOf_read {rows : List Row} (h : LoopOk rows) {r : Row} (hr : r ∈ rows) {q : Rd} (hq : q ∈ r.rs) : rdOf (readL q) = some q := by
  have hn := rd_names h hr hq
  cases q with
  | num i =>
    show rdOf (numL i.toNat) = _
    unfold rdOf
    obtain ⟨a1, a2⟩ := hn
    rw [if_pos (figs_num (by omega)), val_num, show ((i.toNat : Nat) : Int) = i by omega]
  | row n b =>
    obtain ⟨h1, h2, h3⟩ := hn
    have h64 : 64 ∉ n := fun z => by have := h1.2.2 64 z; omega
    have hfirst : ∃ c ∈ n, c ∉ dgs := by
      match n, h1 with
      | c :: n, h1 =>
        refine ⟨c, List.mem_cons_self, fun z => ?_⟩
        have := mem_dgs.mp z
        have := h1.2.2 c List.mem_cons_self
        omega
      | [], h1 => exact absurd h1.1 (by simp)
    obtain ⟨c, hc, hd⟩ := hfirst
    show rdOf (if b = 0 then n else n ++ 64 :: numL b.toNat) = _
    by_cases hb : b = 0
    · rw [if_pos hb]
      unfold rdOf
      rw [if_neg (by rw [figs_no hc hd]; decide), (bef_none h64).1, if_neg (by rw [word_nm h1]; decide), if_neg h64, hb]
    · rw [if_neg hb]
      unfold rdOf
      have hne : numL b.toNat ≠ [48] := fun z => by
        have e : b.toNat = 0 := by
          have := val_num b.toNat
          rw [z] at this
          exact this.symm.trans (by decide)
        omega
      rw [if_neg (by rw [figs_no (List.mem_append_left _ hc) hd]; decide), (bef_app h64).1, (bef_app h64).2, if_neg (by rw [word_nm h1]; decide), if_pos (by simp), if_neg (by rw [figs_num (by omega)]; simp [hne]), val_num, show ((b.toNat : Nat) : Int) = b by omega]
theorem rowOf_row {rows : List Row} (h : LoopOk rows) {r : Row} (hr : r ∈ rows) : rowOf (cutL 32 [] (rowL r)) = some r := by
  have e1 : cutL 32 [] (rowL r) = rowPs r := cutL_join (by simp [rowPs]) fun p hp hc => ((row_pts h hr hp).1 32 hc).2.1 rfl
  rw [e1]
  unfold rowPs
  rw [rowOf_c, if_pos ⟨rfl, word_nm (h.nm r hr), word_nm (w9_low (h.wd r hr).1)⟩, List.map_map]
  have e2 : r.rs.map (rdOf ∘ readL) = r.rs.map some := List.map_congr_left fun q hq => rdOf_read h hr hq
  rw [e2, optL_map, mkS_tl]
  rfl
theorem rowsOf_rows {rows : List Row} (h : LoopOk rows) : ∀ {rs : List Row} (k : Nat), (∀ r ∈ rs, r ∈ rows) → rowsOf k (rs.map rowL) = .inr rs
  | [], k, _ => rfl
  | r :: rs, k, hs => by
    rw [List.map_cons]
    unfold rowsOf
    rw [rowOf_row h (hs r List.mem_cons_self), rowsOf_rows h (k + 1) fun z hz => hs z (List.mem_cons_of_mem _ hz)]
theorem measOf_meas {m : Int} (h1 : 2 ≤ m) (h2 : m ≤ 10 ^ 60) : measOf (cutL 32 [] (measL m)) = some m := by
  have e1 : cutL 32 [] (measL m) = [meW, numL m.toNat] := cutL_join (by simp) fun p hp hc => by
    simp only [List.mem_cons, List.not_mem_nil, or_false] at hp
    rcases hp with rfl | rfl
    · exact (meW_asc 32 hc).2.1 rfl
    · exact (pt_num _ 32 hc).2.1 rfl
  rw [e1, measOf_2, if_pos ⟨rfl, figs_num (by omega)⟩, val_num, show ((m.toNat : Nat) : Int) = m by omega]
theorem loopT_asc {m : Int} (h1 : 2 ≤ m) (h2 : m ≤ 10 ^ 60) {rows : List Row} (h : LoopOk rows) : (∀ c ∈ loopT m rows, c < 128) ∧ (loopT m rows).length ≤ 50000 := by
  have hm := lines_many h1 h2 h
  have hlen := joinL_len (s := 10) (parts := loopLs m rows)
  refine ⟨fun c hc => ?_, by show (joinL [10] (loopLs m rows)).length ≤ _; omega⟩
  rcases joinL_mem hc with z | ⟨p, hp, hc⟩
  · omega
  · exact (lines_ok h1 h2 h hp).2.1 c hc
theorem loop_read_ok {m : Int} (h1 : 2 ≤ m) (h2 : m ≤ 10 ^ 60) {rows : List Row} (h : LoopOk rows) : f_loop_read [txD (loopT m rows)] = .ok (loopD m rows) := by
  have hA := loopT_asc h1 h2 h
  rw [loop_read_gen hA.1 (by have := hA.2; omega)]
  have e1 : cutL 10 [] (loopT m rows) = loopLs m rows := cutL_join (by simp [loopLs]) fun p hp => (lines_ok h1 h2 h hp).2.2
  rw [e1]
  show (match measOf (cutL 32 [] (measL m)) with
    | none => R.exc (badT 0)
    | some m => match rowsOf 1 (rows.map rowL) with
      | .inl j => R.exc (badT j)
      | .inr rs => f_Loop___init__ [.int m, .lst (rs.map rowD)]) = _
  rw [measOf_meas h1 h2]
  show (match rowsOf 1 (rows.map rowL) with
      | .inl j => R.exc (badT j)
      | .inr rs => f_Loop___init__ [.int m, .lst (rs.map rowD)]) = _
  rw [rowsOf_rows h 1 fun r hr => hr]
  exact loop_ok h h1 h2
end Lx
namespace Lx
open PySem PySem.Spec PyProof.Rows L2 Lw
open TL
theorem rdD_pl (q : Rd) (n : Nat) : pl (rdD q) (n + 2) = true := by cases q <;> simp [rdD, pl, pls]
theorem rdDs_pl : ∀ (rs : List Rd) (n : Nat), pls (rs.map rdD) (n + 2) = true
  | [], _ => rfl
  | q :: rs, n => by simp [pls, rdD_pl, rdDs_pl rs n]
theorem rowsD_pl : ∀ rows : List Row, pls (rows.map rowD) 19 = true
  | [] => rfl
  | r :: rows => by
    show (pl (rowD r) 19 && pls (rows.map rowD) 19) = true
    rw [rowsD_pl rows]
    simp [rowD, pl, pls, rdDs_pl]
theorem whole_int (i : Int) : f_law_whole [.int i] = .ok (.bl true) := rfl
theorem rows_right_ok {rows : List Row} : f_law_rows_right [.lst (rows.map rowD), .lst (rows.map rowD)] = .ok (.bl true) := by
  show b_law_rows_right _ _ = _
  unfold b_law_rows_right
  refine (bind_eq (a := false) ?_).trans ?_
  · simp only [R.bind_ok, isTy_lst, toB_bl, notT_ok, R.cons_ok, pLen_l, R.bin2_ok, pNe_ii]
    simp
  rw [if_neg (by decide), R.bind_ok, toSeq_l, R.bind_ok]
  refine (bind_eq (rForX_nx fun x hx => ?_)).trans ?_
  · obtain ⟨r, hr, rfl⟩ := List.mem_map.mp hx
    unfold l_law_rows_right_2
    refine (bind_eq (a := false) rfl).trans ?_
    rw [if_neg (by decide)]
    refine (bind_eq (a := false) rfl).trans ?_
    rw [if_neg (by decide)]
    refine (bind_eq (a := r.rs.map rdD) (by rw [R.bin2_ok, rowD_reads, R.bind_ok, toSeq_t])).trans ?_
    refine (bind_eq (rForX_nx fun y hy => ?_)).trans rfl
    obtain ⟨q, hq, rfl⟩ := List.mem_map.mp hy
    unfold l_law_rows_right_1
    cases q <;> rfl
  · rw [thn_go, R.bin2_ok, pEq_self (by show pls (rows.map rowD) 19 = true; exact rowsD_pl rows)]
theorem law_true (ns : List Int) (hl : ns.length ≤ 63) (hb : ∀ n ∈ ns, Builtin.Int.intBits n ≤ 1048576) : f_law [.scr (ns.map D.int)] = .ok (.bl true) := by
  suffices h : Gv (f_law [.scr (ns.map D.int)]) fun d => d = .bl true by
    obtain ⟨d, e, rfl⟩ := h
    exact e
  show Gv (b_law _) _
  unfold b_law
  have ec := cell_at ns 0
  rw [show ((0 : Nat) : Int) = 0 from rfl] at ec
  have ec1 := cell_at ns 1
  rw [show ((1 : Nat) : Int) = 1 from rfl] at ec1
  obtain ⟨p, ep, hp⟩ := emodN (a := ns.getD 0 0 / 2) (b := 12) (by decide)
  obtain ⟨many, em⟩ : ∃ many : Nat, many = 1 + p := ⟨_, rfl⟩
  have em2 : (1 + (p : Int)) = (many : Int) := by omega
  obtain ⟨nms, en, l1, l2, l3⟩ := law_names_gen (c := ns.getD 0 0) (count := many) (scr_bd hb 0) (by omega)
  obtain ⟨_, er, rows, rfl, r1, r2⟩ := law_rows_ok hb (nms := nms) (by omega) (by omega)
  have hL := loopOk_of (by omega) (by omega) l2 l3 r1 r2
  refine Gv.step (a := D.int (ns.getD 0 0)) (by rw [R.cons_ok, R.cons_ok, R.bind_ok, ec]) ?_
  refine Gv.step (a := D.lst (rows.map rowD)) ?_ ?_
  · rw [R.bin2_ok, pDiv_ii (by decide), R.bin2_ok, pMod_ii (by decide), ep, R.bin2_ok, pAdd_ii, em2, R.cons_ok, R.cons_ok, R.bind_ok (f := f_law_names), en, R.cons_ok, R.cons_ok, R.bind_ok, er]
  refine Gv.step (a := D.int (ns.getD 1 0)) (by rw [R.cons_ok, R.cons_ok, R.bind_ok, ec1]) ?_
  obtain ⟨c, ecc⟩ : ∃ c : Int, c = ns.getD 1 0 := ⟨_, rfl⟩
  have hbc : bd 1048576 c := by rw [ecc]; exact scr_bd hb 1
  rw [← ecc]
  obtain ⟨m, eM, m1, m2⟩ : ∃ m : Int, (R.bin2 (R.bind (R.cons (.ok (.int 2)) (R.cons (R.bin2 (.ok (.int 10)) (.ok (.int 60)) pPow) (R.cons (R.bin2 (.ok (.int 2)) (R.bin2 (R.bin2 (.ok (D.int c)) (.ok (.int 4)) pDiv) (.ok (.int 1000)) pMod) pAdd) (R.cons (R.bin2 (.ok (.int 2)) (R.bin2 (R.bin2 (.ok (.int c)) (.ok (.int c)) pMul) (R.bin2 (R.bin2 (.ok (.int 10)) (.ok (.int 60)) pPow) (.ok (.int 1)) pSub) pMod) pAdd) (.ok []))))) mkL) (R.bin2 (.ok (.int c)) (.ok (.int 4)) pMod) pIx) = .ok (.int m) ∧ 2 ≤ m ∧ m ≤ 10 ^ 60 := by
    have a1 := Int.emod_nonneg (c / 4) (show (1000 : Int) ≠ 0 by decide)
    have a2 := Int.emod_lt_of_pos (c / 4) (show (0 : Int) < 1000 by decide)
    have a3 := Int.emod_nonneg (c * c) (show (10 ^ 60 - 1 : Int) ≠ 0 by decide)
    have a4 := Int.emod_lt_of_pos (c * c) (show (0 : Int) < 10 ^ 60 - 1 by decide)
    simp only [R.bin2_ok, pDiv_ii (show divOk 4 = true by decide), pMod_ii (show (0 : Int) < 1000 by decide), pMod_ii (show (0 : Int) < 4 by decide), pAdd_ii, p60, pSub_ii, pMul_ii (hbc.mulOk hbc (by decide)), pMod_ii (show (0 : Int) < 10 ^ 60 - 1 by decide), R.cons_ok, R.bind_ok, mkL_4]
    obtain ⟨d, hd, ed⟩ := lit_at (ds := [D.int 2, D.int (10 ^ 60), D.int (2 + c / 4 % 1000), D.int (2 + c * c % (10 ^ 60 - 1))]) (i := c % 4) (Int.emod_nonneg _ (by decide)) (Int.emod_lt_of_pos _ (by decide))
    rw [ed]
    simp only [List.mem_cons, List.not_mem_nil, or_false] at hd
    rcases hd with rfl | rfl | rfl | rfl
    · exact ⟨2, rfl, by omega, by decide⟩
    · exact ⟨10 ^ 60, rfl, by decide, by omega⟩
    · exact ⟨_, rfl, by omega, by omega⟩
    · exact ⟨_, rfl, by omega, by omega⟩
  refine Gv.step eM ?_
  have hT := law_loop_text_ok m1 m2 hL
  have hS := loop_shown_ok m1 m2 hL
  have hR := loop_read_ok m1 m2 hL
  refine Gv.step (a := txD (loopT m rows)) (by rw [R.cons_ok, R.cons_ok, R.bind_ok, hT]) ?_
  refine Gv.step (a := txD (loopT m rows)) ?_ ?_
  · rw [show R.bind (.ok (D.lst (rows.map rowD))) lsOnly = .ok (.lst (rows.map rowD)) from rfl, R.cons_ok, R.cons_ok, R.bind_ok (f := f_Loop___init__), loop_ok hL m1 m2, R.cons_ok, R.bind_ok, hS]
  refine Gv.ite (c := false) ?_ (fun z => absurd z (by decide)) fun _ => ?_
  · rw [R.bin2_ok, ne_tx, decide_eq_true rfl]
    rfl
  refine Gv.step (a := rngL 0 2) (by rw [R.bind_ok]; exact pRange1_ok (n := 2) (by decide)) ?_
  refine Gv.step (a := Go.go ()) (rForX_nx fun y hy => ?_) ?_
  · unfold l_law_1
    rw [R.cons_ok, R.bind_ok (f := f_loop_read), hR, R.bind_ok]
    refine (bind_eq (a := false) ?_).trans ?_
    · have e1 : R.bind (.ok (loopD m rows)) (pFld "Loop" "measure") = .ok (.int m) := rfl
      rw [e1, R.cons_ok, R.bind_ok (f := f_law_whole), whole_int, R.bin2_ok, pNe_ii]
      simp
      rfl
    rw [if_neg (by decide)]
    refine (bind_eq (a := false) ?_).trans rfl
    have e2 : (R.bind (R.bind (.ok (loopD m rows)) (asObj "Loop" "rows")) fun d => f_Loop_rows [d]) = .ok (.lst (rows.map rowD)) := rfl
    rw [e2, R.cons_ok, R.cons_ok, R.bind_ok (f := f_law_rows_right), rows_right_ok]
    rfl
  rw [thn_go]
  refine Gv.eq (a := D.bl true) ?_ rfl
  rw [R.cons_ok, R.bind_ok (f := f_loop_read), hR, R.cons_ok, R.bind_ok, hS, R.bin2_ok, eq_tx, decide_eq_true rfl]
end Lx
set_option maxHeartbeats 0
namespace Lx
open PySem PySem.Spec PyProof.Rows L2 Lw
def fa0 : List He.Fa := [.free "bool",
  .free "enumerate",
  .free "int",
  .free "isinstance",
  .free "len",
  .free "list",
  .free "min",
  .free "range",
  .free "str",
  .free "sum",
  .free "tuple",
  .glo "_law_cell_at",
  .glo "_law_sum_at",
  .glo "_law_words",
  .glo "_law_read",
  .glo "_law_rows",
  .glo "_law_names",
  .glo "_law_loop_text",
  .glo "is_number",
  .glo "read_shown",
  .glo "loop_shown",
  .glo "all_letters",
  .glo "is_name",
  .glo "deed_of",
  .glo "look_at_read"]
def fa1 : List He.Fa := [.glo "look_at_row",
  .glo "is_figures",
  .glo "measure_of",
  .glo "is_word",
  .glo "read_of",
  .glo "row_of",
  .glo "loop_read",
  .glo "_law_whole",
  .glo "_law_rows_right",
  .glo "law",
  .glo "Least",
  .cls "Least",
  .meth "Least" "wants",
  .glo "Less",
  .cls "Less",
  .meth "Less" "wants",
  .glo "Loop",
  .cls "Loop",
  .meth "Loop" "rows",
  .glo "Most",
  .cls "Most",
  .meth "Most" "wants",
  .glo "Pick",
  .cls "Pick",
  .meth "Pick" "wants"]
def fa2 : List He.Fa := [.glo "Same",
  .cls "Same",
  .meth "Same" "wants",
  .glo "Sum",
  .cls "Sum",
  .meth "Sum" "wants",
  .glo "Take",
  .cls "Take",
  .meth "Take" "wants",
  .glo "Tell",
  .cls "Tell",
  .meth "Tell" "wants",
  .glo "Times",
  .cls "Times",
  .meth "Times" "wants",
  .mkr "Loop",
  .glo "BadText",
  .noat "BadText" "row",
  .meth "BadText" "__init__",
  .noat "Loop" "kept_rows",
  .noat "Loop" "measure",
  .glo "BadBack",
  .exc "BadBack",
  .glo "BadCount",
  .exc "BadCount"]
def fa3 : List He.Fa := [.glo "BadName",
  .exc "BadName",
  .glo "BadNumber",
  .exc "BadNumber",
  .glo "BadRows",
  .exc "BadRows",
  .glo "NoDeed",
  .exc "NoDeed",
  .glo "NoMeasure",
  .exc "NoMeasure",
  .glo "NoRow",
  .exc "NoRow",
  .glo "TooEarly",
  .exc "TooEarly",
  .glo "Twice",
  .exc "Twice",
  .str "LETTERS" "abcdefghijklmnopqrstuvwxyz",
  .int "LONGEST" 12,
  .int "MOST_ROWS" 12,
  .int "MOST_BACK" 6,
  .str "FIGURES" "0123456789",
  .int "MOST_FIGURES" 61]
def fa : List He.Fa := fa0 ++ (fa1 ++ (fa2 ++ (fa3)))
def fn0 : List He.DefD := [⟨("_law_cell_at", none), "_law_cell_at", "_law_cell_at", defArgs (top 50), defBody (top 50), defScope (top 50), [], []⟩,
  ⟨("_law_sum_at", none), "_law_sum_at", "_law_sum_at", defArgs (top 53), defBody (top 53), defScope (top 53), [], []⟩,
  ⟨("_law_words", none), "_law_words", "_law_words", defArgs (top 52), defBody (top 52), defScope (top 52), [], []⟩,
  ⟨("_law_read", none), "_law_read", "_law_read", defArgs (top 55), defBody (top 55), defScope (top 55), [], []⟩,
  ⟨("_law_rows", none), "_law_rows", "_law_rows", defArgs (top 56), defBody (top 56), defScope (top 56), [], []⟩,
  ⟨("_law_names", none), "_law_names", "_law_names", defArgs (top 54), defBody (top 54), defScope (top 54), [], []⟩,
  ⟨("_law_loop_text", none), "_law_loop_text", "_law_loop_text", defArgs (top 57), defBody (top 57), defScope (top 57), [], []⟩,
  ⟨("is_number", none), "is_number", "is_number", defArgs (top 34), defBody (top 34), defScope (top 34), [], []⟩,
  ⟨("read_shown", none), "read_shown", "read_shown", defArgs (top 41), defBody (top 41), defScope (top 41), [], []⟩,
  ⟨("loop_shown", none), "loop_shown", "loop_shown", defArgs (top 42), defBody (top 42), defScope (top 42), [], []⟩,
  ⟨("all_letters", none), "all_letters", "all_letters", defArgs (top 29), defBody (top 29), defScope (top 29), [], []⟩,
  ⟨("is_name", none), "is_name", "is_name", defArgs (top 30), defBody (top 30), defScope (top 30), [], []⟩,
  ⟨("deed_of", none), "deed_of", "deed_of", defArgs (top 25), defBody (top 25), defScope (top 25), [], []⟩,
  ⟨("look_at_read", none), "look_at_read", "look_at_read", defArgs (top 35), defBody (top 35), defScope (top 35), [], []⟩,
  ⟨("look_at_row", none), "look_at_row", "look_at_row", defArgs (top 36), defBody (top 36), defScope (top 36), [], []⟩,
  ⟨("is_figures", none), "is_figures", "is_figures", defArgs (top 43), defBody (top 43), defScope (top 43), [], []⟩,
  ⟨("measure_of", none), "measure_of", "measure_of", defArgs (top 46), defBody (top 46), defScope (top 46), [], []⟩,
  ⟨("is_word", none), "is_word", "is_word", defArgs (top 44), defBody (top 44), defScope (top 44), [], []⟩,
  ⟨("read_of", none), "read_of", "read_of", defArgs (top 45), defBody (top 45), defScope (top 45), [], []⟩,
  ⟨("row_of", none), "row_of", "row_of", defArgs (top 47), defBody (top 47), defScope (top 47), [], []⟩,
  ⟨("loop_read", none), "loop_read", "loop_read", defArgs (top 48), defBody (top 48), defScope (top 48), [], []⟩,
  ⟨("_law_whole", none), "_law_whole", "_law_whole", defArgs (top 51), defBody (top 51), defScope (top 51), [], []⟩,
  ⟨("_law_rows_right", none), "_law_rows_right", "_law_rows_right", defArgs (top 58), defBody (top 58), defScope (top 58), [], []⟩,
  ⟨("law", none), "law", "law", defArgs (top 59), defBody (top 59), defScope (top 59), [], []⟩,
  ⟨("Least", some "wants"), "wants", "Deed.wants", defArgs (inCls (top 15) 0), defBody (inCls (top 15) 0), defScope (inCls (top 15) 0), [], []⟩]
def fn1 : List He.DefD := [⟨("Less", some "wants"), "wants", "Deed.wants", defArgs (inCls (top 15) 0), defBody (inCls (top 15) 0), defScope (inCls (top 15) 0), [], []⟩,
  ⟨("Loop", some "rows"), "rows", "Loop.rows", defArgs (inCls (top 37) 1), defBody (inCls (top 37) 1), defScope (inCls (top 37) 1), [], []⟩,
  ⟨("Most", some "wants"), "wants", "Deed.wants", defArgs (inCls (top 15) 0), defBody (inCls (top 15) 0), defScope (inCls (top 15) 0), [], []⟩,
  ⟨("Pick", some "wants"), "wants", "Pick.wants", defArgs (inCls (top 21) 0), defBody (inCls (top 21) 0), defScope (inCls (top 21) 0), [], []⟩,
  ⟨("Same", some "wants"), "wants", "Same.wants", defArgs (inCls (top 22) 0), defBody (inCls (top 22) 0), defScope (inCls (top 22) 0), [], []⟩,
  ⟨("Sum", some "wants"), "wants", "Deed.wants", defArgs (inCls (top 15) 0), defBody (inCls (top 15) 0), defScope (inCls (top 15) 0), [], []⟩,
  ⟨("Take", some "wants"), "wants", "Take.wants", defArgs (inCls (top 24) 0), defBody (inCls (top 24) 0), defScope (inCls (top 24) 0), [], []⟩,
  ⟨("Tell", some "wants"), "wants", "Tell.wants", defArgs (inCls (top 23) 0), defBody (inCls (top 23) 0), defScope (inCls (top 23) 0), [], []⟩,
  ⟨("Times", some "wants"), "wants", "Deed.wants", defArgs (inCls (top 15) 0), defBody (inCls (top 15) 0), defScope (inCls (top 15) 0), [], []⟩,
  ⟨("Loop", some "__init__"), "__init__", "Loop.__init__", defArgs (inCls (top 37) 0), defBody (inCls (top 37) 0), defScope (inCls (top 37) 0), [], []⟩,
  ⟨("BadText", some "__init__"), "__init__", "BadText.__init__", defArgs (inCls (top 13) 0), defBody (inCls (top 13) 0), defScope (inCls (top 13) 0), [], []⟩]
def fn : List He.DefD := fn0 ++ (fn1)
def cks0 : List Ck := [.mk0 "Least",
  .mk0 "Less",
  .mk0 "Most",
  .mk0 "Pick",
  .mk0 "Same",
  .mk0 "Sum",
  .mk0 "Take",
  .mk0 "Tell",
  .mk0 "Times",
  .isI "Loop" isI_Loop,
  .oex "BadText",
  .leb "LapError"]
def cks : List Ck := cks0
def ex (K : PySem.W.Frag) : Bool := cks.all fun c => c.ok K
def nm0 : List Str := ["_wall", "LapError", "NoDeed", "NoMeasure", "BadRows", "BadName", "Twice", "BadCount", "BadNumber", "NoRow", "BadBack", "TooEarly", "BadText", "Deed", "Sum", "Less", "Times", "Least", "Most", "Pick", "Same", "Tell", "Take", "deed_of", "LETTERS"]
def nm1 : List Str := ["LONGEST", "all_letters", "is_name", "MOST_ROWS", "MOST_BACK", "is_number", "look_at_read", "look_at_row", "Loop", "FIGURES", "MOST_FIGURES", "read_shown", "loop_shown", "is_figures", "is_word", "read_of", "measure_of", "row_of", "loop_read", "_law_cell_at", "_law_whole", "_law_words", "_law_sum_at", "_law_names", "_law_read"]
def nm2 : List Str := ["_law_rows", "_law_loop_text", "_law_rows_right"]
def nm : List Str := nm0 ++ (nm1 ++ (nm2))
abbrev Rw : PySem.W.OpenRow := PySem.W.OpenLaw.row PySem.Challenge.rw_lapwork_k71_loops_shown_and_read
abbrev hk : PySem.W.Hook := hookL fa fn ex
def ob (s : PySem.W.SharedT) : AlL := obsLG fa fn ex (HandSHeadRun.getT s)
theorem ob_eq (s : PySem.W.SharedT) : ob s = hk.obs s.abs := obsLG_eq (HandSHeadRun.getT_eq s)
theorem run (w : World) : HandSHeadRun.RunEq Rw (PySem.W.view Rw.prog [59]) hk ob 100000 nm w := by
  intro os
  kernel_rfl
theorem ctx {K : PySem.W.Frag} {h : Heap} {mg : Str → Option Value} (X : K.In h) (G : h.Ns mainGlobals mg) (c : SaysL fa fn ex K) : Ctx K mg where
  f_bool := He.free_ok X G (c.fa 0)
  f_enumerate := He.free_ok X G (c.fa 1)
  f_int := He.free_ok X G (c.fa 2)
  f_isinstance := He.free_ok X G (c.fa 3)
  f_len := He.free_ok X G (c.fa 4)
  f_list := He.free_ok X G (c.fa 5)
  f_min := He.free_ok X G (c.fa 6)
  f_range := He.free_ok X G (c.fa 7)
  f_str := He.free_ok X G (c.fa 8)
  f_sum := He.free_ok X G (c.fa 9)
  f_tuple := He.free_ok X G (c.fa 10)
  d_law_cell_at := by
    obtain ⟨fd, F⟩ := c.fn 0
    exact ⟨_, fd, He.glo_ok X G (c.fa 11), F⟩
  d_law_sum_at := by
    obtain ⟨fd, F⟩ := c.fn 1
    exact ⟨_, fd, He.glo_ok X G (c.fa 12), F⟩
  d_law_words := by
    obtain ⟨fd, F⟩ := c.fn 2
    exact ⟨_, fd, He.glo_ok X G (c.fa 13), F⟩
  d_law_read := by
    obtain ⟨fd, F⟩ := c.fn 3
    exact ⟨_, fd, He.glo_ok X G (c.fa 14), F⟩
  d_law_rows := by
    obtain ⟨fd, F⟩ := c.fn 4
    exact ⟨_, fd, He.glo_ok X G (c.fa 15), F⟩
  d_law_names := by
    obtain ⟨fd, F⟩ := c.fn 5
    exact ⟨_, fd, He.glo_ok X G (c.fa 16), F⟩
  d_law_loop_text := by
    obtain ⟨fd, F⟩ := c.fn 6
    exact ⟨_, fd, He.glo_ok X G (c.fa 17), F⟩
  d_is_number := by
    obtain ⟨fd, F⟩ := c.fn 7
    exact ⟨_, fd, He.glo_ok X G (c.fa 18), F⟩
  d_read_shown := by
    obtain ⟨fd, F⟩ := c.fn 8
    exact ⟨_, fd, He.glo_ok X G (c.fa 19), F⟩
  d_loop_shown := by
    obtain ⟨fd, F⟩ := c.fn 9
    exact ⟨_, fd, He.glo_ok X G (c.fa 20), F⟩
  d_all_letters := by
    obtain ⟨fd, F⟩ := c.fn 10
    exact ⟨_, fd, He.glo_ok X G (c.fa 21), F⟩
  d_is_name := by
    obtain ⟨fd, F⟩ := c.fn 11
    exact ⟨_, fd, He.glo_ok X G (c.fa 22), F⟩
  d_deed_of := by
    obtain ⟨fd, F⟩ := c.fn 12
    exact ⟨_, fd, He.glo_ok X G (c.fa 23), F⟩
  d_look_at_read := by
    obtain ⟨fd, F⟩ := c.fn 13
    exact ⟨_, fd, He.glo_ok X G (c.fa 24), F⟩
  d_look_at_row := by
    obtain ⟨fd, F⟩ := c.fn 14
    exact ⟨_, fd, He.glo_ok X G (c.fa 25), F⟩
  d_is_figures := by
    obtain ⟨fd, F⟩ := c.fn 15
    exact ⟨_, fd, He.glo_ok X G (c.fa 26), F⟩
  d_measure_of := by
    obtain ⟨fd, F⟩ := c.fn 16
    exact ⟨_, fd, He.glo_ok X G (c.fa 27), F⟩
  d_is_word := by
    obtain ⟨fd, F⟩ := c.fn 17
    exact ⟨_, fd, He.glo_ok X G (c.fa 28), F⟩
  d_read_of := by
    obtain ⟨fd, F⟩ := c.fn 18
    exact ⟨_, fd, He.glo_ok X G (c.fa 29), F⟩
  d_row_of := by
    obtain ⟨fd, F⟩ := c.fn 19
    exact ⟨_, fd, He.glo_ok X G (c.fa 30), F⟩
  d_loop_read := by
    obtain ⟨fd, F⟩ := c.fn 20
    exact ⟨_, fd, He.glo_ok X G (c.fa 31), F⟩
  d_law_whole := by
    obtain ⟨fd, F⟩ := c.fn 21
    exact ⟨_, fd, He.glo_ok X G (c.fa 32), F⟩
  d_law_rows_right := by
    obtain ⟨fd, F⟩ := c.fn 22
    exact ⟨_, fd, He.glo_ok X G (c.fa 33), F⟩
  d_law := by
    obtain ⟨fd, F⟩ := c.fn 23
    exact ⟨_, fd, He.glo_ok X G (c.fa 34), F⟩
  e_Least_wants := by
    obtain ⟨fd, F⟩ := c.fn 24
    exact ⟨_, _, fd, He.glo_ok X G (c.fa 35), He.cls_ok (c.fa 36), He.meth_ok (c.fa 37), F⟩
  e_Less_wants := by
    obtain ⟨fd, F⟩ := c.fn 25
    exact ⟨_, _, fd, He.glo_ok X G (c.fa 38), He.cls_ok (c.fa 39), He.meth_ok (c.fa 40), F⟩
  e_Loop_rows := by
    obtain ⟨fd, F⟩ := c.fn 26
    exact ⟨_, _, fd, He.glo_ok X G (c.fa 41), He.cls_ok (c.fa 42), He.meth_ok (c.fa 43), F⟩
  e_Most_wants := by
    obtain ⟨fd, F⟩ := c.fn 27
    exact ⟨_, _, fd, He.glo_ok X G (c.fa 44), He.cls_ok (c.fa 45), He.meth_ok (c.fa 46), F⟩
  e_Pick_wants := by
    obtain ⟨fd, F⟩ := c.fn 28
    exact ⟨_, _, fd, He.glo_ok X G (c.fa 47), He.cls_ok (c.fa 48), He.meth_ok (c.fa 49), F⟩
  e_Same_wants := by
    obtain ⟨fd, F⟩ := c.fn 29
    exact ⟨_, _, fd, He.glo_ok X G (c.fa 50), He.cls_ok (c.fa 51), He.meth_ok (c.fa 52), F⟩
  e_Sum_wants := by
    obtain ⟨fd, F⟩ := c.fn 30
    exact ⟨_, _, fd, He.glo_ok X G (c.fa 53), He.cls_ok (c.fa 54), He.meth_ok (c.fa 55), F⟩
  e_Take_wants := by
    obtain ⟨fd, F⟩ := c.fn 31
    exact ⟨_, _, fd, He.glo_ok X G (c.fa 56), He.cls_ok (c.fa 57), He.meth_ok (c.fa 58), F⟩
  e_Tell_wants := by
    obtain ⟨fd, F⟩ := c.fn 32
    exact ⟨_, _, fd, He.glo_ok X G (c.fa 59), He.cls_ok (c.fa 60), He.meth_ok (c.fa 61), F⟩
  e_Times_wants := by
    obtain ⟨fd, F⟩ := c.fn 33
    exact ⟨_, _, fd, He.glo_ok X G (c.fa 62), He.cls_ok (c.fa 63), He.meth_ok (c.fa 64), F⟩
  m_Least := Ck.mk0_ok X G (c.ck 0)
  m_Less := Ck.mk0_ok X G (c.ck 1)
  m_Most := Ck.mk0_ok X G (c.ck 2)
  m_Pick := Ck.mk0_ok X G (c.ck 3)
  m_Same := Ck.mk0_ok X G (c.ck 4)
  m_Sum := Ck.mk0_ok X G (c.ck 5)
  m_Take := Ck.mk0_ok X G (c.ck 6)
  m_Tell := Ck.mk0_ok X G (c.ck 7)
  m_Times := Ck.mk0_ok X G (c.ck 8)
  iI_Loop := Ck.isI_ok X G (c.ck 9)
  mi_Loop := by
    obtain ⟨fd, F⟩ := c.fn 34
    exact ⟨_, _, fd, He.glo_ok X G (c.fa 41), He.mkr_ok (c.fa 65), F⟩
  mx_BadText := by
    obtain ⟨fd, F⟩ := c.fn 35
    exact ⟨_, _, fd, He.glo_ok X G (c.fa 66), Ck.oex_ok (c.ck 10), He.noat_ok (c.fa 67), He.meth_ok (c.fa 68), F⟩
  lb_LapError := Ck.leb_ok X G (c.ck 11)
  fl_Loop_kept_rows := ⟨_, He.glo_ok X G (c.fa 41), He.cls_ok (c.fa 42), He.noat_ok (c.fa 69)⟩
  fl_Loop_measure := ⟨_, He.glo_ok X G (c.fa 41), He.cls_ok (c.fa 42), He.noat_ok (c.fa 70)⟩
  x_BadBack := exc_ok X G (c.fa 71) (c.fa 72)
  x_BadCount := exc_ok X G (c.fa 73) (c.fa 74)
  x_BadName := exc_ok X G (c.fa 75) (c.fa 76)
  x_BadNumber := exc_ok X G (c.fa 77) (c.fa 78)
  x_BadRows := exc_ok X G (c.fa 79) (c.fa 80)
  x_NoDeed := exc_ok X G (c.fa 81) (c.fa 82)
  x_NoMeasure := exc_ok X G (c.fa 83) (c.fa 84)
  x_NoRow := exc_ok X G (c.fa 85) (c.fa 86)
  x_TooEarly := exc_ok X G (c.fa 87) (c.fa 88)
  x_Twice := exc_ok X G (c.fa 89) (c.fa 90)
  g_LETTERS := He.str_ok X G (c.fa 91)
  g_LONGEST := He.int_ok X G (c.fa 92)
  g_MOST_ROWS := He.int_ok X G (c.fa 93)
  g_MOST_BACK := He.int_ok X G (c.fa 94)
  g_FIGURES := He.str_ok X G (c.fa 95)
  g_MOST_FIGURES := He.int_ok X G (c.fa 96)
end Lx
open PySem PySem.W PySem.Calls PyProof.Rows
theorem PySem.Challenge.cw_lapwork_k71_loops_shown_and_read_holds : PySem.Challenge.rw_lapwork_k71_loops_shown_and_read.Holds := by
  w_on; o_law
  refine HandSHeadRun.head_any (r := OpenLaw.row PySem.Challenge.rw_lapwork_k71_loops_shown_and_read) (q := view (OpenLaw.row PySem.Challenge.rw_lapwork_k71_loops_shown_and_read).prog [59]) (H := Lx.hk) (ob := Lx.ob) (M := 100000) (loose := Lx.nm) (d := HandSHeadRun.topDef (OpenLaw.row PySem.Challenge.rw_lapwork_k71_loops_shown_and_read).prog 59) (kwd := []) Lx.ob_eq
    (by kernel_rfl) (fun s => by kernel_rfl) Lx.run (by kernel_rfl) (by kernel_rfl) (by kernel_rfl) (by rfl) (by first | assumption | decide +kernel) (by decide +kernel) ⟨rfl, rfl, rfl, rfl, rfl, by decide +kernel⟩ ?hw ?hc
  case hw => w_witness2
  case hc =>
    refine Lw.walk_end (l := PySem.Challenge.rw_lapwork_k71_loops_shown_and_read) (k := 7) (x := "_law_script") rfl (by kernel_rfl) ⟨rfl, by decide, by decide⟩ (fun w mg fa h c G hg => ?_)
    obtain ⟨K, KX, c⟩ := c
    obtain ⟨fa2, fd, e, hb, hF⟩ := Lx.fd_law (Lx.ctx KX G c)
    exact ⟨K, Lx.f_law, fa2, fd, KX, Lw.same_fa (by kernel_rfl) hg e, hb, fun base => hF _ w base, Lx.law_true⟩
