import PyProof.Rows.All
import Wide.All
import OpenK.AllK
import Wide.FinOn
import HandS.ForMost
import HandS.ForExc
import HandS.Spec
import HandS.Lambda
import HandS.TupAny
import HandS.TupMul
import HandS.Style
import HandS.IsInst
import HandS.ExcInit
import HandS.RaiseMore
import HandS.CallSlots
import HandS.StrMore
import HandS.Replace
import HandS.More
import HandS.Wide
import HandS.Deep
import HandS.Conv
import HandS.Flt
import HandS.ReplaceLit
import HandS.Codes
import HandS.HotCalls
import HandS.ExcField
import KE.KExcIs
import HandS.EndTab
import PySem.Challenge.RW_flowshifts_k75_whole_questions
set_option Elab.async false
set_option linter.all false
set_option maxRecDepth 100000
set_option maxHeartbeats 1000000
namespace VS
open PySem PySem.Spec PyProof.Rows L2
abbrev St := L2.St
abbrev Frag := PySem.W.Frag

/-! ### frozen values, owned objects, slots -/
inductive PV where
  | non | bl (b : Bool) | int (i : Int) | str (x : Str) | ty (n : String) | glob (x : Str)
  | tup (xs : List PV) | lst (xs : List PV) | sq (xs : List PV)
  | ins (C : Str) (ks : List Str) (vs : List PV)
  | dic (ks : List Key) (vs : List PV)
  | exc (a : Addr) (d : Option Addr) (C : Str) (ks : List Str) (vs : List PV)
  deriving Inhabited
inductive OV where
  | lst (xs : List PV)
  | rows (xs : List (List PV))
  | dic (ks : List Key) (vs : List PV)
  | ins (C : Str) (ks : List Str) (vs : List PV)
inductive Sl where
  | no | fr (p : PV) | ow (o : OV)
abbrev PEnv := List Sl
/-- an exception: its class's name, its fields -/
structure Exn where
  C : Str
  ks : List Str
  vs : List PV
inductive Res (α : Type) where
  | ok (a : α) (ρ : PEnv) | err (x : Exn) (ρ : PEnv) | bad
abbrev M (α : Type) := PEnv → Res α
def M.bind {α β : Type} (m : M α) (k : α → M β) : M β := fun ρ => match m ρ with
  | .ok a ρ' => k a ρ'
  | .err x ρ' => .err x ρ'
  | .bad => .bad
def M.pure {α : Type} (a : α) : M α := fun ρ => .ok a ρ
def M.lift {α : Type} (o : Option α) : M α := fun ρ => match o with
  | some a => .ok a ρ
  | none => .bad

section
variable (K : Frag) (mg : Str → Option Value) (G : Hp)
mutual
def Rep : PV → V → Prop
  | .non, v => v = .non
  | .bl b, v => v = .bl b
  | .int i, v => v = .int i
  | .str x, v => v = .str x
  | .ty n, v => v = .ty n
  | .glob x, v => ∃ f, mg x = some (.ref f) ∧ v = .ref f
  | .tup ps, v => ∃ a vs, v = .ref a ∧ SqT K G a vs ∧ Reps ps vs
  | .lst ps, v => ∃ a vs, v = .ref a ∧ G a = some (.lst vs) ∧ Reps ps vs
  | .sq ps, v => ∃ a vs, v = .ref a ∧ SqL K G a vs ∧ Reps ps vs
  | .ins C ks ps, v => ∃ a c dx fs, v = .ref a ∧ mg C = some (.ref c) ∧ G a = some (.ins c dx fs) ∧ fs.map (·.1) = ks ∧ Reps ps (fs.map (·.2))
  | .dic ks ps, v => ∃ a kvs, v = .ref a ∧ G a = some (.dK kvs) ∧ kvs.map (·.1) = ks ∧ Reps ps (kvs.map (·.2))
  | .exc a d C ks ps, v => v = .ref a ∧ ∃ c, mg C = some (.ref c) ∧ ((ks = [] ∧ d = none) ∨ ∃ dd fs, d = some dd ∧ G dd = some (.xd fs) ∧ fs.map (·.1) = ks ∧ Reps ps (fs.map (·.2)))
def Reps : List PV → List V → Prop
  | [], vs => vs = []
  | p :: ps, vs => ∃ v r, vs = v :: r ∧ Rep p v ∧ Reps ps r
end
def RepX (x : Exn) (cls : Value) (d : Option Addr) : Prop := ∃ c, mg x.C = some (.ref c) ∧ cls = .ref c ∧
  ((x.ks = [] ∧ x.vs = [] ∧ d = none) ∨ ∃ dd fs, d = some dd ∧ G dd = some (.xd fs) ∧ fs.map (·.1) = x.ks ∧ Reps K mg G x.vs (fs.map (·.2)))
variable (H : Hp)
/-- inner lists of rows, each owned; S: the places -/
inductive Rows : List (List PV) → List V → (Addr → Prop) → Prop
  | nil {S : Addr → Prop} (h : ∀ x, ¬ S x) : Rows [] [] S
  | cons {ps : List PV} {rs : List (List PV)} {a : Addr} {vs : List V} {ws : List V} {S S' : Addr → Prop} (hG : G a = none) (hH : H a = some (.lst vs)) (hr : Reps K mg G ps vs) (ht : Rows rs ws S)
      (hn : ¬ S a) (hS : ∀ x, S' x ↔ x = a ∨ S x) : Rows (ps :: rs) (.ref a :: ws) S'
def Own : OV → Addr → (Addr → Prop) → Prop
  | .lst ps, a, S => (∀ x, S x ↔ x = a) ∧ G a = none ∧ ∃ vs, H a = some (.lst vs) ∧ Reps K mg G ps vs
  | .dic ks ps, a, S => (∀ x, S x ↔ x = a) ∧ G a = none ∧ ∃ kvs, H a = some (.dK kvs) ∧ kvs.map (·.1) = ks ∧ Reps K mg G ps (kvs.map (·.2))
  | .ins C ks ps, a, S => (∀ x, S x ↔ x = a) ∧ G a = none ∧ ∃ c dx fs, mg C = some (.ref c) ∧ H a = some (.ins c dx fs) ∧ fs.map (·.1) = ks ∧ Reps K mg G ps (fs.map (·.2))
  | .rows rs, a, S => G a = none ∧ ∃ vs S0, H a = some (.lst vs) ∧ Rows K mg G H rs vs S0 ∧ ¬ S0 a ∧ ∀ x, S x ↔ x = a ∨ S0 x
end

/-! ### monotonicity -/
def Sub (G H : Hp) : Prop := ∀ a o, G a = some o → H a = some o
theorem Sub.refl (G : Hp) : Sub G G := fun _ _ h => h
theorem Sub.trans {G G1 G2 : Hp} (h : Sub G G1) (h1 : Sub G1 G2) : Sub G G2 := fun a o e => h1 a o (h a o e)
theorem Sub.rd {G G' : Hp} (h : Sub G G') {a : Addr} {u : HO} (r : Rd G a u) : Rd G' a u := r.elim (fun e => .inl (h _ _ e)) fun ⟨o, e⟩ => .inr ⟨o, h _ _ e⟩
theorem Sub.sqL {K : Frag} {G G' : Hp} (h : Sub G G') {a : Addr} {xs : List V} (r : SqL K G a xs) : SqL K G' a xs := r.elim (fun e => .inl (h.rd e)) .inr
theorem Sub.sqT {K : Frag} {G G' : Hp} (h : Sub G G') {a : Addr} {xs : List V} (r : SqT K G a xs) : SqT K G' a xs := r.elim (fun e => .inl (h.rd e)) .inr
section
variable {K : Frag} {mg : Str → Option Value} {G G' : Hp}
mutual
theorem Rep.mono (h : Sub G G') : ∀ {p : PV} {v : V}, Rep K mg G p v → Rep K mg G' p v
  | .non, _, r => r
  | .bl _, _, r => r
  | .int _, _, r => r
  | .str _, _, r => r
  | .ty _, _, r => r
  | .glob _, _, r => r
  | .tup ps, _, ⟨a, vs, e, q, r⟩ => ⟨a, vs, e, h.sqT q, Reps.mono h r⟩
  | .lst ps, _, ⟨a, vs, e, q, r⟩ => ⟨a, vs, e, h _ _ q, Reps.mono h r⟩
  | .sq ps, _, ⟨a, vs, e, q, r⟩ => ⟨a, vs, e, h.sqL q, Reps.mono h r⟩
  | .ins C ks ps, _, ⟨a, c, dx, fs, e, m, q, k, r⟩ => ⟨a, c, dx, fs, e, m, h _ _ q, k, Reps.mono h r⟩
  | .dic ks ps, _, ⟨a, kvs, e, q, k, r⟩ => ⟨a, kvs, e, h _ _ q, k, Reps.mono h r⟩
  | .exc a d C ks ps, _, ⟨e, c, m, .inl z⟩ => ⟨e, c, m, .inl z⟩
  | .exc a d C ks ps, _, ⟨e, c, m, .inr ⟨dd, fs, e1, e2, e3, r⟩⟩ => ⟨e, c, m, .inr ⟨dd, fs, e1, h _ _ e2, e3, Reps.mono h r⟩⟩
theorem Reps.mono (h : Sub G G') : ∀ {ps : List PV} {vs : List V}, Reps K mg G ps vs → Reps K mg G' ps vs
  | [], _, r => r
  | p :: ps, _, ⟨v, rr, e, r1, r2⟩ => ⟨v, rr, e, Rep.mono h r1, Reps.mono h r2⟩
end
theorem Reps.length : ∀ {ps : List PV} {vs : List V}, Reps K mg G ps vs → ps.length = vs.length
  | [], _, r => by cases r; rfl
  | p :: ps, _, ⟨v, rr, e, r1, r2⟩ => by subst e; simp [Reps.length r2]
theorem Reps.get : ∀ {ps : List PV} {vs : List V} {i : Nat} {p : PV}, Reps K mg G ps vs → ps[i]? = some p → ∃ v, vs[i]? = some v ∧ Rep K mg G p v
  | [], _, _, _, _, e => by simp at e
  | p :: ps, _, 0, q, ⟨v, rr, e, r1, r2⟩, h => by subst e; simp at h; subst h; exact ⟨v, rfl, r1⟩
  | p :: ps, _, i + 1, q, ⟨v, rr, e, r1, r2⟩, h => by
    subst e
    obtain ⟨u, h1, h2⟩ := Reps.get (i := i) r2 (by simpa using h)
    exact ⟨u, by simpa using h1, h2⟩
theorem Reps.get' : ∀ {ps : List PV} {vs : List V} {i : Nat} {v : V}, Reps K mg G ps vs → vs[i]? = some v → ∃ p, ps[i]? = some p ∧ Rep K mg G p v
  | [], _, _, _, r, e => by cases r; simp at e
  | p :: ps, _, 0, q, ⟨v, rr, e, r1, r2⟩, h => by subst e; simp at h; subst h; exact ⟨p, rfl, r1⟩
  | p :: ps, _, i + 1, q, ⟨v, rr, e, r1, r2⟩, h => by
    subst e
    obtain ⟨u, h1, h2⟩ := Reps.get' (i := i) r2 (by simpa using h)
    exact ⟨u, by simpa using h1, h2⟩
theorem Reps.append : ∀ {ps qs : List PV} {vs ws : List V}, Reps K mg G ps vs → Reps K mg G qs ws → Reps K mg G (ps ++ qs) (vs ++ ws)
  | [], _, _, _, r, s => by cases r; exact s
  | p :: ps, qs, _, _, ⟨v, rr, e, r1, r2⟩, s => by subst e; exact ⟨v, _, rfl, r1, Reps.append r2 s⟩
theorem Reps.take : ∀ {ps : List PV} {vs : List V} (n : Nat), Reps K mg G ps vs → Reps K mg G (ps.take n) (vs.take n)
  | [], _, n, r => by cases r; simp [Reps]
  | p :: ps, _, 0, r => by simp [Reps]
  | p :: ps, _, n + 1, ⟨v, rr, e, r1, r2⟩ => by subst e; exact ⟨v, _, rfl, r1, Reps.take n r2⟩
theorem Reps.drop : ∀ {ps : List PV} {vs : List V} (n : Nat), Reps K mg G ps vs → Reps K mg G (ps.drop n) (vs.drop n)
  | [], _, n, r => by cases r; simp [Reps]
  | p :: ps, _, 0, r => r
  | p :: ps, _, n + 1, ⟨v, rr, e, r1, r2⟩ => by subst e; exact Reps.drop n r2
theorem Reps.set : ∀ {ps : List PV} {vs : List V} (i : Nat) {p : PV} {v : V}, Rep K mg G p v → Reps K mg G ps vs → Reps K mg G (ps.set i p) (vs.set i v)
  | [], _, _, _, _, _, s => by cases s; rfl
  | q :: ps, _, 0, _, _, r, ⟨v, rr, e, r1, r2⟩ => by subst e; exact ⟨_, _, rfl, r, r2⟩
  | q :: ps, _, i + 1, _, _, r, ⟨v, rr, e, r1, r2⟩ => by subst e; exact ⟨_, _, rfl, r1, Reps.set i r r2⟩
theorem Reps.dropLast {ps : List PV} {vs : List V} (r : Reps K mg G ps vs) : Reps K mg G ps.dropLast vs.dropLast := by
  rw [List.dropLast_eq_take, List.dropLast_eq_take, ← r.length]; exact r.take _
theorem Reps.one {p : PV} {v : V} (r : Rep K mg G p v) : Reps K mg G [p] [v] := ⟨v, [], rfl, r, rfl⟩
theorem Reps.nil : Reps K mg G [] [] := rfl
theorem Reps.cons {p : PV} {v : V} {ps : List PV} {vs : List V} (r : Rep K mg G p v) (s : Reps K mg G ps vs) : Reps K mg G (p :: ps) (v :: vs) := ⟨v, vs, rfl, r, s⟩
theorem Reps.reverse : ∀ {ps : List PV} {vs : List V}, Reps K mg G ps vs → Reps K mg G ps.reverse vs.reverse
  | [], _, r => by cases r; rfl
  | p :: ps, _, ⟨v, rr, e, r1, r2⟩ => by subst e; rw [List.reverse_cons, List.reverse_cons]; exact (Reps.reverse r2).append (Reps.one r1)
theorem RepX.mono (h : Sub G G') {x : Exn} {cls : Value} {d : Option Addr} (r : RepX K mg G x cls d) : RepX K mg G' x cls d := by
  obtain ⟨c, m, e, r⟩ := r
  refine ⟨c, m, e, ?_⟩
  rcases r with r | ⟨dd, fs, e1, e2, e3, e4⟩
  · exact .inl r
  · exact .inr ⟨dd, fs, e1, h _ _ e2, e3, e4.mono h⟩
end

/-! ### worlds -/
def NT (o : HO) : Prop := ∀ ps, o ≠ .tbl ps
structure Wo where
  G : Hp
  H : Hp
  S : Addr → Prop
structure Ext (w w' : Wo) : Prop where
  g : Sub w.G w'.G
  h : ∀ a o, w.H a = some o → ¬ w.S a → NT o → w'.H a = some o
  dom : ∀ a o, w.H a = some o → ∃ o', w'.H a = some o'
  ng : ∀ a o, w'.G a = some o → w.G a = some o ∨ w.S a ∨ w.H a = none
  ns : ∀ a, w'.S a → w.S a ∨ w.H a = none
theorem Ext.refl (w : Wo) : Ext w w := ⟨Sub.refl _, fun _ _ h _ _ => h, fun _ _ h => ⟨_, h⟩, fun _ _ h => .inl h, fun _ h => .inl h⟩
theorem none_of {H H' : Hp} {a : Addr} (h : ∀ o, H a = some o → ∃ o', H' a = some o') (n : H' a = none) : H a = none := by
  cases e : H a with
  | none => rfl
  | some o => obtain ⟨o', e'⟩ := h o e; rw [n] at e'; cases e'
theorem Ext.trans {w w1 w2 : Wo} (a : Ext w w1) (b : Ext w1 w2) : Ext w w2 := by
  have dn : ∀ {x}, w1.H x = none → w.H x = none := fun n => none_of (a.dom _) n
  refine ⟨a.g.trans b.g, fun x o h hs hn => ?_, fun x o h => ?_, fun x o h => ?_, fun x h => ?_⟩
  · refine b.h x o (a.h x o h hs hn) (fun z => ?_) hn
    rcases a.ns x z with q | q
    · exact hs q
    · rw [h] at q; cases q
  · obtain ⟨o1, h1⟩ := a.dom x o h
    exact b.dom x o1 h1
  · rcases b.ng x o h with q | q | q
    · exact a.ng x o q
    · exact .inr (a.ns x q)
    · exact .inr (.inr (dn q))
  · rcases b.ns x h with q | q
    · exact a.ns x q
    · exact .inr (dn q)
section
variable (K : Frag) (mg : Str → Option Value) (T : List (Addr × Str))
structure Ev (w : Wo) (σ : St) (ρ : PEnv) : Prop where
  sub : Sub w.G w.H
  nt : ∀ a o, w.G a = some o → NT o
  sn : ∀ a, w.S a → ∃ o, w.H a = some o ∧ NT o
  tab : LamX.Tabs T w.H
  len : σ.length = ρ.length
  fr : ∀ (i : Nat) p, ρ[i]? = some (.fr p) → ∃ v, σ[i]? = some (some v) ∧ Rep K mg w.G p v
  ex : ∃ F : Nat → Addr → Prop, (∀ x, w.S x ↔ ∃ i, F i x) ∧ (∀ (i : Nat) o, ρ[i]? = some (.ow o) → ∃ a, σ[i]? = some (some (.ref a)) ∧ Own K mg w.G w.H o a (F i)) ∧
    (∀ i j x, F i x → F j x → i = j) ∧ (∀ (i : Nat) x, F i x → ∃ o, ρ[i]? = some (.ow o))
end
section
variable {K : Frag} {mg : Str → Option Value} {T : List (Addr × Str)} {G G' H H' : Hp} {w w' : Wo} {σ : St} {ρ : PEnv}
theorem Rows.mono (hg : Sub G G') : ∀ {rs : List (List PV)} {vs : List V} {S : Addr → Prop}, Rows K mg G H rs vs S → (∀ x, S x → G' x = none) → (∀ x o, S x → H x = some o → H' x = some o) → Rows K mg G' H' rs vs S
  | _, _, _, .nil h, _, _ => .nil h
  | _, _, _, .cons hG hH hr ht hn hS, z, k => .cons (z _ ((hS _).mpr (.inl rfl))) (k _ _ ((hS _).mpr (.inl rfl)) hH) (hr.mono hg) (Rows.mono hg ht (fun x hx => z x ((hS _).mpr (.inr hx))) fun x o hx => k x o ((hS _).mpr (.inr hx))) hn hS
theorem Rows.free : ∀ {rs : List (List PV)} {vs : List V} {S : Addr → Prop}, Rows K mg G H rs vs S → ∀ x, S x → G x = none ∧ ∃ ws, H x = some (.lst ws)
  | _, _, _, .nil h, x, hx => (h x hx).elim
  | _, _, _, .cons hG hH hr ht hn hS, x, hx => by
    rcases (hS x).mp hx with e | e
    · subst e; exact ⟨hG, _, hH⟩
    · exact Rows.free ht x e
theorem NT.lst {xs : List V} : NT (.lst xs) := fun _ z => by cases z
theorem NT.tup {xs : List V} : NT (.tup xs) := fun _ z => by cases z
theorem NT.dK {xs : List (Key × V)} : NT (.dK xs) := fun _ z => by cases z
theorem NT.ins {c d : Addr} {xs : List (Str × V)} : NT (.ins c d xs) := fun _ z => by cases z
theorem NT.own {c : Addr} : NT (.own c) := fun _ z => by cases z
theorem NT.xd {xs : List (Str × V)} : NT (.xd xs) := fun _ z => by cases z
theorem Own.free {o : OV} {a : Addr} {S : Addr → Prop} (h : Own K mg G H o a S) : S a ∧ ∀ x, S x → G x = none ∧ ∃ u, H x = some u ∧ NT u := by
  cases o with
  | lst ps => obtain ⟨e, g, vs, h, _⟩ := h; exact ⟨(e a).mpr rfl, fun x hx => by obtain rfl := (e x).mp hx; exact ⟨g, _, h, .lst⟩⟩
  | dic ks ps => obtain ⟨e, g, vs, h, _⟩ := h; exact ⟨(e a).mpr rfl, fun x hx => by obtain rfl := (e x).mp hx; exact ⟨g, _, h, .dK⟩⟩
  | ins C ks ps => obtain ⟨e, g, c, dx, fs, m, h, _⟩ := h; exact ⟨(e a).mpr rfl, fun x hx => by obtain rfl := (e x).mp hx; exact ⟨g, _, h, .ins⟩⟩
  | rows rs =>
    obtain ⟨g, vs, S0, h, r, n, e⟩ := h
    refine ⟨(e a).mpr (.inl rfl), fun x hx => ?_⟩
    rcases (e x).mp hx with z | z
    · subst z; exact ⟨g, _, h, .lst⟩
    · obtain ⟨q, ws, q2⟩ := r.free x z; exact ⟨q, _, q2, .lst⟩
theorem Own.mono (hg : Sub G G') {o : OV} {a : Addr} {S : Addr → Prop} (h : Own K mg G H o a S) (z : ∀ x, S x → G' x = none) (k : ∀ x o, S x → H x = some o → H' x = some o) : Own K mg G' H' o a S := by
  cases o with
  | lst ps => obtain ⟨e, g, vs, h, r⟩ := h; exact ⟨e, z _ ((e a).mpr rfl), vs, k _ _ ((e a).mpr rfl) h, r.mono hg⟩
  | dic ks ps => obtain ⟨e, g, vs, h, q, r⟩ := h; exact ⟨e, z _ ((e a).mpr rfl), vs, k _ _ ((e a).mpr rfl) h, q, r.mono hg⟩
  | ins C ks ps => obtain ⟨e, g, c, dx, fs, m, h, q, r⟩ := h; exact ⟨e, z _ ((e a).mpr rfl), c, dx, fs, m, k _ _ ((e a).mpr rfl) h, q, r.mono hg⟩
  | rows rs =>
    obtain ⟨g, vs, S0, h, r, n, e⟩ := h
    exact ⟨z _ ((e a).mpr (.inl rfl)), vs, S0, k _ _ ((e a).mpr (.inl rfl)) h, r.mono hg (fun x hx => z x ((e x).mpr (.inr hx))) (fun x o hx => k x o ((e x).mpr (.inr hx))), n, e⟩
/-- what is not owned has grown -/
theorem Ev.grow (E : Ev K mg T w σ ρ) (hg : Sub w.G G') (hh : Sub w.H H') (sub : Sub G' H') (nt : ∀ a o, G' a = some o → NT o) (ng : ∀ a o, G' a = some o → w.G a = some o ∨ w.H a = none) :
    Ev K mg T ⟨G', H', w.S⟩ σ ρ ∧ Ext w ⟨G', H', w.S⟩ := by
  obtain ⟨F, f1, f2, f3, f4⟩ := E.ex
  refine ⟨⟨sub, nt, fun a ha => ?_, E.tab.ext hh, E.len, fun i p e => ?_, F, f1, fun i o e => ?_, f3, f4⟩, hg, fun a o h _ _ => hh a o h, fun a o h => ⟨o, hh a o h⟩, fun a o h => (ng a o h).elim .inl fun z => .inr (.inr z), fun a h => .inl h⟩
  · obtain ⟨o, h, n⟩ := E.sn a ha
    exact ⟨o, hh a o h, n⟩
  · obtain ⟨v, h, r⟩ := E.fr i p e
    exact ⟨v, h, r.mono hg⟩
  · obtain ⟨a, h, r⟩ := f2 i o e
    refine ⟨a, h, r.mono hg (fun x hx => ?_) fun x o _ q => hh x o q⟩
    cases q : G' x with
    | none => rfl
    | some u =>
      rcases ng x u q with z | z
      · rw [(r.free.2 x hx).1] at z; cases z
      · obtain ⟨u', h', _⟩ := (r.free.2 x hx).2
        rw [z] at h'; cases h'
/-- a slot gets a frozen value -/
theorem Ev.setFr (E : Ev K mg T w σ ρ) (i : Nat) {p : PV} {v : V} (r : Rep K mg w.G p v) : ∃ S', Ev K mg T ⟨w.G, w.H, S'⟩ (σ.set i (some v)) (ρ.set i (.fr p)) ∧ Ext w ⟨w.G, w.H, S'⟩ ∧ ∀ x, S' x → w.S x := by
  obtain ⟨F, f1, f2, f3, f4⟩ := E.ex
  have inS : ∀ x, (∃ j, j ≠ i ∧ F j x) → w.S x := fun x ⟨j, _, h⟩ => (f1 x).mpr ⟨j, h⟩
  refine ⟨fun x => ∃ j, j ≠ i ∧ F j x, ⟨E.sub, E.nt, fun a h => E.sn a (inS a h), E.tab, by simp [E.len], fun j q e => ?_, fun j x => j ≠ i ∧ F j x, fun x => Iff.rfl, fun j o e => ?_, fun j k x h1 h2 => f3 j k x h1.2 h2.2, fun j x h => ?_⟩,
    ⟨Sub.refl _, fun _ _ h _ _ => h, fun _ _ h => ⟨_, h⟩, fun _ _ h => .inl h, fun x h => .inl (inS x h)⟩, inS⟩
  · by_cases hj : j = i
    · subst hj
      have hl : j < ρ.length := by
        have := (List.getElem?_eq_some_iff.mp e).1; simpa using this
      rw [List.getElem?_set_self hl] at e
      have e2 := Sl.fr.inj (Option.some.inj e); subst e2
      exact ⟨v, by rw [List.getElem?_set_self (by rw [E.len]; exact hl)], r⟩
    · rw [List.getElem?_set_ne (Ne.symm hj)] at e
      obtain ⟨u, h, r⟩ := E.fr j q e
      exact ⟨u, by rw [List.getElem?_set_ne (Ne.symm hj)]; exact h, r⟩
  · by_cases hj : j = i
    · subst hj
      have hl : j < ρ.length := by
        have := (List.getElem?_eq_some_iff.mp e).1; simpa using this
      rw [List.getElem?_set_self hl] at e; cases e
    · rw [List.getElem?_set_ne (Ne.symm hj)] at e
      obtain ⟨a, h, r⟩ := f2 j o e
      refine ⟨a, by rw [List.getElem?_set_ne (Ne.symm hj)]; exact h, ?_⟩
      have : (fun x => j ≠ i ∧ F j x) = F j := funext fun x => propext ⟨fun h => h.2, fun h => ⟨hj, h⟩⟩
      exact Eq.mpr (congrArg (Own K mg w.G w.H _ a) this) r
  · obtain ⟨o, e⟩ := f4 j x h.2
    exact ⟨o, by rw [List.getElem?_set_ne (Ne.symm h.1)]; exact e⟩
/-- a slot gets an owned object that no slot has -/
theorem Ev.setOw (E : Ev K mg T w σ ρ) (i : Nat) (hi : i < ρ.length) {o : OV} {a : Addr} {S : Addr → Prop} (r : Own K mg w.G w.H o a S) (d : ∀ x, S x → ¬ w.S x) :
    ∃ S', Ev K mg T ⟨w.G, w.H, S'⟩ (σ.set i (some (.ref a))) (ρ.set i (.ow o)) ∧ ∀ x, S' x → S x ∨ w.S x := by
  obtain ⟨F, f1, f2, f3, f4⟩ := E.ex
  refine ⟨fun x => ∃ j, (j = i ∧ S x) ∨ (j ≠ i ∧ F j x), ⟨E.sub, E.nt, fun a h => ?_, E.tab, by simp [E.len], fun j q e => ?_, fun j x => (j = i ∧ S x) ∨ (j ≠ i ∧ F j x), fun x => Iff.rfl, fun j o' e => ?_, fun j k x h1 h2 => ?_, fun j x h => ?_⟩, fun x h => ?_⟩
  · obtain ⟨j, h | h⟩ := h
    · exact (r.free.2 a h.2).2
    · exact E.sn a ((f1 a).mpr ⟨j, h.2⟩)
  · by_cases hj : j = i
    · subst hj
      rw [List.getElem?_set_self hi] at e; cases e
    · rw [List.getElem?_set_ne (Ne.symm hj)] at e
      obtain ⟨u, h, r⟩ := E.fr j q e
      exact ⟨u, by rw [List.getElem?_set_ne (Ne.symm hj)]; exact h, r⟩
  · by_cases hj : j = i
    · subst hj
      rw [List.getElem?_set_self hi] at e
      have e2 := Sl.ow.inj (Option.some.inj e); subst e2
      refine ⟨a, by rw [List.getElem?_set_self (by rw [E.len]; exact hi)], ?_⟩
      have : (fun x => (j = j ∧ S x) ∨ (j ≠ j ∧ F j x)) = S := funext fun x => propext ⟨fun h => h.elim (·.2) fun z => absurd rfl z.1, fun h => .inl ⟨rfl, h⟩⟩
      exact Eq.mpr (congrArg (Own K mg w.G w.H _ a) this) r
    · rw [List.getElem?_set_ne (Ne.symm hj)] at e
      obtain ⟨a, h, r⟩ := f2 j o' e
      refine ⟨a, by rw [List.getElem?_set_ne (Ne.symm hj)]; exact h, ?_⟩
      have : (fun x => (j = i ∧ S x) ∨ (j ≠ i ∧ F j x)) = F j := funext fun x => propext ⟨fun h => h.elim (fun z => absurd z.1 hj) (·.2), fun h => .inr ⟨hj, h⟩⟩
      exact Eq.mpr (congrArg (Own K mg w.G w.H _ a) this) r
  · rcases h1 with h1 | h1 <;> rcases h2 with h2 | h2
    · rw [h1.1, h2.1]
    · exact absurd ((f1 x).mpr ⟨k, h2.2⟩) (d x h1.2)
    · exact absurd ((f1 x).mpr ⟨j, h1.2⟩) (d x h2.2)
    · exact f3 j k x h1.2 h2.2
  · rcases h with h | h
    · exact ⟨o, by rw [h.1, List.getElem?_set_self hi]⟩
    · obtain ⟨o', e⟩ := f4 j x h.2
      exact ⟨o', by rw [List.getElem?_set_ne (Ne.symm h.1)]; exact e⟩
  · obtain ⟨j, h | h⟩ := h
    · exact .inl h.2
    · exact .inr ((f1 x).mpr ⟨j, h.2⟩)
end
end VS

set_option Elab.async false
set_option linter.all false
set_option maxRecDepth 100000
set_option maxHeartbeats 1000000
namespace VS
open PySem PySem.Spec PyProof.Rows L2

/-! ### what a mirror's result asks -/
section
variable (K : Frag) (mg : Str → Option Value) (T : List (Addr × Str))
/-- the result r, seen from the world w -/
def tK {α β : Type} (R : Hp → α → β → Prop) (W : WX) (σ : St) (w : Wo) (Q : β → Hp → Prop) : Res α → Prop
  | .ok a ρ' => ∀ b w', Ext w w' → Ev K mg T w' σ ρ' → R w'.G a b → Q b w'.H
  | .err x ρ' => ∀ cls d w', Ext w w' → Ev K mg T w' σ ρ' → RepX K mg w'.G x cls d → W cls d σ w'.H
  | .bad => False
def tG {α β : Type} (R : Hp → α → β → Prop) (W : WX) (m : M α) : St → Hp → (β → Hp → Prop) → Prop := fun σ H Q => ∃ ρ w, w.H = H ∧ Ev K mg T w σ ρ ∧ tK K mg T R W σ w Q (m ρ)
abbrev RV : Hp → PV → V → Prop := fun G p v => Rep K mg G p v
abbrev RB : Hp → Bool → Bool → Prop := fun _ a b => b = a
abbrev RVs : Hp → List PV → List V → Prop := fun G p v => Reps K mg G p v
end
section
variable {K : Frag} {mg : Str → Option Value} {T : List (Addr × Str)} {α β γ δ : Type} {R : Hp → α → β → Prop} {R2 : Hp → γ → δ → Prop} {W : WX} {σ : St} {w w1 : Wo} {ρ : PEnv}
theorem tK.mono {Q : β → Hp → Prop} (e : Ext w w1) : ∀ {r : Res α}, tK K mg T R W σ w Q r → tK K mg T R W σ w1 Q r
  | .ok _ _, h => fun b w' e' => h b w' (e.trans e')
  | .err _ _, h => fun c d w' e' => h c d w' (e.trans e')
  | .bad, h => h
theorem tK_step {m : M α} {k : α → M γ} {Q : δ → Hp → Prop} {P : β → Hp → Prop} (E : Ev K mg T w σ ρ) (h : tK K mg T R2 W σ w Q (M.bind m k ρ))
    (f : ∀ a ρ' b w', Ext w w' → Ev K mg T w' σ ρ' → R w'.G a b → tK K mg T R2 W σ w' Q (k a ρ') → P b w'.H) : tG K mg T R W m σ w.H P := by
  refine ⟨ρ, w, rfl, E, ?_⟩
  unfold M.bind at h
  cases e : m ρ with
  | ok a ρ' => rw [e] at h; exact fun b w' x E' r => f a ρ' b w' x E' r (h.mono x)
  | err x ρ' => rw [e] at h; exact h
  | bad => rw [e] at h; exact h
theorem tG_step {m : M α} {k : α → M γ} {Q : δ → Hp → Prop} {P : β → Hp → Prop} {H : Hp} (h : tG K mg T R2 W (M.bind m k) σ H Q)
    (f : ∀ a ρ' b w', Ev K mg T w' σ ρ' → R w'.G a b → tK K mg T R2 W σ w' Q (k a ρ') → P b w'.H) : tG K mg T R W m σ H P := by
  obtain ⟨ρ, w, rfl, E, h⟩ := h
  exact tK_step E h fun a ρ' b w' _ E' r q => f a ρ' b w' E' r q
theorem tK_lift {o : Option α} {Q : β → Hp → Prop} (h : tK K mg T R W σ w Q (M.lift o ρ)) : ∃ a, o = some a ∧ ∀ b w', Ext w w' → Ev K mg T w' σ ρ → R w'.G a b → Q b w'.H := by
  cases o with
  | none => exact h.elim
  | some a => exact ⟨a, rfl, h⟩
end

/-! ### pure growth -/
structure Pure (G H G' H' : Hp) : Prop where
  g : Sub G G'
  h : Sub H H'
  sub : Sub G' H'
  nt : ∀ a o, G' a = some o → NT o
  ng : ∀ a o, G' a = some o → G a = some o ∨ H a = none
theorem Pure.refl {G H : Hp} (s : Sub G H) (n : ∀ a o, G a = some o → NT o) : Pure G H G H := ⟨Sub.refl _, Sub.refl _, s, n, fun _ _ h => .inl h⟩
theorem sub_upd {H : Hp} {p : Addr} {o : HO} (h : H p = none) : Sub H (upd H p o) := fun b u e => by rw [upd_ne (ne_of_none e h)]; exact e
theorem Pure.new {G H : Hp} {p : Addr} {o : HO} (s : Sub G H) (n : ∀ a o, G a = some o → NT o) (h : H p = none) (hn : NT o) : Pure G H (upd G p o) (upd H p o) := by
  have hG : G p = none := by
    cases e : G p with
    | none => rfl
    | some u => rw [s _ _ e] at h; cases h
  refine ⟨sub_upd hG, sub_upd h, fun b u e => ?_, fun b u e => ?_, fun b u e => ?_⟩
  · by_cases hb : b = p
    · subst hb; rw [upd_same] at e ⊢; exact e
    · rw [upd_ne hb] at e ⊢; exact s _ _ e
  · by_cases hb : b = p
    · subst hb; rw [upd_same] at e; cases e; exact hn
    · rw [upd_ne hb] at e; exact n _ _ e
  · by_cases hb : b = p
    · subst hb; exact .inr h
    · rw [upd_ne hb] at e; exact .inl e
theorem Ev.pure {K : Frag} {mg : Str → Option Value} {T : List (Addr × Str)} {w : Wo} {σ : St} {ρ : PEnv} {G' H' : Hp} (E : Ev K mg T w σ ρ) (p : Pure w.G w.H G' H') : Ev K mg T ⟨G', H', w.S⟩ σ ρ ∧ Ext w ⟨G', H', w.S⟩ := E.grow p.g p.h p.sub p.nt p.ng
/-- what is wanted of a pure value z, from G, H on -/
def Done (K : Frag) (mg : Str → Option Value) (G H : Hp) (z : PV) (Q : VK) : Prop := ∀ v G' H', Pure G H G' H' → Rep K mg G' z v → Q v H'
def DoneB (G H : Hp) (z : Bool) (Q : Bool → Hp → Prop) : Prop := ∀ G' H', Pure G H G' H' → Q z H'
structure Fz (G H : Hp) : Prop where
  sub : Sub G H
  nt : ∀ a o, G a = some o → NT o
theorem Done.here {K : Frag} {mg : Str → Option Value} {G H : Hp} {z : PV} {Q : VK} (d : Done K mg G H z Q) (f : Fz G H) {v : V} (r : Rep K mg G z v) : Q v H := d v G H (.refl f.sub f.nt) r
theorem Done.tup {K : Frag} {mg : Str → Option Value} {G H : Hp} {zs : List PV} {Q : VK} (d : Done K mg G H (.tup zs) Q) (f : Fz G H) {vs : List V} (r : Reps K mg G zs vs) : ∀ p, H p = none → Q (.ref p) (upd H p (.tup vs)) := fun p hp => by
  have P := Pure.new f.sub f.nt hp (NT.tup (xs := vs))
  exact d _ _ _ P ⟨p, vs, rfl, .of upd_same, r.mono P.g⟩
theorem Done.lst {K : Frag} {mg : Str → Option Value} {G H : Hp} {zs : List PV} {Q : VK} (d : Done K mg G H (.lst zs) Q) (f : Fz G H) {vs : List V} (r : Reps K mg G zs vs) : ∀ p, H p = none → Q (.ref p) (upd H p (.lst vs)) := fun p hp => by
  have P := Pure.new f.sub f.nt hp (NT.lst (xs := vs))
  exact d _ _ _ P ⟨p, vs, rfl, upd_same, r.mono P.g⟩

/-! ### the judgements -/
structure VE (X : Cx) (T : List (Addr × Str)) (W : WX) (e : Expr) (m : M PV) : Prop where
  pe : PE X e (tG X.K X.mg T (RV X.K X.mg) W m)
structure VT (X : Cx) (T : List (Addr × Str)) (W : WX) (e : Expr) (m : M Bool) : Prop where
  pt : PT X e (tG X.K X.mg T RB W m)
structure VW (X : Cx) (T : List (Addr × Str)) (W : WX) (e : Expr) (m : M Bool) : Prop where
  pw : PW X e (tG X.K X.mg T RB W m)
structure VA (X : Cx) (T : List (Addr × Str)) (W : WX) (es : List Expr) (m : M (List PV)) : Prop where
  pa : PA X es (tG X.K X.mg T (RVs X.K X.mg) W m)
theorem _root_.L2.PE.imV {X : Cx} {e : Expr} {t t' : TE} (h : PE X e t) (f : ∀ σ H Q, t' σ H Q → t σ H Q) : PE X e t' := ⟨fun pins s σ H Q I q => h.run pins s σ H Q I (f _ _ _ q)⟩
theorem _root_.L2.PT.imV {X : Cx} {e : Expr} {t t' : TT} (h : PT X e t) (f : ∀ σ H Q, t' σ H Q → t σ H Q) : PT X e t' := ⟨fun pins s σ H Q I q => h.run pins s σ H Q I (f _ _ _ q)⟩
theorem _root_.L2.PW.imV {X : Cx} {e : Expr} {t t' : TT} (h : PW X e t) (f : ∀ σ H Q, t' σ H Q → t σ H Q) : PW X e t' := ⟨fun wh pins s σ H Q I q => h.run wh pins s σ H Q I (f _ _ _ q)⟩
theorem _root_.L2.PA.imV {X : Cx} {e : List Expr} {t t' : TA} (h : PA X e t) (f : ∀ σ H Q, t' σ H Q → t σ H Q) : PA X e t' := ⟨fun p pins s σ H Q I q => h.run p pins s σ H Q I (f _ _ _ q)⟩
theorem _root_.L2.PS.imV {X : Cx} {e : Stmt} {t t' : TS} (h : PS X e t) (f : ∀ D σ H, t' D σ H → t D σ H) : PS X e t' := ⟨fun pins s σ H D I q => h.run pins s σ H D I (f _ _ _ q)⟩
theorem _root_.L2.PSs.imV {X : Cx} {e : List Stmt} {t t' : TS} (h : PSs X e t) (f : ∀ D σ H, t' D σ H → t D σ H) : PSs X e t' := ⟨fun pins s σ H D I q => h.run pins s σ H D I (f _ _ _ q)⟩

/-! ### mirrors of expressions -/
def mOp1 (f : PV → Option PV) (a : M PV) : M PV := a.bind fun x => .lift (f x)
def mOp2 (f : PV → PV → Option PV) (a b : M PV) : M PV := a.bind fun x => b.bind fun y => .lift (f x y)
def mCons (a : M PV) (r : M (List PV)) : M (List PV) := a.bind fun x => r.bind fun xs => .pure (x :: xs)
def mTest (a : M PV) : M Bool := a.bind fun x => .lift (match x with | .bl b => some b | _ => none)
def mCallP (f : List PV → Option PV) (a : M (List PV)) : M PV := a.bind fun xs => .lift (f xs)
def mIf (c : M Bool) (a b : M PV) : M PV := c.bind fun t => if t then a else b
def mAnd (a b : M Bool) : M Bool := a.bind fun t => if t then b else .pure false
def mOr (a b : M Bool) : M Bool := a.bind fun t => if t then .pure true else b
def mNot (a : M Bool) : M Bool := a.bind fun t => .pure (!t)
def mAndV (a b : M PV) : M PV := a.bind fun x => match x with
  | .bl true => b
  | .bl false => .pure (.bl false)
  | _ => fun _ => .bad
def mOrV (a b : M PV) : M PV := a.bind fun x => match x with
  | .bl true => .pure (.bl true)
  | .bl false => b
  | _ => fun _ => .bad
def pNotB : PV → Option PV
  | .bl b => some (.bl (!b))
  | _ => none
def mMeth (f : PV → List PV → Option PV) (o : M PV) (a : M (List PV)) : M PV := o.bind fun x => a.bind fun xs => .lift (f x xs)

/-! ### rules by values -/
section
variable (K : Frag) (mg : Str → Option Value)
def rP2 (f : PV → PV → Option PV) : R2 := fun x y H Q => ∃ G px py pz, Fz G H ∧ Rep K mg G px x ∧ Rep K mg G py y ∧ f px py = some pz ∧ Done K mg G H pz Q
def rP1 (f : PV → Option PV) : V → Hp → VK → Prop := fun x H Q => ∃ G px pz, Fz G H ∧ Rep K mg G px x ∧ f px = some pz ∧ Done K mg G H pz Q
def rPL (f : List PV → Option PV) : List V → Hp → VK → Prop := fun xs H Q => ∃ G ps pz, Fz G H ∧ Reps K mg G ps xs ∧ f ps = some pz ∧ Done K mg G H pz Q
def rPM (f : PV → List PV → Option PV) : V → List V → Hp → VK → Prop := fun x xs H Q => ∃ G px ps pz, Fz G H ∧ Rep K mg G px x ∧ Reps K mg G ps xs ∧ f px ps = some pz ∧ Done K mg G H pz Q
end
theorem Ev.fz {K : Frag} {mg : Str → Option Value} {T : List (Addr × Str)} {w : Wo} {σ : St} {ρ : PEnv} (E : Ev K mg T w σ ρ) : Fz w.G w.H := ⟨E.sub, E.nt⟩
theorem Ev.done {K : Frag} {mg : Str → Option Value} {T : List (Addr × Str)} {w : Wo} {σ : St} {ρ : PEnv} (E : Ev K mg T w σ ρ) {z : PV} {Q : VK} (h : ∀ v w', Ext w w' → Ev K mg T w' σ ρ → Rep K mg w'.G z v → Q v w'.H) : Done K mg w.G w.H z Q := fun v G' H' P r => by
  obtain ⟨E', x⟩ := E.pure P
  exact h v ⟨G', H', w.S⟩ x E' r
section
variable {X : Cx} {T : List (Addr × Str)} {W : WX} {e a b c o : Expr} {es rest : List Expr} {ma mb mc mo : M PV} {mt mu : M Bool} {ml : M (List PV)} {pos : Pos}
theorem ve_const {e : Expr} {v : V} {p : PV} (h : PE X e (tC v)) (r : ∀ G, Rep X.K X.mg G p v) : VE X T W e (M.pure p) := ⟨h.imV fun σ H Q q => by
  obtain ⟨ρ, w, rfl, E, q⟩ := q
  exact q v w (Ext.refl _) E (r _)⟩
theorem ve_int {i : Int} {j} : VE X T W (.Constant (.int i) j pos) (M.pure (.int i)) := ve_const pe_int fun _ => rfl
theorem ve_bl {i : Bool} {j} : VE X T W (.Constant (.bool i) j pos) (M.pure (.bl i)) := ve_const pe_bl fun _ => rfl
theorem ve_non {j} : VE X T W (.Constant .none j pos) (M.pure .non) := ve_const pe_non fun _ => rfl
theorem ve_str {i : Str} {j} : VE X T W (.Constant (.str i) j pos) (M.pure (.str i)) := ve_const pe_str fun _ => rfl
theorem ve_un {op : UnaryOp} {f : PV → Option PV} (ho : UnR X (unaryOp op) (rP1 X.K X.mg f)) (ha : VE X T W a ma) : VE X T W (.UnaryOp op a pos) (mOp1 f ma) := ⟨(pe_un ho ha.pe).imV fun σ H Q q => by
  refine tG_step q fun pa ρ1 x w1 E1 r1 q1 => ?_
  obtain ⟨z, e, q2⟩ := tK_lift q1
  exact ⟨w1.G, pa, z, E1.fz, r1, e, E1.done q2⟩⟩
theorem two {f : PV → PV → Option PV} {σ : St} {H : Hp} {Q : VK} (q : tG X.K X.mg T (RV X.K X.mg) W (mOp2 f ma mb) σ H Q) : tOp (rP2 X.K X.mg f) (tG X.K X.mg T (RV X.K X.mg) W ma) (tG X.K X.mg T (RV X.K X.mg) W mb) σ H Q := by
  refine tG_step q fun pa ρ1 x w1 E1 r1 q1 => ?_
  refine tK_step E1 q1 fun pb ρ2 y w2 x2 E2 r2 q2 => ?_
  obtain ⟨z, e, q3⟩ := tK_lift q2
  exact ⟨w2.G, pa, pb, z, E2.fz, r1.mono x2.g, r2, e, E2.done q3⟩
theorem ve_op {op : Operator} {f : PV → PV → Option PV} (ho : OpR X (binaryOp op) (rP2 X.K X.mg f)) (ha : VE X T W a ma) (hb : VE X T W b mb) : VE X T W (.BinOp a op b pos) (mOp2 f ma mb) :=
  ⟨(pe_op ho ha.pe hb.pe).imV fun σ H Q q => two q⟩
theorem ve_cmp {op : CmpOp} {f : PV → PV → Option PV} (ho : OpR X (compareOp op) (rP2 X.K X.mg f)) (ha : VE X T W a ma) (hb : VE X T W b mb) (hm : behindInMarks op b = false) : VE X T W (.Compare a [op] [b] pos) (mOp2 f ma mb) :=
  ⟨(pe_cmpR ho ha.pe hb.pe hm).imV fun σ H Q q => two q⟩
theorem ve_ix {f : PV → PV → Option PV} (ho : IxR X (rP2 X.K X.mg f)) (ha : VE X T W a ma) (hb : VE X T W b mb) (hs : PlainIx b) : VE X T W (.Subscript a b pos) (mOp2 f ma mb) :=
  ⟨(pe_ix ho ha.pe hb.pe hs).imV fun σ H Q q => two q⟩
/-- a value that is a bool, as a test -/
theorem tst {σ : St} {H : Hp} {Q : Bool → Hp → Prop} (q : tG X.K X.mg T RB W (mTest ma) σ H Q) : tG X.K X.mg T (RV X.K X.mg) W ma σ H fun x H1 => ∃ k, x = .bl k ∧ Q k H1 := by
  refine tG_step q fun pa ρ1 x w1 E1 r1 q1 => ?_
  obtain ⟨z, e, q2⟩ := tK_lift q1
  split at e
  · cases e
    obtain rfl : x = _ := r1
    exact ⟨_, rfl, q2 _ w1 (Ext.refl _) E1 rfl⟩
  · cases e
theorem vt_cmp {op : CmpOp} {f : PV → PV → Option PV} (ho : OpR X (compareOp op) (rP2 X.K X.mg f)) (ha : VE X T W a ma) (hb : VE X T W b mb) (hm : behindInMarks op b = false) : VT X T W (.Compare a [op] [b] pos) (mTest (mOp2 f ma mb)) :=
  ⟨(pt_cmpR ho ha.pe hb.pe hm).imV fun σ H Q q => by
    have h := tst q
    exact two h⟩
theorem vt_val (ha : VE X T W a ma) (he : ∀ whole, isTrue a X.env whole = (do let v ← whole; standAt a.pos; holding [v] (truthy v)) := by intro _; rfl) : VT X T W a (mTest ma) :=
  ⟨(pt_val ha.pe he).imV fun σ H Q q => tst q⟩
theorem vt_not (ha : VT X T W a mt) : VT X T W (.UnaryOp .Not a pos) (mNot mt) := ⟨(pt_not ha.pt).imV fun σ H Q q => by
  refine tG_step q fun pa ρ1 x w1 E1 r1 q1 => ?_
  obtain rfl : x = pa := r1
  exact q1 _ w1 (Ext.refl _) E1 rfl⟩
theorem vw_and1 (ha : VT X T W a mt) : VW X T W (.BoolOp .And [a] pos) mt := ⟨pw_and1 ha.pt⟩
theorem vw_or1 (ha : VT X T W a mt) : VW X T W (.BoolOp .Or [a] pos) mt := ⟨pw_or1 ha.pt⟩
theorem vw_and (ha : VT X T W a mt) (hb : VW X T W (.BoolOp .And (b :: rest) pos) mu) : VW X T W (.BoolOp .And (a :: b :: rest) pos) (mAnd mt mu) := ⟨(pw_and ha.pt hb.pw).imV fun σ H Q q => by
  refine tG_step q fun pa ρ1 x w1 E1 r1 q1 => ?_
  obtain rfl : x = pa := r1
  cases x with
  | true => rw [if_pos rfl]; exact ⟨ρ1, w1, rfl, E1, q1⟩
  | false => rw [if_neg Bool.false_ne_true]; exact q1 _ w1 (Ext.refl _) E1 rfl⟩
theorem vw_or (ha : VT X T W a mt) (hb : VW X T W (.BoolOp .Or (b :: rest) pos) mu) : VW X T W (.BoolOp .Or (a :: b :: rest) pos) (mOr mt mu) := ⟨(pw_or ha.pt hb.pw).imV fun σ H Q q => by
  refine tG_step q fun pa ρ1 x w1 E1 r1 q1 => ?_
  obtain rfl : x = pa := r1
  cases x with
  | true => rw [if_pos rfl]; exact q1 _ w1 (Ext.refl _) E1 rfl
  | false => rw [if_neg Bool.false_ne_true]; exact ⟨ρ1, w1, rfl, E1, q1⟩⟩
theorem VW.vt (h : VW X T W e mt) : VT X T W e mt := ⟨h.pw.pt⟩
theorem ve_not (ha : VE X T W a ma) : VE X T W (.UnaryOp .Not a pos) (mOp1 pNotB ma) := ⟨(pe_not ha.pe).imV fun σ H Q q => by
  refine tG_step q fun pa ρ1 x w1 E1 r1 q1 => ?_
  obtain ⟨z, e, q2⟩ := tK_lift q1
  unfold pNotB at e
  split at e
  · cases e
    exact ⟨_, r1, q2 _ w1 (Ext.refl _) E1 rfl⟩
  · cases e⟩
theorem ve_one {op} (h : VE X T W a ma) : VE X T W (.BoolOp op [a] pos) ma := ⟨pe_one h.pe⟩
theorem ve_and (ha : VE X T W a ma) (hb : VE X T W (.BoolOp .And (b :: rest) pos) mb) : VE X T W (.BoolOp .And (a :: b :: rest) pos) (mAndV ma mb) := ⟨(pe_and ha.pe hb.pe).imV fun σ H Q q => by
  refine tG_step q fun pa ρ1 x w1 E1 r1 q1 => ?_
  split at q1
  · exact ⟨true, r1, by rw [if_pos rfl]; exact ⟨ρ1, w1, rfl, E1, q1⟩⟩
  · exact ⟨false, r1, by rw [if_neg Bool.false_ne_true]; exact q1 _ w1 (Ext.refl _) E1 rfl⟩
  · exact q1.elim⟩
theorem ve_or (ha : VE X T W a ma) (hb : VE X T W (.BoolOp .Or (b :: rest) pos) mb) : VE X T W (.BoolOp .Or (a :: b :: rest) pos) (mOrV ma mb) := ⟨(pe_or ha.pe hb.pe).imV fun σ H Q q => by
  refine tG_step q fun pa ρ1 x w1 E1 r1 q1 => ?_
  split at q1
  · exact ⟨true, r1, by rw [if_pos rfl]; exact q1 _ w1 (Ext.refl _) E1 rfl⟩
  · exact ⟨false, r1, by rw [if_neg Bool.false_ne_true]; exact ⟨ρ1, w1, rfl, E1, q1⟩⟩
  · exact q1.elim⟩
theorem ve_if (hc : VT X T W c mt) (ha : VE X T W a ma) (hb : VE X T W b mb) : VE X T W (.IfExp c a b pos) (mIf mt ma mb) := ⟨(pe_ifExp hc.pt ha.pe hb.pe).imV fun σ H Q q => by
  refine tG_step q fun pa ρ1 x w1 E1 r1 q1 => ?_
  obtain rfl : x = pa := r1
  cases x with
  | true => rw [if_pos rfl]; exact ⟨ρ1, w1, rfl, E1, q1⟩
  | false => rw [if_neg Bool.false_ne_true]; exact ⟨ρ1, w1, rfl, E1, q1⟩⟩
theorem va_nil : VA X T W [] (M.pure []) := ⟨pa_nil.imV fun σ H Q q => by
  obtain ⟨ρ, w, rfl, E, q⟩ := q
  exact q [] w (Ext.refl _) E rfl⟩
theorem va_cons (ha : VE X T W a ma) (hr : VA X T W es ml) (hs : starEach (a :: es) X.env = (false, eval a X.env) :: starEach es X.env := by rfl) : VA X T W (a :: es) (mCons ma ml) := ⟨(pa_cons ha.pe hr.pa hs).imV fun σ H Q q => by
  refine tG_step q fun pa ρ1 x w1 E1 r1 q1 => ?_
  refine tK_step E1 q1 fun pb ρ2 y w2 x2 E2 r2 q2 => ?_
  exact q2 _ w2 (Ext.refl _) E2 (.cons (r1.mono x2.g) r2)⟩
/-- a tuple, a list display -/
def pSz (f : List PV → PV) (xs : List PV) : Option PV := if xs.length ≤ sizeLine then some (f xs) else none
theorem ve_tup {x1} (h : VA X T W es ml) : VE X T W (.Tuple es x1 pos) (mCallP (pSz .tup) ml) := ⟨(pe_tup h.pa).imV fun σ H Q q => by
  refine tG_step q fun pa ρ1 x w1 E1 r1 q1 => ?_
  obtain ⟨z, e, q2⟩ := tK_lift q1
  unfold pSz at e
  split at e
  · cases e
    rename_i hz
    exact ⟨by rw [← r1.length]; exact hz, (E1.done q2).tup E1.fz r1⟩
  · cases e⟩
theorem ve_lst (h : VA X T W es ml) : VE X T W (.List es pos) (mCallP (pSz .lst) ml) := ⟨(pe_lst h.pa).imV fun σ H Q q => by
  refine tG_step q fun pa ρ1 x w1 E1 r1 q1 => ?_
  obtain ⟨z, e, q2⟩ := tK_lift q1
  unfold pSz at e
  split at e
  · cases e
    rename_i hz
    exact ⟨by rw [← r1.length]; exact hz, (E1.done q2).lst E1.fz r1⟩
  · cases e⟩
/-- f(e, ..), f built in; T(e, ..) -/
theorem ve_callB {id : String} {x : Str} {p : Pos} {f : List PV → Option PV} (hc : CallR X (.builtin id) (rPL X.K X.mg f)) (hg : Gl X x) (hm : X.mg x = none) (hv : bootBuiltins x = some (.builtin id)) (ha : VA X T W (e :: es) ml) (hn : x ≠ "__name__" := by decide) (hdb : (x == ("__debug__" : Str)) = false := by decide)
    (he : starEach (e :: es) X.env = (false, eval e X.env) :: starEach es X.env := by rfl) (hpl : (backTo pos (starEach es X.env)).any (·.1) = false := by rfl) : VE X T W (.Call (.Name x p) (e :: es) [] pos) (mCallP f ml) :=
  ⟨(pe_callB hc hg hm hv ha.pa hn hdb he hpl).imV fun σ H Q q => by
    refine tG_step q fun pa ρ1 x w1 E1 r1 q1 => ?_
    obtain ⟨z, e, q2⟩ := tK_lift q1
    exact ⟨w1.G, pa, z, E1.fz, r1, e, E1.done q2⟩⟩
theorem ve_callTy {id : String} {x : Str} {p : Pos} {f : List PV → Option PV} (hc : CallR X (.type id) (rPL X.K X.mg f)) (hg : Gl X x) (hm : X.mg x = none) (hv : bootBuiltins x = some (.type id)) (ha : VA X T W (e :: es) ml) (hn : x ≠ "__name__" := by decide) (hdb : (x == ("__debug__" : Str)) = false := by decide)
    (he : starEach (e :: es) X.env = (false, eval e X.env) :: starEach es X.env := by rfl) (hpl : (backTo pos (starEach es X.env)).any (·.1) = false := by rfl) : VE X T W (.Call (.Name x p) (e :: es) [] pos) (mCallP f ml) :=
  ⟨(pe_callTy hc hg hm hv ha.pa hn hdb he hpl).imV fun σ H Q q => by
    refine tG_step q fun pa ρ1 x w1 E1 r1 q1 => ?_
    obtain ⟨z, e, q2⟩ := tK_lift q1
    exact ⟨w1.G, pa, z, E1.fz, r1, e, E1.done q2⟩⟩
end
end VS

set_option Elab.async false
set_option linter.all false
set_option maxRecDepth 100000
set_option maxHeartbeats 1000000
namespace VS
open PySem PySem.Spec PyProof.Rows L2

/-! ### statements -/
inductive SR where
  | nx (ρ : PEnv) | rt (p : PV) (ρ : PEnv) | bk (ρ : PEnv) | ct (ρ : PEnv) | err (x : Exn) (ρ : PEnv) | bad
abbrev MS := PEnv → SR
def Keep (I : Nat → Bool) (σ σ' : St) : Prop := σ'.length = σ.length ∧ ∀ i, I i = true → σ'[i]? = σ[i]?
theorem Keep.refl {I : Nat → Bool} (σ : St) : Keep I σ σ := ⟨rfl, fun _ _ => rfl⟩
theorem Keep.trans {I : Nat → Bool} {σ σ1 σ2 : St} (a : Keep I σ σ1) (b : Keep I σ1 σ2) : Keep I σ σ2 := ⟨b.1.trans a.1, fun i h => (b.2 i h).trans (a.2 i h)⟩
theorem Keep.set {I : Nat → Bool} {σ : St} {i : Nat} {v : Option V} (h : I i = false) : Keep I σ (σ.set i v) := ⟨by simp, fun j hj => by
  have : i ≠ j := fun e => by subst e; rw [h] at hj; cases hj
  rw [List.getElem?_set_ne this]⟩
section
variable (K : Frag) (mg : Str → Option Value) (T : List (Addr × Str)) (I : Nat → Bool) (W : WX)
def tKS (σ : St) (w : Wo) (D : Ends) : SR → Prop
  | .nx ρ' => ∀ σ' w', Ext w w' → Ev K mg T w' σ' ρ' → Keep I σ σ' → D.nx σ' w'.H
  | .rt p ρ' => ∀ v σ' w', Ext w w' → Ev K mg T w' σ' ρ' → Keep I σ σ' → Rep K mg w'.G p v → D.rt v w'.H
  | .bk ρ' => ∀ σ' w', Ext w w' → Ev K mg T w' σ' ρ' → Keep I σ σ' → D.bk σ' w'.H
  | .ct ρ' => ∀ σ' w', Ext w w' → Ev K mg T w' σ' ρ' → Keep I σ σ' → D.ct σ' w'.H
  | .err x ρ' => ∀ cls d σ' w', Ext w w' → Ev K mg T w' σ' ρ' → Keep I σ σ' → RepX K mg w'.G x cls d → W cls d σ' w'.H
  | .bad => False
def tS (m : MS) : TS := fun D σ H => ∃ ρ w, w.H = H ∧ Ev K mg T w σ ρ ∧ tKS K mg T I W σ w D (m ρ)
end
structure VS (X : Cx) (T : List (Addr × Str)) (I : Nat → Bool) (W : WX) (st : Stmt) (m : MS) : Prop where
  ps : PS X st (tS X.K X.mg T I W m)
structure VSs (X : Cx) (T : List (Addr × Str)) (I : Nat → Bool) (W : WX) (st : List Stmt) (m : MS) : Prop where
  ps : PSs X st (tS X.K X.mg T I W m)
def sThen {α : Type} (m : M α) (k : α → MS) : MS := fun ρ => match m ρ with
  | .ok a ρ' => k a ρ'
  | .err x ρ' => .err x ρ'
  | .bad => .bad
def mSeq (a b : MS) : MS := fun ρ => match a ρ with
  | .nx ρ' => b ρ'
  | .rt p ρ' => .rt p ρ'
  | .bk ρ' => .bk ρ'
  | .ct ρ' => .ct ρ'
  | .err x ρ' => .err x ρ'
  | .bad => .bad
def mNext : MS := .nx
def mBrk : MS := .bk
def mCnt : MS := .ct
def mRet (m : M PV) : MS := sThen m fun p ρ => .rt p ρ
def mDrop {α : Type} (m : M α) : MS := sThen m fun _ ρ => .nx ρ
def mSet (i : Nat) (m : M PV) : MS := sThen m fun p ρ => .nx (ρ.set i (.fr p))
def mIfS (c : M Bool) (a b : MS) : MS := sThen c fun t => if t then a else b
section
variable {K : Frag} {mg : Str → Option Value} {T : List (Addr × Str)} {I : Nat → Bool} {W : WX} {σ σ1 : St} {w w1 : Wo} {ρ : PEnv} {D : Ends} {α β : Type} {R : Hp → α → β → Prop}
theorem tKS.mono (e : Ext w w1) (k : Keep I σ σ1) : ∀ {r : SR}, tKS K mg T I W σ w D r → tKS K mg T I W σ1 w1 D r
  | .nx _, h => fun s w' e' E' k' => h s w' (e.trans e') E' (k.trans k')
  | .rt _ _, h => fun v s w' e' E' k' => h v s w' (e.trans e') E' (k.trans k')
  | .bk _, h => fun s w' e' E' k' => h s w' (e.trans e') E' (k.trans k')
  | .ct _, h => fun s w' e' E' k' => h s w' (e.trans e') E' (k.trans k')
  | .err _ _, h => fun c d s w' e' E' k' => h c d s w' (e.trans e') E' (k.trans k')
  | .bad, h => h
theorem sK_step {m : M α} {k : α → MS} {P : β → Hp → Prop} (E : Ev K mg T w σ ρ) (h : tKS K mg T I W σ w D (sThen m k ρ))
    (f : ∀ a ρ' b w', Ext w w' → Ev K mg T w' σ ρ' → R w'.G a b → tKS K mg T I W σ w' D (k a ρ') → P b w'.H) : tG K mg T R W m σ w.H P := by
  refine ⟨ρ, w, rfl, E, ?_⟩
  unfold sThen at h
  cases e : m ρ with
  | ok a ρ' => rw [e] at h; exact fun b w' x E' r => f a ρ' b w' x E' r (h.mono x (Keep.refl _))
  | err x ρ' => rw [e] at h; exact fun c d w' x E' r => h c d σ w' x E' (Keep.refl _) r
  | bad => rw [e] at h; exact h
theorem sG_step {m : M α} {k : α → MS} {P : β → Hp → Prop} {H : Hp} (h : tS K mg T I W (sThen m k) D σ H)
    (f : ∀ a ρ' b w', Ev K mg T w' σ ρ' → R w'.G a b → tKS K mg T I W σ w' D (k a ρ') → P b w'.H) : tG K mg T R W m σ H P := by
  obtain ⟨ρ, w, rfl, E, h⟩ := h
  exact sK_step E h fun a ρ' b w' _ E' r q => f a ρ' b w' E' r q
end
section
variable {X : Cx} {T : List (Addr × Str)} {I : Nat → Bool} {W : WX} {e a b c o : Expr} {es : List Expr} {st : Stmt} {rest sa sb : List Stmt} {ma mb : M PV} {mt : M Bool} {ml : M (List PV)} {m1 m2 : MS} {pos : Pos}
theorem vss_nil : VSs X T I W [] mNext := ⟨pss_nil.imV fun D σ H q => by
  obtain ⟨ρ, w, rfl, E, q⟩ := q
  exact q σ w (Ext.refl _) E (Keep.refl _)⟩
theorem vss_cons (h1 : VS X T I W st m1) (h2 : VSs X T I W rest m2) : VSs X T I W (st :: rest) (mSeq m1 m2) := ⟨(pss_cons h1.ps h2.ps).imV fun D σ H q => by
  obtain ⟨ρ, w, rfl, E, q⟩ := q
  refine ⟨ρ, w, rfl, E, ?_⟩
  unfold mSeq at q
  cases e : m1 ρ with
  | nx ρ' => rw [e] at q; exact fun σ' w' x E' k => ⟨ρ', w', rfl, E', q.mono x k⟩
  | rt p ρ' => rw [e] at q; exact q
  | bk ρ' => rw [e] at q; exact q
  | ct ρ' => rw [e] at q; exact q
  | err x ρ' => rw [e] at q; exact q
  | bad => rw [e] at q; exact q⟩
theorem vss_one (h1 : VS X T I W st m1) : VSs X T I W [st] m1 := ⟨pss_one h1.ps⟩
theorem vs_pass : VS X T I W (.Pass pos) mNext := ⟨ps_pass.imV fun D σ H q => by
  obtain ⟨ρ, w, rfl, E, q⟩ := q
  exact q σ w (Ext.refl _) E (Keep.refl _)⟩
theorem vs_break : VS X T I W (.Break pos) mBrk := ⟨ps_break.imV fun D σ H q => by
  obtain ⟨ρ, w, rfl, E, q⟩ := q
  exact q σ w (Ext.refl _) E (Keep.refl _)⟩
theorem vs_continue : VS X T I W (.Continue pos) mCnt := ⟨ps_continue.imV fun D σ H q => by
  obtain ⟨ρ, w, rfl, E, q⟩ := q
  exact q σ w (Ext.refl _) E (Keep.refl _)⟩
theorem vs_ret (h : VE X T W e ma) : VS X T I W (.Return (some e) pos) (mRet ma) := ⟨(ps_ret h.pe).imV fun D σ H q => by
  refine sG_step q fun pa ρ1 x w1 E1 r1 q1 => ?_
  exact q1 x σ w1 (Ext.refl _) E1 (Keep.refl _) r1⟩
theorem vs_expr (h : VE X T W e ma) (hs : swapsWith e none pos.line X.env = pure false := by rfl) : VS X T I W (.Expr e pos) (mDrop ma) := ⟨(ps_expr h.pe hs).imV fun D σ H q => by
  refine sG_step q fun pa ρ1 x w1 E1 r1 q1 => ?_
  exact q1 σ w1 (Ext.refl _) E1 (Keep.refl _)⟩
theorem vs_if (hc : VT X T W c mt) (ha : VSs X T I W sa m1) (hb : VSs X T I W sb m2) : VS X T I W (.If c sa sb pos) (mIfS mt m1 m2) := ⟨(ps_if hc.pt ha.ps hb.ps).imV fun D σ H q => by
  refine sG_step q fun pa ρ1 x w1 E1 r1 q1 => ?_
  obtain rfl : x = pa := r1
  cases x with
  | true => rw [if_pos rfl]; exact ⟨ρ1, w1, rfl, E1, q1⟩
  | false => rw [if_neg Bool.false_ne_true]; exact ⟨ρ1, w1, rfl, E1, q1⟩⟩
theorem set_fr {K : Frag} {mg : Str → Option Value} {σ : St} {D : Ends} {w1 : Wo} {ρ1 : PEnv} {i : Nat} {p : PV} {x : V} (hI : I i = false) (E1 : Ev K mg T w1 σ ρ1) (r1 : Rep K mg w1.G p x) (q1 : tKS K mg T I W σ w1 D (.nx (ρ1.set i (.fr p)))) : D.nx (σ.set i (some x)) w1.H := by
  obtain ⟨S', E2, x2, _⟩ := E1.setFr i r1
  exact q1 _ ⟨w1.G, w1.H, S'⟩ x2 E2 (Keep.set hI)
theorem vs_set {i : Nat} {x : Str} {pos' : Pos} (hN : X.N.Nodup) (hi : X.N[i]? = some x) (hx : Loc X.env.scope x) (he : VE X T W e ma) (hI : I i = false) (hs : swapsWith e (some (.Name x pos')) pos.line X.env = pure false := by rfl) (hf : X.fn x = true ∨ X.env.scope.names.lookup x = some .local := by first | exact .inl rfl | exact .inr rfl | assumption) :
    VS X T I W (.Assign [.Name x pos'] e pos) (mSet i ma) := ⟨(ps_set hN hi hx he.pe hs hf).imV fun D σ H q => by
  refine sG_step q fun pa ρ1 x w1 E1 r1 q1 => ?_
  exact set_fr hI E1 r1 q1⟩
end

/-! ### targets -/
/-- a frozen value goes to a target -/
abbrev MG := PV → PEnv → Option PEnv
def tGt (K : Frag) (mg : Str → Option Value) (T : List (Addr × Str)) (I : Nat → Bool) (g : MG) : TG := fun v σ H Q => ∃ p ρ ρ' w, w.H = H ∧ Ev K mg T w σ ρ ∧ Rep K mg w.G p v ∧ g p ρ = some ρ' ∧ ∀ σ' w', Ext w w' → Ev K mg T w' σ' ρ' → Keep I σ σ' → Q σ' w'.H
def tGts (K : Frag) (mg : Str → Option Value) (T : List (Addr × Str)) (I : Nat → Bool) (g : List PV → PEnv → Option PEnv) : TGs := fun v σ H Q => ∃ p ρ ρ' w, w.H = H ∧ Ev K mg T w σ ρ ∧ Reps K mg w.G p v ∧ g p ρ = some ρ' ∧ ∀ σ' w', Ext w w' → Ev K mg T w' σ' ρ' → Keep I σ σ' → Q σ' w'.H
structure VG (X : Cx) (T : List (Addr × Str)) (I : Nat → Bool) (tg : Expr) (g : MG) : Prop where
  pg : PG X tg (tGt X.K X.mg T I g)
structure VGs (X : Cx) (T : List (Addr × Str)) (I : Nat → Bool) (tg : List Expr) (g : List PV → PEnv → Option PEnv) : Prop where
  pg : PGs X tg (tGts X.K X.mg T I g)
theorem _root_.L2.PG.imV {X : Cx} {e : Expr} {t t' : TG} (h : PG X e t) (f : ∀ v σ H Q, t' v σ H Q → t v σ H Q) : PG X e t' := ⟨fun pins s σ H v u Q I r q => h.run pins s σ H v u Q I r (f _ _ _ _ q)⟩
theorem _root_.L2.PGs.imV {X : Cx} {e : List Expr} {t t' : TGs} (h : PGs X e t) (f : ∀ v σ H Q, t' v σ H Q → t v σ H Q) : PGs X e t' := ⟨fun pins s σ H v u Q I r q => h.run pins s σ H v u Q I r (f _ _ _ _ q)⟩
theorem VG.ex {X : Cx} {T : List (Addr × Str)} {I : Nat → Bool} {tg : Expr} {g : MG} (h : VG X T I tg g) : ∃ t, PG X tg t ∧ ∀ (p : PV) (v : V) (σ : St) (w : Wo) (ρ ρ' : PEnv) (Q : St → Hp → Prop), Ev X.K X.mg T w σ ρ → Rep X.K X.mg w.G p v → g p ρ = some ρ' →
    (∀ σ' w', Ext w w' → Ev X.K X.mg T w' σ' ρ' → Keep I σ σ' → Q σ' w'.H) → t v σ w.H Q := ⟨_, h.pg, fun p v σ w ρ ρ' Q E r e k => ⟨p, ρ, ρ', w, rfl, E, r, e, k⟩⟩
theorem VGs.ex {X : Cx} {T : List (Addr × Str)} {I : Nat → Bool} {tg : List Expr} {g : List PV → PEnv → Option PEnv} (h : VGs X T I tg g) : ∃ t, PGs X tg t ∧ ∀ (p : List PV) (v : List V) (σ : St) (w : Wo) (ρ ρ' : PEnv) (Q : St → Hp → Prop), Ev X.K X.mg T w σ ρ → Reps X.K X.mg w.G p v → g p ρ = some ρ' →
    (∀ σ' w', Ext w w' → Ev X.K X.mg T w' σ' ρ' → Keep I σ σ' → Q σ' w'.H) → t v σ w.H Q := ⟨_, h.pg, fun p v σ w ρ ρ' Q E r e k => ⟨p, ρ, ρ', w, rfl, E, r, e, k⟩⟩
def gSlot (i : Nat) : MG := fun p ρ => some (ρ.set i (.fr p))
def gNilP : List PV → PEnv → Option PEnv := fun ps ρ => match ps with
  | [] => some ρ
  | _ => none
def gConsP (g : MG) (r : List PV → PEnv → Option PEnv) : List PV → PEnv → Option PEnv := fun ps ρ => match ps with
  | [] => none
  | p :: ps => (g p ρ).bind (r ps)
def gTupP (g : List PV → PEnv → Option PEnv) : MG := fun p ρ => match p with
  | .tup ps => g ps ρ
  | _ => none
def mAsg (g : MG) (m : M PV) : MS := sThen m fun p ρ => match g p ρ with
  | some ρ' => .nx ρ'
  | none => .bad
section
variable {X : Cx} {T : List (Addr × Str)} {I : Nat → Bool} {W : WX} {e tg : Expr} {es : List Expr} {ma : M PV} {pos : Pos} {g : MG} {gs : List PV → PEnv → Option PEnv}
theorem vg_name {i : Nat} {x : Str} (hN : X.N.Nodup) (hi : X.N[i]? = some x) (hx : Loc X.env.scope x) (hI : I i = false) (hf : X.fn x = true ∨ X.env.scope.names.lookup x = some .local := by first | exact .inl rfl | exact .inr rfl | assumption) : VG X T I (.Name x pos) (gSlot i) :=
  ⟨(pg_name hN hi hx hf).imV fun v σ H Q q => by
    obtain ⟨p, ρ, ρ', w, rfl, E, r, e, k⟩ := q
    cases e
    obtain ⟨S', E2, x2, _⟩ := E.setFr i r
    exact k _ ⟨w.G, w.H, S'⟩ x2 E2 (Keep.set hI)⟩
theorem vgs_nil : VGs X T I [] gNilP := ⟨pgs_nil.imV fun v σ H Q q => by
  obtain ⟨p, ρ, ρ', w, rfl, E, r, e, k⟩ := q
  unfold gNilP at e
  split at e
  · cases e; cases r; exact ⟨rfl, k σ w (Ext.refl _) E (Keep.refl _)⟩
  · cases e⟩
theorem vgs_cons (h1 : VG X T I e g) (h2 : VGs X T I es gs) (hs : (assignEach (e :: es) X.env).map (·.2) = assign e X.env :: (assignEach es X.env).map (·.2) := by rfl) : VGs X T I (e :: es) (gConsP g gs) := by
  obtain ⟨t1, p1, k1⟩ := h1.ex
  obtain ⟨t2, p2, k2⟩ := h2.ex
  refine ⟨(pgs_cons p1 p2 hs).imV fun v σ H Q q => ?_⟩
  obtain ⟨p, ρ, ρ', w, rfl, E, r, e, k⟩ := q
  unfold gConsP at e
  split at e
  · cases e
  · rename_i q qs
    obtain ⟨u, us, rfl, ru, rus⟩ := r
    cases e1 : g q ρ with
    | none => rw [e1] at e; cases e
    | some ρ1 =>
      rw [e1] at e
      exact ⟨u, us, rfl, k1 q u σ w ρ ρ1 _ E ru e1 fun σ1 w1 x1 E1 kp1 => k2 qs us σ1 w1 ρ1 ρ' _ E1 (rus.mono x1.g) e fun σ2 w2 x2 E2 kp2 => k σ2 w2 (x1.trans x2) E2 (kp1.trans kp2)⟩
theorem vg_tup {k n : Nat} (hc : X.calm = true) (h : VGs X T I es gs) (hz : ∀ ps ρ ρ', gs ps ρ = some ρ' → ps.length = n) (hn : (assignEach es X.env).length = n := by rfl) (hst : (assignEach es X.env).findIdx? (·.1) = none := by rfl) : VG X T I (.Tuple es k pos) (gTupP gs) := by
  obtain ⟨t, p1, k1⟩ := h.ex
  refine ⟨(pg_tup hc p1 hn hst).imV fun v σ H Q q => ?_⟩
  obtain ⟨p, ρ, ρ', w, rfl, E, r, e, k⟩ := q
  unfold gTupP at e
  split at e
  · rename_i ps
    obtain ⟨a, vs, rfl, hs, rv⟩ := r
    exact ⟨a, vs, rfl, E.sub.sqT hs, by rw [← rv.length]; exact hz _ _ _ e, k1 ps vs σ w ρ ρ' Q E rv e k⟩
  · cases e
theorem gLen_nil : ∀ ps ρ ρ', gNilP ps ρ = some ρ' → ps.length = 0 := fun ps ρ ρ' h => by
  unfold gNilP at h
  split at h
  · rfl
  · cases h
theorem gLen_cons {n : Nat} (h : ∀ ps ρ ρ', gs ps ρ = some ρ' → ps.length = n) : ∀ ps ρ ρ', gConsP g gs ps ρ = some ρ' → ps.length = n + 1 := fun ps ρ ρ' e => by
  unfold gConsP at e
  split at e
  · cases e
  · rename_i q qs
    cases e1 : g q ρ with
    | none => rw [e1] at e; cases e
    | some ρ1 => rw [e1] at e; rw [List.length_cons, h qs ρ1 ρ' e]
theorem vs_asg (he : VE X T W e ma) (hg : VG X T I tg g) (hs : swapsWithSole [tg] e pos.line X.env = pure false := by rfl) (hw : swappedStores [tg] e X.env = pure none := by rfl)
    (h1 : (assignEach [tg] X.env).map (·.2) = [assign tg X.env] := by rfl) : VS X T I W (.Assign [tg] e pos) (mAsg g ma) := by
  obtain ⟨t, p1, k1⟩ := hg.ex
  refine ⟨(ps_asg he.pe p1 hs hw h1).imV fun D σ H q => ?_⟩
  refine sG_step q fun pa ρ1 x w1 E1 r1 q1 => ?_
  split at q1
  · rename_i ρ' e
    exact k1 pa x σ w1 ρ1 ρ' _ E1 r1 e q1
  · exact q1.elim
/-- a, b = x, y -/
def mPar (i j : Nat) (m : M (List PV)) : MS := sThen m fun ps ρ => match ps with
  | [p, q] => .nx ((ρ.set i (.fr p)).set j (.fr q))
  | _ => .bad
theorem vs_par {i j : Nat} {x y : Str} {a b : Expr} {ml : M (List PV)} {px py pt : Pos} {kt k2 pt2} (hc : X.calm = true) (hN : X.N.Nodup) (hi : X.N[i]? = some x) (hj : X.N[j]? = some y) (hij : i ≠ j)
    (hx : X.env.scope.names.lookup x = some .local) (hy : X.env.scope.names.lookup y = some .local) (ha : VA X T W [a, b] ml) (hI : I i = false) (hJ : I j = false)
    (hw : swappedStores [.Tuple [.Name x px, .Name y py] kt pt] (.Tuple [a, b] k2 pt2) X.env = pure (some [x, y]))
    (hs : swapsWithSole [.Tuple [.Name x px, .Name y py] kt pt] (.Tuple [a, b] k2 pt2) pos.line X.env = pure false := by rfl) :
    VS X T I W (.Assign [.Tuple [.Name x px, .Name y py] kt pt] (.Tuple [a, b] k2 pt2) pos) (mPar i j ml) := ⟨(ps_par hc hN hi hj hij hx hy ha.pa hw hs).imV fun D σ H q => by
  refine sG_step q fun pa ρ1 x w1 E1 r1 q1 => ?_
  split at q1
  · obtain ⟨u, us, rfl, ru, u2, us2, rfl, ru2, e⟩ := r1
    cases e
    refine ⟨u, u2, rfl, ?_⟩
    obtain ⟨S2, E2, x2, _⟩ := E1.setFr i ru
    obtain ⟨S3, E3, x3, _⟩ := E2.setFr j (v := u2) (ru2.mono x2.g)
    exact q1 _ ⟨w1.G, w1.H, S3⟩ (x2.trans x3) E3 ((Keep.set hI).trans (Keep.set hJ))
  · exact q1.elim⟩
end

/-! ### loops -/
def forM (body : PV → MS) : List PV → MS
  | [], ρ => .nx ρ
  | p :: ps, ρ => match body p ρ with
    | .nx ρ' => forM body ps ρ'
    | .ct ρ' => forM body ps ρ'
    | .bk ρ' => .nx ρ'
    | .rt p ρ' => .rt p ρ'
    | .err x ρ' => .err x ρ'
    | .bad => .bad
def bodyM (g : MG) (b : MS) : PV → MS := fun p ρ => match g p ρ with
  | some ρ' => b ρ'
  | none => .bad
def mFor (mi : M (List PV)) (g : MG) (b : MS) : MS := sThen mi fun ps => forM (bodyM g b) ps
/-- the iterator J yields ps -/
structure ItOk (K : Frag) (mg : Str → Option Value) (G0 : Hp) (J : It) (ps : List PV) : Prop where
  go : ∀ (i : Nat) (p : PV) (G H : Hp), Sub G0 G → Fz G H → ps[i]? = some p → J.go i H ∧ ∀ x H', J.yld i H x H' → ∃ G', Pure G H G' H' ∧ Rep K mg G' p x
  stop : ∀ (i : Nat) (G H : Hp), Sub G0 G → Fz G H → ps.length ≤ i → J.stop i H
def RI (K : Frag) (mg : Str → Option Value) : Hp → List PV → It → Prop := fun G ps J => ItOk K mg G J ps
structure VI (X : Cx) (T : List (Addr × Str)) (W : WX) (tg e : Expr) (m : M (List PV)) : Prop where
  pi : PI X tg e (tG X.K X.mg T (RI X.K X.mg) W m)
theorem _root_.L2.PI.imV {X : Cx} {tg e : Expr} {t t' : TI} (h : PI X tg e t) (f : ∀ σ H Q, t' σ H Q → t σ H Q) : PI X tg e t' := ⟨fun pins s σ H Q I q => h.run pins s σ H Q I (f _ _ _ q)⟩
section
variable {X : Cx} {T : List (Addr × Str)} {I : Nat → Bool} {W : WX} {e tg iter c : Expr} {body : List Stmt} {mi : M (List PV)} {g : MG} {mb : MS} {mt : M Bool} {pos : Pos}
theorem vs_for (hp : PassesOwn (model X.prog X.w) X.A X.env X.xe) (hc : X.calm = true) (hi : VI X T W tg iter mi) (hg : VG X T I tg g) (hb : VSs X T I W body mb) (hs : ∀ x, foldedSetIterable iter X.env x = pure x := by intro _; rfl) :
    VS X T I W (.For tg iter body [] pos) (mFor mi g mb) := by
  obtain ⟨t, p1, k1⟩ := hg.ex
  refine ⟨(ps_for hp hc hi.pi p1 hb.ps hs).imV fun D σ H q => ?_⟩
  refine sG_step q fun ps ρ1 J w1 E1 J1 q1 => ?_
  refine ⟨fun i m σ2 H2 => m + i = ps.length ∧ ∃ ρ2 w2, w2.H = H2 ∧ Ext w1 w2 ∧ Ev X.K X.mg T w2 σ2 ρ2 ∧ Keep I σ σ2 ∧ tKS X.K X.mg T I W σ w1 D (forM (bodyM g mb) (ps.drop i) ρ2), ⟨ps.length, rfl, ρ1, w1, rfl, Ext.refl _, E1, Keep.refl _, by simpa using q1⟩, ?_⟩
  rintro i m σ2 H2 ⟨hm, ρ2, w2, rfl, x2, E2, kp2, h2⟩
  by_cases hlt : i < ps.length
  · obtain ⟨gi, yi⟩ := J1.go i ps[i] w2.G w2.H x2.g E2.fz (List.getElem?_eq_getElem hlt)
    refine .inr ⟨gi, fun σ' H' => ∃ ρ3 w3, w3.H = H' ∧ Ext w1 w3 ∧ Ev X.K X.mg T w3 σ' ρ3 ∧ Keep I σ σ' ∧ tKS X.K X.mg T I W σ w1 D (forM (bodyM g mb) (ps.drop (i + 1)) ρ3), fun σ' H' h => ⟨m - 1, by omega, by omega, h⟩, fun x H' y => ?_⟩
    obtain ⟨G', P, rx⟩ := yi x H' y
    obtain ⟨E3, x3⟩ := E2.pure P
    rw [List.drop_eq_getElem_cons hlt] at h2
    unfold forM bodyM at h2
    cases eg : g ps[i] ρ2 with
    | none => rw [eg] at h2; exact h2.elim
    | some ρ3 =>
      rw [eg] at h2
      dsimp only at h2
      refine k1 ps[i] x σ2 ⟨G', H', w2.S⟩ ρ2 ρ3 _ E3 rx eg fun σ4 w4 x4 E4 kp4 => ?_
      refine ⟨ρ3, w4, rfl, E4, ?_⟩
      have x14 := (x2.trans x3).trans x4
      have kp14 := kp2.trans kp4
      cases eb : mb ρ3 with
      | nx ρ5 => rw [eb] at h2; exact fun σ5 w5 x5 E5 kp5 => ⟨ρ5, w5, rfl, x14.trans x5, E5, kp14.trans kp5, h2⟩
      | ct ρ5 => rw [eb] at h2; exact fun σ5 w5 x5 E5 kp5 => ⟨ρ5, w5, rfl, x14.trans x5, E5, kp14.trans kp5, h2⟩
      | bk ρ5 => rw [eb] at h2; exact fun σ5 w5 x5 E5 kp5 => h2 σ5 w5 (x14.trans x5) E5 (kp14.trans kp5)
      | rt p ρ5 => rw [eb] at h2; exact fun v σ5 w5 x5 E5 kp5 r => h2 v σ5 w5 (x14.trans x5) E5 (kp14.trans kp5) r
      | err x ρ5 => rw [eb] at h2; exact fun cl d σ5 w5 x5 E5 kp5 r => h2 cl d σ5 w5 (x14.trans x5) E5 (kp14.trans kp5) r
      | bad => rw [eb] at h2; exact h2
  · refine .inl ⟨J1.stop i w2.G w2.H x2.g E2.fz (by omega), ?_⟩
    rw [List.drop_eq_nil_of_le (by omega)] at h2
    exact h2 σ2 w2 x2 E2 kp2
/-- while -/
def whileN (c : M Bool) (b : MS) : Nat → MS
  | 0, _ => .bad
  | n + 1, ρ => match c ρ with
    | .ok true ρ' => (match b ρ' with
      | .nx ρ2 => whileN c b n ρ2
      | .ct ρ2 => whileN c b n ρ2
      | .bk ρ2 => .nx ρ2
      | .rt p ρ2 => .rt p ρ2
      | .err x ρ2 => .err x ρ2
      | .bad => .bad)
    | .ok false ρ' => .nx ρ'
    | .err x ρ' => .err x ρ'
    | .bad => .bad
open Classical in
noncomputable def mWhile (c : M Bool) (b : MS) : MS := fun ρ => if h : ∃ n, whileN c b n ρ ≠ .bad then whileN c b h.choose ρ else .bad
theorem whileN_mono (c : M Bool) (b : MS) : ∀ (n : Nat) (ρ : PEnv), whileN c b n ρ ≠ .bad → whileN c b (n + 1) ρ = whileN c b n ρ
  | 0, ρ, h => absurd rfl h
  | n + 1, ρ, h => by
    rw [whileN] at h ⊢
    rw [whileN]
    cases e : c ρ with
    | ok t ρ' =>
      rw [e] at h
      cases t with
      | false => rfl
      | true =>
        dsimp only at h ⊢
        cases e2 : b ρ' with
        | nx ρ2 => rw [e2] at h; exact whileN_mono c b n ρ2 h
        | ct ρ2 => rw [e2] at h; exact whileN_mono c b n ρ2 h
        | bk ρ2 => rfl
        | rt p ρ2 => rfl
        | err x ρ2 => rfl
        | bad => rfl
    | err x ρ' => rfl
    | bad => rfl
theorem whileN_le (c : M Bool) (b : MS) {n m : Nat} {ρ : PEnv} (h : n ≤ m) (hb : whileN c b n ρ ≠ .bad) : whileN c b m ρ = whileN c b n ρ := by
  induction h with
  | refl => rfl
  | step h ih => rw [whileN_mono c b _ ρ (by rw [ih]; exact hb), ih]
theorem mWhile_eq {c : M Bool} {b : MS} {ρ : PEnv} {n : Nat} {r : SR} (h : whileN c b n ρ = r) (hb : r ≠ .bad) : mWhile c b ρ = r := by
  have hx : ∃ n, whileN c b n ρ ≠ .bad := ⟨n, by rw [h]; exact hb⟩
  unfold mWhile
  rw [dif_pos hx]
  rcases Nat.le_total n hx.choose with z | z
  · rw [whileN_le c b z (by rw [h]; exact hb), h]
  · rw [← h, whileN_le c b z hx.choose_spec]
theorem vs_while (hp : PassesOwn (model X.prog X.w) X.A X.env X.xe) (hc : VT X T W c mt) (hb : VSs X T I W body mb) : VS X T I W (.While c body [] pos) (mWhile mt mb) := ⟨(ps_while hp hc.pt hb.ps).imV fun D σ H q => by
  obtain ⟨ρ, w, rfl, E, q⟩ := q
  unfold mWhile at q
  split at q
  · rename_i hx
    refine ⟨fun m σ2 H2 => ∃ ρ2 w2, w2.H = H2 ∧ Ext w w2 ∧ Ev X.K X.mg T w2 σ2 ρ2 ∧ Keep I σ σ2 ∧ tKS X.K X.mg T I W σ w D (whileN mt mb m ρ2), ⟨_, ρ, w, rfl, Ext.refl _, E, Keep.refl _, q⟩, ?_⟩
    rintro m σ2 H2 ⟨ρ2, w2, rfl, x2, E2, kp2, h2⟩
    cases m with
    | zero => exact h2.elim
    | succ n =>
      rw [whileN] at h2
      refine ⟨ρ2, w2, rfl, E2, ?_⟩
      cases e : mt ρ2 with
      | bad => rw [e] at h2; exact h2.elim
      | err x ρ3 => rw [e] at h2; exact fun cl d w3 x3 E3 r => h2 cl d σ2 w3 (x2.trans x3) E3 kp2 r
      | ok t ρ3 =>
        rw [e] at h2
        rintro b w3 x3 E3 rfl
        cases b with
        | false => rw [if_neg Bool.false_ne_true]; exact h2 σ2 w3 (x2.trans x3) E3 kp2
        | true =>
          rw [if_pos rfl]
          dsimp only at h2
          refine ⟨fun σ' H' => ∃ ρ4 w4, w4.H = H' ∧ Ext w w4 ∧ Ev X.K X.mg T w4 σ' ρ4 ∧ Keep I σ σ' ∧ tKS X.K X.mg T I W σ w D (whileN mt mb n ρ4), fun σ' H' h => ⟨n, Nat.lt_succ_self _, h⟩, ρ3, w3, rfl, E3, ?_⟩
          have x13 := x2.trans x3
          cases eb : mb ρ3 with
          | nx ρ5 => rw [eb] at h2; exact fun σ5 w5 x5 E5 kp5 => ⟨ρ5, w5, rfl, x13.trans x5, E5, kp2.trans kp5, h2⟩
          | ct ρ5 => rw [eb] at h2; exact fun σ5 w5 x5 E5 kp5 => ⟨ρ5, w5, rfl, x13.trans x5, E5, kp2.trans kp5, h2⟩
          | bk ρ5 => rw [eb] at h2; exact fun σ5 w5 x5 E5 kp5 => h2 σ5 w5 (x13.trans x5) E5 (kp2.trans kp5)
          | rt p ρ5 => rw [eb] at h2; exact fun v σ5 w5 x5 E5 kp5 r => h2 v σ5 w5 (x13.trans x5) E5 (kp2.trans kp5) r
          | err x ρ5 => rw [eb] at h2; exact fun cl d σ5 w5 x5 E5 kp5 r => h2 cl d σ5 w5 (x13.trans x5) E5 (kp2.trans kp5) r
          | bad => rw [eb] at h2; exact h2.elim
  · exact q.elim⟩
end
end VS

set_option Elab.async false
set_option linter.all false
set_option maxRecDepth 100000
set_option maxHeartbeats 1000000
namespace VS
open PySem PySem.Spec PyProof.Rows L2

/-! ### calls -/
inductive Arg where
  | val (p : PV) | slot (i : Nat)
def RArg (K : Frag) (mg : Str → Option Value) (σ : St) (G : Hp) : Arg → V → Prop
  | .val p, v => Rep K mg G p v
  | .slot i, v => σ[i]? = some (some v)
def RArgs (K : Frag) (mg : Str → Option Value) (σ : St) : Hp → List Arg → List V → Prop := fun G as vs => Paired (RArg K mg σ G) as vs
theorem RArgs.mono {K : Frag} {mg : Str → Option Value} {σ : St} {G G' : Hp} (h : Sub G G') : ∀ {as : List Arg} {vs : List V}, RArgs K mg σ G as vs → RArgs K mg σ G' as vs
  | _, _, .nil => .nil
  | .val p :: _, _, .cons r t => .cons (Rep.mono h r : Rep K mg G' p _) (RArgs.mono h t)
  | .slot i :: _, _, .cons r t => .cons r (RArgs.mono h t)
theorem RArgs.get {K : Frag} {mg : Str → Option Value} {σ : St} {G : Hp} : ∀ {as : List Arg} {vs : List V} {k : Nat} {a : Arg}, RArgs K mg σ G as vs → as[k]? = some a → ∃ v, vs[k]? = some v ∧ RArg K mg σ G a v
  | _, _, _, _, .nil, e => by simp at e
  | _, _, 0, _, .cons r t, e => by simp at e; subst e; exact ⟨_, rfl, r⟩
  | _, _, k + 1, _, .cons r t, e => by
    obtain ⟨v, h1, h2⟩ := RArgs.get (k := k) t (by simpa using e)
    exact ⟨v, by simpa using h1, h2⟩
theorem RArgs.length {K : Frag} {mg : Str → Option Value} {σ : St} {G : Hp} {as : List Arg} {vs : List V} (h : RArgs K mg σ G as vs) : as.length = vs.length := Paired.length h
def slotOf : Arg → Option Nat
  | .slot i => some i
  | .val _ => none
def idx (i : Nat) : List Arg → Option Nat
  | [] => none
  | .slot j :: r => if j = i then some 0 else (idx i r).map (· + 1)
  | .val _ :: r => (idx i r).map (· + 1)
theorem idx_get {i : Nat} : ∀ {as : List Arg} {k : Nat}, idx i as = some k → as[k]? = some (.slot i)
  | [], k, h => by cases h
  | .slot j :: r, k, h => by
    unfold idx at h
    split at h
    · cases h; rename_i e; subst e; rfl
    · cases e : idx i r with
      | none => rw [e] at h; cases h
      | some k' => rw [e] at h; cases h; simpa using idx_get e
  | .val _ :: r, k, h => by
    unfold idx at h
    cases e : idx i r with
    | none => rw [e] at h; cases h
    | some k' => rw [e] at h; cases h; simpa using idx_get e
theorem idx_of {i : Nat} : ∀ {as : List Arg} {k : Nat}, (as.filterMap slotOf).Nodup → as[k]? = some (.slot i) → idx i as = some k
  | [], k, _, h => by simp at h
  | .slot j :: r, 0, hn, h => by
    simp at h; subst h; simp [idx]
  | .slot j :: r, k + 1, hn, h => by
    have h' : r[k]? = some (.slot i) := by simpa using h
    rw [List.filterMap_cons] at hn
    have hn2 : (j :: r.filterMap slotOf).Nodup := hn
    obtain ⟨hj, hr⟩ := List.nodup_cons.mp hn2
    have hne : j ≠ i := fun e => by
      subst e
      exact hj (List.mem_filterMap.mpr ⟨.slot j, List.mem_of_getElem? h', rfl⟩)
    unfold idx
    rw [if_neg hne, idx_of hr h']
    rfl
  | .val _ :: r, 0, hn, h => by simp at h
  | .val _ :: r, k + 1, hn, h => by
    have h' : r[k]? = some (.slot i) := by simpa using h
    unfold idx
    rw [idx_of (as := r) (by rw [List.filterMap_cons] at hn; exact hn) h']
    rfl
def argSl (ρ : PEnv) : List Arg → Option (List Sl)
  | [] => some []
  | .val p :: r => (argSl ρ r).map (Sl.fr p :: ·)
  | .slot i :: r => match ρ[i]? with
    | some (.ow o) => (argSl ρ r).map (Sl.ow o :: ·)
    | _ => none
def putBack (as : List Arg) (ss : List Sl) : Nat → PEnv → PEnv
  | _, [] => []
  | j, s :: r => (match idx j as with | some k => ss.getD k .no | none => s) :: putBack as ss (j + 1) r
theorem putBack_length (as : List Arg) (ss : List Sl) : ∀ (j : Nat) (ρ : PEnv), (putBack as ss j ρ).length = ρ.length
  | _, [] => rfl
  | j, s :: r => by simp [putBack, putBack_length as ss (j + 1) r]
theorem putBack_get (as : List Arg) (ss : List Sl) : ∀ (j i : Nat) (ρ : PEnv), (putBack as ss j ρ)[i]? = (ρ[i]?).map fun s => match idx (j + i) as with | some k => ss.getD k .no | none => s
  | _, _, [] => by simp [putBack]
  | j, 0, s :: r => by simp [putBack]
  | j, i + 1, s :: r => by
    simp only [putBack, List.getElem?_cons_succ]
    rw [putBack_get as ss (j + 1) i r, Nat.add_assoc, Nat.add_comm 1 i]
theorem argSl_get {ρ : PEnv} : ∀ {as : List Arg} {ss : List Sl} {k : Nat} {s : Sl}, argSl ρ as = some ss → ss[k]? = some s → (∃ p, as[k]? = some (.val p) ∧ s = .fr p) ∨ ∃ i o, as[k]? = some (.slot i) ∧ ρ[i]? = some (.ow o) ∧ s = .ow o
  | [], ss, k, s, h, e => by cases h; simp at e
  | .val p :: r, ss, k, s, h, e => by
    unfold argSl at h
    cases q : argSl ρ r with
    | none => rw [q] at h; cases h
    | some ss' =>
      rw [q] at h; cases h
      cases k with
      | zero => simp at e; subst e; exact .inl ⟨p, rfl, rfl⟩
      | succ k => simpa using argSl_get q (by simpa using e)
  | .slot i :: r, ss, k, s, h, e => by
    unfold argSl at h
    split at h
    · rename_i o ho
      cases q : argSl ρ r with
      | none => rw [q] at h; cases h
      | some ss' =>
        rw [q] at h; cases h
        cases k with
        | zero => simp at e; subst e; exact .inr ⟨i, o, rfl, ho, rfl⟩
        | succ k => simpa using argSl_get q (by simpa using e)
    · cases h
theorem argSl_length {ρ : PEnv} : ∀ {as : List Arg} {ss : List Sl}, argSl ρ as = some ss → ss.length = as.length
  | [], ss, h => by cases h; rfl
  | .val p :: r, ss, h => by
    unfold argSl at h
    cases q : argSl ρ r with
    | none => rw [q] at h; cases h
    | some ss' => rw [q] at h; cases h; simp [argSl_length q]
  | .slot i :: r, ss, h => by
    unfold argSl at h
    split at h
    · cases q : argSl ρ r with
      | none => rw [q] at h; cases h
      | some ss' => rw [q] at h; cases h; simp [argSl_length q]
    · cases h
theorem argSl_slot {ρ : PEnv} : ∀ {as : List Arg} {ss : List Sl} {k i : Nat}, argSl ρ as = some ss → as[k]? = some (.slot i) → ∃ o, ρ[i]? = some (.ow o) ∧ ss[k]? = some (.ow o)
  | [], ss, k, i, h, e => by simp at e
  | .val p :: r, ss, k, i, h, e => by
    unfold argSl at h
    cases q : argSl ρ r with
    | none => rw [q] at h; cases h
    | some ss' =>
      rw [q] at h; cases h
      cases k with
      | zero => simp at e
      | succ k => simpa using argSl_slot q (by simpa using e)
  | .slot j :: r, ss, k, i, h, e => by
    unfold argSl at h
    split at h
    · rename_i o ho
      cases q : argSl ρ r with
      | none => rw [q] at h; cases h
      | some ss' =>
        rw [q] at h; cases h
        cases k with
        | zero => simp at e; subst e; exact ⟨o, ho, rfl⟩
        | succ k => simpa using argSl_slot q (by simpa using e)
    · cases h
section
variable {K : Frag} {mg : Str → Option Value} {T : List (Addr × Str)} {w w1 : Wo} {σ : St} {ρ : PEnv} {as : List Arg} {vs : List V} {ss ss' : List Sl}
theorem call_sm (E : Ev K mg T w σ ρ) (ha : RArgs K mg σ w.G as vs) (hn : (as.filterMap slotOf).Nodup) (hs : argSl ρ as = some ss) : ∃ Sa : Addr → Prop, Ev K mg T ⟨w.G, w.H, Sa⟩ (vs.map some) ss ∧
    ∀ w1 ss', Ext ⟨w.G, w.H, Sa⟩ w1 → Ev K mg T w1 (vs.map some) ss' → ∃ S', Ev K mg T ⟨w1.G, w1.H, S'⟩ σ (putBack as ss' 0 ρ) ∧ Ext w ⟨w1.G, w1.H, S'⟩ := by
  obtain ⟨F, f1, f2, f3, f4⟩ := E.ex
  have inS : ∀ x, (∃ (k : Nat) (i : Nat), as[k]? = some (Arg.slot i) ∧ F i x) → w.S x := fun x ⟨k, i, _, h⟩ => (f1 x).mpr ⟨i, h⟩
  refine ⟨fun x => ∃ (k : Nat) (i : Nat), as[k]? = some (Arg.slot i) ∧ F i x, ⟨E.sub, E.nt, fun a h => E.sn a (inS a h), E.tab, by rw [List.length_map, ← ha.length, argSl_length hs], fun k p e => ?_, fun k x => ∃ i, as[k]? = some (Arg.slot i) ∧ F i x, fun x => Iff.rfl, fun k o e => ?_, fun k k' x h1 h2 => ?_, fun k x h => ?_⟩, ?_⟩
  · rcases argSl_get hs e with ⟨q, h1, h2⟩ | ⟨i, o, h1, h2, h3⟩
    · cases h2
      obtain ⟨v, hv, r⟩ := ha.get h1
      exact ⟨v, by rw [List.getElem?_map, hv]; rfl, r⟩
    · cases h3
  · rcases argSl_get hs e with ⟨q, h1, h2⟩ | ⟨i, o', h1, h2, h3⟩
    · cases h2
    · cases h3
      obtain ⟨a, hσ, r⟩ := f2 i o h2
      obtain ⟨v, hv, r'⟩ := ha.get h1
      have e1 : some (some v) = some (some (V.ref a)) := (show σ[i]? = some (some v) from r').symm.trans hσ
      have e2 : v = .ref a := Option.some.inj (Option.some.inj e1)
      subst e2
      refine ⟨a, by rw [List.getElem?_map, hv]; rfl, ?_⟩
      have : (fun x => ∃ i', as[k]? = some (Arg.slot i') ∧ F i' x) = F i := funext fun x => propext ⟨fun ⟨i', e', h⟩ => by
        rw [h1] at e'; cases e'; exact h, fun h => ⟨i, h1, h⟩⟩
      exact Eq.mpr (congrArg (Own K mg w.G w.H _ a) this) r
  · obtain ⟨i, e1, h1⟩ := h1
    obtain ⟨i', e2, h2⟩ := h2
    have := f3 i i' x h1 h2
    subst this
    have := (idx_of hn e1).symm.trans (idx_of hn e2)
    exact Option.some.inj this
  · obtain ⟨i, e1, h1⟩ := h
    obtain ⟨o, _, h⟩ := argSl_slot hs e1
    exact ⟨o, h⟩
  · intro w1 ss' x E1
    obtain ⟨F1, g1, g2, g3, g4⟩ := E1.ex
    have nSa : ∀ {i y}, idx i as = none → F i y → ¬ ∃ (k : Nat) (i : Nat), as[k]? = some (Arg.slot i) ∧ F i y := fun {i y} hi hy ⟨k, i', e, h⟩ => by
      have := f3 i i' y hy h
      subst this
      rw [idx_of hn e] at hi; cases hi
    have dis : ∀ {i k y}, idx i as = none → F i y → F1 k y → False := fun {i k y} hi hy h1 => by
      rcases x.ns y ((g1 y).mpr ⟨k, h1⟩) with z | z
      · exact nSa hi hy z
      · obtain ⟨o, ho, _⟩ := E.sn y ((f1 y).mpr ⟨i, hy⟩)
        rw [show w.H y = none from z] at ho; cases ho
    refine ⟨fun y => ∃ i, (∃ k, idx i as = some k ∧ F1 k y) ∨ (idx i as = none ∧ F i y), ⟨E1.sub, E1.nt, fun a h => ?_, E1.tab, by rw [putBack_length]; exact E.len, fun i p e => ?_, fun i y => (∃ k, idx i as = some k ∧ F1 k y) ∨ (idx i as = none ∧ F i y), fun y => Iff.rfl, fun i o e => ?_, fun i j y h1 h2 => ?_, fun i y h => ?_⟩,
      x.g, fun a o h hS hN => ?_, x.dom, fun a o h => ?_, fun a h => ?_⟩
    · obtain ⟨i, ⟨k, _, h⟩ | ⟨hi, h⟩⟩ := h
      · exact E1.sn a ((g1 a).mpr ⟨k, h⟩)
      · obtain ⟨o, ho, hN⟩ := E.sn a ((f1 a).mpr ⟨i, h⟩)
        exact ⟨o, x.h a o ho (nSa hi h) hN, hN⟩
    · rw [putBack_get, Nat.zero_add] at e
      cases q : ρ[i]? with
      | none => rw [q] at e; cases e
      | some s =>
        rw [q] at e
        have e := Option.some.inj e
        cases hi : idx i as with
        | none =>
          rw [hi] at e
          dsimp only at e
          subst e
          obtain ⟨v, hv, r⟩ := E.fr i p q
          exact ⟨v, hv, r.mono x.g⟩
        | some k =>
          rw [hi] at e
          dsimp only at e
          have e' : ss'[k]? = some (.fr p) := by
            rw [List.getD_eq_getElem?_getD] at e
            cases z : ss'[k]? with
            | none => rw [z] at e; cases e
            | some u => rw [z] at e; exact congrArg some e
          obtain ⟨v, hv, r⟩ := E1.fr k p e'
          obtain ⟨v', hv', r'⟩ := ha.get (idx_get hi)
          rw [List.getElem?_map, hv'] at hv
          obtain rfl : v' = v := Option.some.inj (Option.some.inj hv)
          exact ⟨v', r', r⟩
    · rw [putBack_get, Nat.zero_add] at e
      cases q : ρ[i]? with
      | none => rw [q] at e; cases e
      | some s =>
        rw [q] at e
        have e := Option.some.inj e
        cases hi : idx i as with
        | none =>
          rw [hi] at e
          dsimp only at e
          subst e
          obtain ⟨a, hv, r⟩ := f2 i o q
          refine ⟨a, hv, ?_⟩
          have : (fun y => (∃ k, idx i as = some k ∧ F1 k y) ∨ (idx i as = none ∧ F i y)) = F i := funext fun y => propext ⟨fun h => h.elim (fun ⟨k, z, _⟩ => by rw [hi] at z; cases z) (·.2), fun h => .inr ⟨hi, h⟩⟩
          refine Eq.mpr (congrArg (Own K mg w1.G w1.H o a) this) (r.mono x.g (fun y hy => ?_) fun y u hy hu => ?_)
          · cases z : w1.G y with
            | none => rfl
            | some u =>
              rcases x.ng y u z with z1 | z1 | z1
              · rw [(r.free.2 y hy).1] at z1; cases z1
              · exact (nSa hi hy z1).elim
              · obtain ⟨o', ho', _⟩ := (r.free.2 y hy).2
                rw [show w.H y = none from z1] at ho'; cases ho'
          · obtain ⟨o', ho', hN⟩ := (r.free.2 y hy).2
            rw [hu] at ho'; cases ho'
            exact x.h y u hu (nSa hi hy) hN
        | some k =>
          rw [hi] at e
          dsimp only at e
          have e' : ss'[k]? = some (.ow o) := by
            rw [List.getD_eq_getElem?_getD] at e
            cases z : ss'[k]? with
            | none => rw [z] at e; cases e
            | some u => rw [z] at e; exact congrArg some e
          obtain ⟨a, hv, r⟩ := g2 k o e'
          obtain ⟨v', hv', r'⟩ := ha.get (idx_get hi)
          rw [List.getElem?_map, hv'] at hv
          obtain rfl : v' = .ref a := Option.some.inj (Option.some.inj hv)
          refine ⟨a, r', ?_⟩
          have : (fun y => (∃ k', idx i as = some k' ∧ F1 k' y) ∨ (idx i as = none ∧ F i y)) = F1 k := funext fun y => propext ⟨fun h => h.elim (fun ⟨k', z, h⟩ => by rw [hi] at z; cases z; exact h) (fun z => by rw [hi] at z; cases z.1), fun h => .inl ⟨k, hi, h⟩⟩
          exact Eq.mpr (congrArg (Own K mg w1.G w1.H o a) this) r
    · rcases h1 with ⟨k, hk, h1⟩ | ⟨hi, h1⟩ <;> rcases h2 with ⟨k', hk', h2⟩ | ⟨hj, h2⟩
      · have := g3 k k' y h1 h2
        subst this
        have := (idx_get hk).symm.trans (idx_get hk')
        cases this; rfl
      · exact (dis hj h2 h1).elim
      · exact (dis hi h1 h2).elim
      · exact f3 i j y h1 h2
    · rw [putBack_get, Nat.zero_add]
      rcases h with ⟨k, hk, h⟩ | ⟨hi, h⟩
      · obtain ⟨o, ho⟩ := g4 k y h
        obtain ⟨o', hρ, _⟩ := argSl_slot hs (idx_get hk)
        refine ⟨o, ?_⟩
        rw [hρ, hk]
        show some (ss'.getD k .no) = _
        rw [List.getD_eq_getElem?_getD, ho]; rfl
      · obtain ⟨o, ho⟩ := f4 i y h
        exact ⟨o, by rw [ho, hi]; rfl⟩
    · exact x.h a o h (fun z => hS (inS a z)) hN
    · rcases x.ng a o h with z | z | z
      · exact .inl z
      · exact .inr (.inl (inS a z))
      · exact .inr (.inr z)
    · obtain ⟨i, ⟨k, _, h⟩ | ⟨hi, h⟩⟩ := h
      · rcases x.ns a ((g1 a).mpr ⟨k, h⟩) with z | z
        · exact .inl (inS a z)
        · exact .inr z
      · exact .inl ((f1 a).mpr ⟨i, h⟩)
end

/-! ### a def's promise, by its mirror -/
def spV (K : Frag) (mg : Str → Option Value) (T : List (Addr × Str)) (n : Nat) (m : M PV) : Sp := fun vs H Q E => vs.length = n ∧ tG K mg T (RV K mg) (fun cls d _ H => E cls d H) m (vs.map some) H Q
structure VAs (X : Cx) (T : List (Addr × Str)) (W : WX) (es : List Expr) (m : M (List Arg)) : Prop where
  pa : PA X es fun σ H Q => tG X.K X.mg T (RArgs X.K X.mg σ) W m σ H Q
  len : ∀ ρ as ρ', m ρ = .ok as ρ' → as.length = es.length
def mArgV (a : M PV) (r : M (List Arg)) : M (List Arg) := a.bind fun x => r.bind fun xs => .pure (.val x :: xs)
def mSlot (i : Nat) : M Arg := fun ρ => match ρ[i]? with
  | some (.fr p) => .ok (.val p) ρ
  | some (.ow _) => .ok (.slot i) ρ
  | _ => .bad
def mArgS (i : Nat) (r : M (List Arg)) : M (List Arg) := (mSlot i).bind fun x => r.bind fun xs => .pure (x :: xs)
def callR (mf : M PV) (as : List Arg) : M PV := fun ρ => if (as.filterMap slotOf).Nodup then (match argSl ρ as with
  | none => .bad
  | some ss => match mf ss with
    | .ok p ss' => .ok p (putBack as ss' 0 ρ)
    | .err x ss' => .err x (putBack as ss' 0 ρ)
    | .bad => .bad) else .bad
def mCall (mf : M PV) (ma : M (List Arg)) : M PV := ma.bind (callR mf)
section
variable {X : Cx} {T : List (Addr × Str)} {W : WX} {e a : Expr} {es : List Expr} {ma : M PV} {ms : M (List Arg)} {pos : Pos}
theorem vas_nil : VAs X T W [] (M.pure []) := ⟨pa_nil.imV fun σ H Q q => by
  obtain ⟨ρ, w, rfl, E, q⟩ := q
  exact q [] w (Ext.refl _) E .nil, fun ρ as ρ' h => by cases h; rfl⟩
theorem vas_val (h1 : VE X T W a ma) (h2 : VAs X T W es ms) (hs : starEach (a :: es) X.env = (false, eval a X.env) :: starEach es X.env := by rfl) : VAs X T W (a :: es) (mArgV ma ms) := ⟨(pa_cons h1.pe h2.pa hs).imV fun σ H Q q => by
  refine tG_step q fun pa ρ1 x w1 E1 r1 q1 => ?_
  refine tK_step E1 q1 fun pb ρ2 y w2 x2 E2 r2 q2 => ?_
  exact q2 _ w2 (Ext.refl _) E2 (.cons (Rep.mono x2.g r1 : Rep _ _ _ _ _) r2), fun ρ as ρ' h => by
    unfold mArgV M.bind at h
    split at h
    · dsimp only at h
      split at h
      · rename_i e; cases h; simp [h2.len _ _ _ e]
      · cases h
      · cases h
    · cases h
    · cases h⟩
theorem vas_slot {i : Nat} {x : Str} {p : Pos} (h1 : PE X (.Name x p) (tVar i)) (h2 : VAs X T W es ms) (hs : starEach (.Name x p :: es) X.env = (false, eval (.Name x p) X.env) :: starEach es X.env := by rfl) : VAs X T W (.Name x p :: es) (mArgS i ms) := ⟨(pa_cons h1 h2.pa hs).imV fun σ H Q q => by
  obtain ⟨ρ, w, rfl, E, q⟩ := q
  unfold mArgS mSlot M.bind at q
  dsimp only at q
  split at q
  · rename_i e1
    split at e1
    · rename_i p e
      cases e1
      obtain ⟨v, hv, r⟩ := E.fr i p e
      refine ⟨v, hv, ?_⟩
      refine tK_step (m := ms) (k := fun xs => M.pure (Arg.val p :: xs)) E q fun pb ρ2 y w2 x2 E2 r2 q2 => ?_
      exact q2 _ w2 (Ext.refl _) E2 (.cons (Rep.mono x2.g r : Rep _ _ _ _ _) r2)
    · rename_i o e
      cases e1
      obtain ⟨F, f1, f2, f3, f4⟩ := E.ex
      obtain ⟨u, hv, r⟩ := f2 i o e
      refine ⟨.ref u, hv, ?_⟩
      refine tK_step (m := ms) (k := fun xs => M.pure (Arg.slot i :: xs)) E q fun pb ρ2 y w2 x2 E2 r2 q2 => ?_
      exact q2 _ w2 (Ext.refl _) E2 (.cons (show σ[i]? = some (some (V.ref u)) from hv) r2)
    · cases e1
  · rename_i e1
    split at e1 <;> cases e1
  · exact q.elim, fun ρ as ρ' h => by
    unfold mArgS M.bind at h
    split at h
    · dsimp only at h
      split at h
      · rename_i e; cases h; simp [h2.len _ _ _ e]
      · cases h
      · cases h
    · cases h
    · cases h⟩
theorem sp_of {σ : St} {w : Wo} {ρ : PEnv} {as : List Arg} {vs : List V} {mf : M PV} {Q : VK} {n : Nat} (E : Ev X.K X.mg T w σ ρ) (ra : RArgs X.K X.mg σ w.G as vs) (hn : as.length = n) (q : tK X.K X.mg T (RV X.K X.mg) W σ w Q (callR mf as ρ)) : spV X.K X.mg T n mf vs w.H Q (WE W σ) := by
  unfold callR at q
  split at q
  · rename_i hnd
    split at q
    · exact q.elim
    · rename_i ss hs
      obtain ⟨Sa, E1, mrg⟩ := call_sm E ra hnd hs
      refine ⟨by rw [← ra.length, hn], ss, ⟨w.G, w.H, Sa⟩, rfl, E1, ?_⟩
      cases e : mf ss with
      | bad => rw [e] at q; exact q
      | ok p ss' =>
        rw [e] at q
        intro v w2 x2 E2 r2
        obtain ⟨S', E3, x3⟩ := mrg w2 ss' x2 E2
        exact q v ⟨w2.G, w2.H, S'⟩ x3 E3 r2
      | err x ss' =>
        rw [e] at q
        intro cls d w2 x2 E2 r2
        obtain ⟨S', E3, x3⟩ := mrg w2 ss' x2 E2
        exact q cls d ⟨w2.G, w2.H, S'⟩ x3 E3 r2
  · exact q.elim
theorem ve_call {k n : Nat} {f : Addr} {fd : FuncData} {ps : List Str} {x : Str} {p : Pos} {mf : M PV} (F : FnOk X.prog X.w X.K X.mg X.base (L2.CX X.prog X.w) k f fd ps (spV X.K X.mg T n mf)) (hr : Room k X.A) (hg : Gl X x) (hm : X.mg x = some (.ref f)) (hk : PySem.W.keepIn X.K (.ref f) = true) (hb : Binds X.K fd ps [])
    (tk : ∀ σ, PassesAt (L2.CX X.prog X.w) X σ (WE W σ)) (ha : VAs X T W (e :: es) ms) (hn : (e :: es).length = n := by rfl) (hdb : (x == ("__debug__" : Str)) = false := by decide) (he : starEach (e :: es) X.env = (false, eval e X.env) :: starEach es X.env := by rfl) (hpl : (backTo pos (starEach es X.env)).any (·.1) = false := by rfl) :
    VE X T W (.Call (.Name x p) (e :: es) [] pos) (mCall mf ms) := by
  refine ⟨(pe_callSD (dvs := []) F hr hg hm hk hb .nil tk ha.pa hdb he hpl).imV fun σ H Q q => ?_⟩
  obtain ⟨ρ, w, rfl, E, q⟩ := q
  show tG X.K X.mg T (RArgs X.K X.mg σ) W ms σ w.H _
  refine ⟨ρ, w, rfl, E, ?_⟩
  unfold mCall M.bind at q
  cases em : ms ρ with
  | bad => rw [em] at q; exact q
  | err x ρ' => rw [em] at q; exact q
  | ok as ρ' =>
    rw [em] at q
    intro vs w1 x1 E1 ra
    rw [List.append_nil]
    exact sp_of E1 ra ((ha.len _ _ _ em).trans hn) (q.mono x1)
end
end VS

set_option Elab.async false
set_option linter.all false
set_option maxRecDepth 100000
set_option maxHeartbeats 1000000
namespace VS
open PySem PySem.Spec PyProof.Rows L2

/-! ### a def's body keeps its promise -/
def argsBack (I : Nat → Bool) : Nat → List Sl → List Sl → List Sl
  | _, [], _ => []
  | j, .ow _ :: as, s :: ss => (if I j then s else .no) :: argsBack I (j + 1) as ss
  | j, a :: as, _ :: ss => a :: argsBack I (j + 1) as ss
  | j, _ :: as, [] => .no :: argsBack I (j + 1) as []
theorem argsBack_length (I : Nat → Bool) : ∀ (j : Nat) (as ss : List Sl), (argsBack I j as ss).length = as.length
  | _, [], _ => by simp [argsBack]
  | j, .ow _ :: as, s :: ss => by simp [argsBack, argsBack_length I (j + 1) as ss]
  | j, .fr _ :: as, s :: ss => by simp [argsBack, argsBack_length I (j + 1) as ss]
  | j, .no :: as, s :: ss => by simp [argsBack, argsBack_length I (j + 1) as ss]
  | j, _ :: as, [] => by simp [argsBack, argsBack_length I (j + 1) as []]
theorem argsBack_get (I : Nat → Bool) : ∀ (j i : Nat) (as ss : List Sl) (s : Sl), (argsBack I j as ss)[i]? = some s → s = .no ∨ (∃ p, s = .fr p ∧ as[i]? = some (.fr p)) ∨ (I (j + i) = true ∧ ss[i]? = some s ∧ ∃ o, as[i]? = some (.ow o))
  | _, i, [], _, s, h => by simp [argsBack] at h
  | j, 0, .ow o :: as, s :: ss, u, h => by
    simp only [argsBack, List.getElem?_cons_zero, Option.some.injEq] at h
    split at h
    · rename_i q; subst h; exact .inr (.inr ⟨q, rfl, o, rfl⟩)
    · exact .inl h.symm
  | j, 0, .fr p :: as, s :: ss, u, h => by
    simp only [argsBack, List.getElem?_cons_zero, Option.some.injEq] at h
    exact .inr (.inl ⟨p, h.symm, rfl⟩)
  | j, 0, .no :: as, s :: ss, u, h => by
    simp only [argsBack, List.getElem?_cons_zero, Option.some.injEq] at h
    exact .inl h.symm
  | j, 0, a :: as, [], u, h => by
    simp only [argsBack, List.getElem?_cons_zero, Option.some.injEq] at h
    exact .inl h.symm
  | j, i + 1, .ow o :: as, s :: ss, u, h => by
    simp only [argsBack, List.getElem?_cons_succ] at h
    have := argsBack_get I (j + 1) i as ss u h
    rw [Nat.add_assoc, Nat.add_comm 1 i] at this
    simpa using this
  | j, i + 1, .fr o :: as, s :: ss, u, h => by
    simp only [argsBack, List.getElem?_cons_succ] at h
    have := argsBack_get I (j + 1) i as ss u h
    rw [Nat.add_assoc, Nat.add_comm 1 i] at this
    simpa using this
  | j, i + 1, .no :: as, s :: ss, u, h => by
    simp only [argsBack, List.getElem?_cons_succ] at h
    have := argsBack_get I (j + 1) i as ss u h
    rw [Nat.add_assoc, Nat.add_comm 1 i] at this
    simpa using this
  | j, i + 1, a :: as, [], u, h => by
    simp only [argsBack, List.getElem?_cons_succ] at h
    have := argsBack_get I (j + 1) i as [] u h
    rw [Nat.add_assoc, Nat.add_comm 1 i] at this
    simpa using this
def fnM (N n : Nat) (I : Nat → Bool) (mb : MS) : M PV := fun args => match mb (args ++ List.replicate (N - n) .no) with
  | .nx ρ' => .ok .non (argsBack I 0 args ρ')
  | .rt p ρ' => .ok p (argsBack I 0 args ρ')
  | .err x ρ' => .err x (argsBack I 0 args ρ')
  | _ => .bad
section
variable {K : Frag} {mg : Str → Option Value} {T : List (Addr × Str)} {w w1 : Wo} {σ σ' : St} {ρ ρ' args : PEnv} {vs : List V}
theorem pad_get {α : Type} {l : List α} {n i : Nat} {x y : α} (h : (l ++ List.replicate n x)[i]? = some y) : l[i]? = some y ∨ y = x := by
  by_cases hi : i < l.length
  · rw [List.getElem?_append_left hi] at h; exact .inl h
  · rw [List.getElem?_append_right (by omega), List.getElem?_replicate] at h
    split at h
    · exact .inr (Option.some.inj h).symm
    · cases h
theorem Ev.pad (E : Ev K mg T w σ ρ) (n : Nat) : Ev K mg T w (σ ++ List.replicate n none) (ρ ++ List.replicate n .no) := by
  obtain ⟨F, f1, f2, f3, f4⟩ := E.ex
  have lt : ∀ {i : Nat} {s : Sl}, ρ[i]? = some s → i < σ.length := fun h => by rw [E.len]; exact (List.getElem?_eq_some_iff.mp h).1
  refine ⟨E.sub, E.nt, E.sn, E.tab, by simp [E.len], fun i p e => ?_, F, f1, fun i o e => ?_, f3, fun i x h => ?_⟩
  · rcases pad_get e with e | e
    · obtain ⟨v, hv, r⟩ := E.fr i p e
      exact ⟨v, by rw [List.getElem?_append_left (lt e)]; exact hv, r⟩
    · cases e
  · rcases pad_get e with e | e
    · obtain ⟨a, hv, r⟩ := f2 i o e
      exact ⟨a, by rw [List.getElem?_append_left (lt e)]; exact hv, r⟩
    · cases e
  · obtain ⟨o, e⟩ := f4 i x h
    exact ⟨o, by rw [List.getElem?_append_left (by rw [← E.len]; exact lt e)]; exact e⟩
theorem Ev.back {I : Nat → Bool} {n : Nat} (E : Ev K mg T w (vs.map some) args) (x : Ext w w1) (E1 : Ev K mg T w1 σ' ρ') (k : Keep I (vs.map some ++ List.replicate n none) σ') : ∃ S', Ev K mg T ⟨w1.G, w1.H, S'⟩ (vs.map some) (argsBack I 0 args ρ') ∧ ∀ x, S' x → w1.S x := by
  obtain ⟨F, f1, f2, f3, f4⟩ := E1.ex
  have inS : ∀ x, (∃ i : Nat, (∃ o, (argsBack I 0 args ρ')[i]? = some (.ow o)) ∧ F i x) → w1.S x := fun x ⟨i, _, h⟩ => (f1 x).mpr ⟨i, h⟩
  have at_ : ∀ {i : Nat} {o : OV}, I i = true → args[i]? = some (.ow o) → σ'[i]? = (vs.map some)[i]? := fun {i o} hI ha => by
    have hl : i < (vs.map some).length := by rw [E.len]; exact (List.getElem?_eq_some_iff.mp ha).1
    rw [k.2 i hI, List.getElem?_append_left hl]
  refine ⟨fun x => ∃ i : Nat, (∃ o, (argsBack I 0 args ρ')[i]? = some (.ow o)) ∧ F i x, ⟨E1.sub, E1.nt, fun a h => E1.sn a (inS a h), E1.tab, by rw [argsBack_length]; exact E.len, fun i p e => ?_, fun i x => (∃ o, (argsBack I 0 args ρ')[i]? = some (.ow o)) ∧ F i x, fun x => Iff.rfl, fun i o e => ?_, fun i j x h1 h2 => f3 i j x h1.2 h2.2, fun i x h => h.1⟩, inS⟩
  · rcases argsBack_get I 0 i args ρ' _ e with z | ⟨p', z, ha⟩ | ⟨hI, hs, o, ha⟩
    · cases z
    · cases z
      obtain ⟨v, hv, r⟩ := E.fr i p ha
      exact ⟨v, hv, r.mono x.g⟩
    · rw [Nat.zero_add] at hI
      obtain ⟨v, hv, r⟩ := E1.fr i p hs
      exact ⟨v, (at_ hI ha).symm.trans hv, r⟩
  · rcases argsBack_get I 0 i args ρ' _ e with z | ⟨p', z, ha⟩ | ⟨hI, hs, o', ha⟩
    · cases z
    · cases z
    · rw [Nat.zero_add] at hI
      obtain ⟨a, hv, r⟩ := f2 i o hs
      refine ⟨a, (at_ hI ha).symm.trans hv, ?_⟩
      have : (fun x => (∃ o, (argsBack I 0 args ρ')[i]? = some (.ow o)) ∧ F i x) = F i := funext fun x => propext ⟨fun h => h.2, fun h => ⟨⟨o, e⟩, h⟩⟩
      exact Eq.mpr (congrArg (Own K mg w1.G w1.H o a) this) r
end
abbrev WF (E : XK) : WX := fun cls d _ H => E cls d H
theorem start_eq (N : List Str) (vs : List V) : L2.start N vs = vs.map some ++ List.replicate (N.length - vs.length) none := rfl
theorem body_ok {K : Frag} {mg : Str → Option Value} {T : List (Addr × Str)} {I : Nat → Bool} {N : List Str} {n : Nat} {mb : MS} {vs : List V} {H : Hp} {Q : VK} {E : XK} (h : spV K mg T n (fnM N.length n I mb) vs H Q E) :
    tS K mg T I (WF E) mb { nx := fun _ H' => Q .non H', rt := Q } (L2.start N vs) H := by
  obtain ⟨hl, args, w, rfl, Ev0, q⟩ := h
  rw [start_eq]
  rw [hl]
  refine ⟨_, w, rfl, Ev0.pad _, ?_⟩
  unfold fnM at q
  cases e : mb (args ++ List.replicate (N.length - n) .no) with
  | nx ρ' =>
    rw [e] at q
    intro σ' w' x E' k
    obtain ⟨S', E2, hS⟩ := Ev0.back x E' k
    exact q .non ⟨w'.G, w'.H, S'⟩ ⟨x.g, x.h, x.dom, x.ng, fun a h => x.ns a (hS a h)⟩ E2 rfl
  | rt p ρ' =>
    rw [e] at q
    intro v σ' w' x E' k r
    obtain ⟨S', E2, hS⟩ := Ev0.back x E' k
    exact q v ⟨w'.G, w'.H, S'⟩ ⟨x.g, x.h, x.dom, x.ng, fun a h => x.ns a (hS a h)⟩ E2 r
  | err z ρ' =>
    rw [e] at q
    intro cls d σ' w' x E' k r
    obtain ⟨S', E2, hS⟩ := Ev0.back x E' k
    exact q cls d ⟨w'.G, w'.H, S'⟩ ⟨x.g, x.h, x.dom, x.ng, fun a h => x.ns a (hS a h)⟩ E2 r
  | bk ρ' => rw [e] at q; exact q.elim
  | ct ρ' => rw [e] at q; exact q.elim
  | bad => rw [e] at q; exact q.elim
theorem fn_ok {P : Program} {w : World} {K : Frag} {mg : Str → Option Value} {base : Heap} {T : List (Addr × Str)} {x qual : Str} {st : Stmt} {f : Addr} {fd : FuncData} {N ps : List Str} {k : Nat} {I : Nat → Bool} {mb : MS} (F : Fun K x qual st f fd) (S : FnScope N ps (defScope st))
    (hb : ∀ (cdv : Value) (A : Around) (outer : List Env) (s : Shared) (H : Hp) (E : XK), Room k (A.deeper (envOfC qual (defScope st) s.heap.objs.size f cdv)) →
      VSs (cxOf (L2.CX P w) P w K mg base N qual (defScope st) f cdv A outer s H E) T I (WF E) (defBody st) mb) :
    FnOk P w K mg base (L2.CX P w) (k + 1) f fd ps (spV K mg T ps.length (fnM N.length ps.length I mb)) := by
  refine F.okX S (fun vs H Q E h => h.1) fun cdv A outer s H vs Q E hr h => ?_
  exact ⟨_, (hb cdv A outer s H E hr).ps, body_ok h⟩

/-! ### raising -/
def mRaise (m : M Exn) : MS := sThen m fun x ρ => .err x ρ
structure VX (X : Cx) (T : List (Addr × Str)) (W : WX) (e : Expr) (m : M Exn) : Prop where
  pm : PMk X e fun σ H Q => ∃ ρ w, w.H = H ∧ Ev X.K X.mg T w σ ρ ∧ match m ρ with
    | .ok x ρ' => ∀ cls d w', Ext w w' → Ev X.K X.mg T w' σ ρ' → RepX X.K X.mg w'.G x cls d → Q cls d w'.H
    | .err x ρ' => ∀ cls d w', Ext w w' → Ev X.K X.mg T w' σ ρ' → RepX X.K X.mg w'.G x cls d → W cls d σ w'.H
    | .bad => False
theorem vs_raise {X : Cx} {T : List (Addr × Str)} {I : Nat → Bool} {W : WX} {e : Expr} {m : M Exn} {pos : Pos} (hc : X.calm = true) (tk : Takes X W) (h : VX X T W e m) : VS X T I W (.Raise (some e) none pos) (mRaise m) :=
  ⟨(ps_raise hc tk h.pm).imV fun D σ H q => by
    obtain ⟨ρ, w, rfl, E, q⟩ := q
    refine ⟨ρ, w, rfl, E, ?_⟩
    unfold mRaise sThen at q
    cases e : m ρ with
    | ok x ρ' => rw [e] at q; exact fun cls d w' x' E' r => q cls d σ w' x' E' (Keep.refl _) r
    | err x ρ' => rw [e] at q; exact fun cls d w' x' E' r => q cls d σ w' x' E' (Keep.refl _) r
    | bad => rw [e] at q; exact q⟩
/-- what __init__ of an own exception does: the fields' names in reverse, from the last one -/
def spXI (C : Addr) (ks : List Str) : Sp := fun vs H Q _ => ∃ (a : Addr) (ws : List V), vs = .ref a :: ws ∧ ws.length = ks.length ∧ ks ≠ [] ∧ H a = some (exo a C none) ∧
  ∀ d, H d = none → Q .non (upd (upd H a (exo a C (some d))) d (exd d (ks.zip ws).reverse))
def mExn (C : Str) (ks : List Str) (ml : M (List PV)) : M Exn := ml.bind fun ps => .lift (if ps.length = ks.length ∧ ps.length ≤ 900 then some ⟨C, ks.reverse, ps.reverse⟩ else none)
theorem zip_fst_rev {α β : Type} : ∀ {ks : List α} {ws : List β}, ws.length = ks.length → (ks.zip ws).reverse.map (·.1) = ks.reverse ∧ (ks.zip ws).reverse.map (·.2) = ws.reverse := fun {ks ws} h => by
  constructor
  · rw [List.map_reverse, List.map_fst_zip (by omega)]
  · rw [List.map_reverse, List.map_snd_zip (by omega)]
theorem vx_exn {X : Cx} {T : List (Addr × Str)} {W : WX} {x : Str} {C fI : Addr} {k : Nat} {fd : FuncData} {ps : List Str} {ks : List Str} {e : Expr} {es : List Expr} {ml : M (List PV)} {p pos : Pos} (TC : OexC X.K C) (iC : PySem.W.findIn X.K (.ref C) "__init__" = some (some (.ref fI))) (tI : PySem.W.typeIn X.K (.ref fI) = some (.type "function"))
    (F1 : FnOk X.prog X.w X.K X.mg X.base (L2.CX X.prog X.w) k fI fd ps (spXI C ks)) (hr : Room (k + 1) X.A) (hb : Binds X.K fd ps []) (hg : Gl X x) (hm : X.mg x = some (.ref C)) (ha : VA X T W (e :: es) ml) (hks : ks ≠ [])
    (hdb : (x == ("__debug__" : Str)) = false := by decide) (he : starEach (e :: es) X.env = (false, eval e X.env) :: starEach es X.env := by rfl) (hpl : (backTo pos (starEach es X.env)).any (·.1) = false := by rfl) :
    VX X T W (.Call (.Name x p) (e :: es) [] pos) (mExn x ks ml) := by
  refine ⟨fun pins s σ H Q Iv q => ?_⟩
  refine pmk_oex (dvs := []) (ds := []) TC iC tI F1 hr hb .nil passL hg hm ha.pa hdb he hpl pins s σ H Q Iv ?_
  obtain ⟨ρ, w, rfl, E, q⟩ := q
  show tG X.K X.mg T (RVs X.K X.mg) W ml σ w.H _
  refine ⟨ρ, w, rfl, E, ?_⟩
  unfold mExn M.bind at q
  cases em : ml ρ with
  | bad => rw [em] at q; exact q
  | err x ρ' => rw [em] at q; exact q
  | ok qs ρ' =>
    rw [em] at q
    intro vs w1 x1 E1 ra
    by_cases hz : qs.length = ks.length ∧ qs.length ≤ 900
    · simp only [M.lift, if_pos hz] at q
      have hl : vs.length = ks.length := by rw [← ra.length]; exact hz.1
      have hz2 := hz.2
      rw [ra.length] at hz2
      refine ⟨by omega, fun a na => ⟨a, vs, by rw [List.append_nil], hl, hks, upd_same, fun d nd => ⟨rfl, d, _, ?_, upd_same, ?_, ?_⟩⟩⟩
      · have hda : a ≠ d := fun z => by rw [z, upd_same] at nd; cases nd
        rw [upd_ne hda, upd_same]
      · have hda : d ≠ a := fun z => by rw [z, upd_same] at nd; cases nd
        rw [upd_ne hda] at nd; exact nd
      · have hda : d ≠ a := fun z => by rw [z, upd_same] at nd; cases nd
        rw [upd_ne hda] at nd
        have hH : upd (del (upd (upd (upd w1.H a (exo a C none)) a (exo a C (some d))) d (exd d (ks.zip vs).reverse)) a) d (.xd (ks.zip vs).reverse) = upd w1.H d (.xd (ks.zip vs).reverse) := by
          funext b
          unfold upd del
          by_cases hb : b = d
          · rw [if_pos hb, if_pos hb]
          · rw [if_neg hb, if_neg hb]
            by_cases hb2 : b = a
            · rw [if_pos hb2, hb2]; exact na.symm
            · simp [hb, hb2]
        rw [hH]
        have P := Pure.new E1.sub E1.nt nd (NT.xd (xs := (ks.zip vs).reverse))
        obtain ⟨E2, x2⟩ := E1.pure P
        refine q _ _ _ (x1.trans x2) E2 ⟨C, hm, rfl, .inr ⟨d, _, rfl, upd_same, (zip_fst_rev hl).1, ?_⟩⟩
        rw [(zip_fst_rev hl).2]
        exact (ra.mono P.g).reverse
    · simp only [M.lift, if_neg hz] at q

end VS

set_option Elab.async false
set_option linter.all false
set_option maxRecDepth 100000
set_option maxHeartbeats 1000000
namespace VS
open PySem PySem.Spec PyProof.Rows L2

/-! ### freezing -/
def frzO : OV → PV
  | .lst ps => .lst ps
  | .rows rs => .lst (rs.map .lst)
  | .dic ks ps => .dic ks ps
  | .ins C ks ps => .ins C ks ps
section
variable {K : Frag} {mg : Str → Option Value} {T : List (Addr × Str)} {G H : Hp} {w : Wo} {σ : St} {ρ : PEnv}
theorem sub_upd_in {G H : Hp} {a : Addr} {u : HO} (s : Sub G H) (h : H a = some u) : Sub (upd G a u) H := fun b o e => by
  by_cases hb : b = a
  · subst hb; rw [upd_same] at e; cases e; exact h
  · rw [upd_ne hb] at e; exact s _ _ e
theorem nt_upd {G : Hp} {a : Addr} {u : HO} (n : ∀ a o, G a = some o → NT o) (hu : NT u) : ∀ b o, upd G a u b = some o → NT o := fun b o e => by
  by_cases hb : b = a
  · subst hb; rw [upd_same] at e; cases e; exact hu
  · rw [upd_ne hb] at e; exact n _ _ e
theorem Rows.freeze : ∀ {rs : List (List PV)} {vs : List V} {S : Addr → Prop} {G : Hp}, Rows K mg G H rs vs S → Fz G H → ∃ G', Sub G G' ∧ Fz G' H ∧ (∀ x u, G' x = some u → G x = some u ∨ S x) ∧ Reps K mg G' (rs.map .lst) vs
  | _, _, _, G, .nil h, f => ⟨G, Sub.refl _, f, fun _ _ h => .inl h, rfl⟩
  | _, _, _, G, .cons (ps := ps) (a := a) (vs := vs) (S := S) hG hH hr ht hn hS, f => by
    have s1 : Sub G (upd G a (.lst vs)) := sub_upd hG
    have f1 : Fz (upd G a (.lst vs)) H := ⟨sub_upd_in f.sub hH, nt_upd f.nt .lst⟩
    have ht' := ht.mono (G' := upd G a (.lst vs)) (H' := H) s1 (fun x hx => by
      rw [upd_ne (show x ≠ a from fun e => hn (by rw [← e]; exact hx))]; exact (ht.free x hx).1) fun x o _ h => h
    obtain ⟨G', g1, g2, g3, g4⟩ := Rows.freeze ht' f1
    refine ⟨G', s1.trans g1, g2, fun x u h => ?_, .cons ⟨a, vs, rfl, g1 _ _ upd_same, hr.mono (s1.trans g1)⟩ g4⟩
    rcases g3 x u h with z | z
    · by_cases hb : x = a
      · exact .inr ((hS x).mpr (.inl hb))
      · rw [upd_ne hb] at z; exact .inl z
    · exact .inr ((hS x).mpr (.inr z))
theorem Own.freeze {o : OV} {a : Addr} {S : Addr → Prop} (h : Own K mg G H o a S) (f : Fz G H) : ∃ G', Sub G G' ∧ Fz G' H ∧ (∀ x u, G' x = some u → G x = some u ∨ S x) ∧ Rep K mg G' (frzO o) (.ref a) := by
  have key : ∀ {u : HO}, (∀ x, S x ↔ x = a) → G a = none → H a = some u → NT u → Sub G (upd G a u) ∧ Fz (upd G a u) H ∧ ∀ x v, upd G a u x = some v → G x = some v ∨ S x := fun {u} e g hH hn => by
    refine ⟨sub_upd g, ⟨sub_upd_in f.sub hH, nt_upd f.nt hn⟩, fun x v h => ?_⟩
    by_cases hb : x = a
    · exact .inr ((e x).mpr hb)
    · rw [upd_ne hb] at h; exact .inl h
  cases o with
  | lst ps =>
    obtain ⟨e, g, vs, hH, r⟩ := h
    obtain ⟨k1, k2, k3⟩ := key e g hH .lst
    exact ⟨_, k1, k2, k3, a, vs, rfl, upd_same, r.mono k1⟩
  | dic ks ps =>
    obtain ⟨e, g, vs, hH, q, r⟩ := h
    obtain ⟨k1, k2, k3⟩ := key e g hH .dK
    exact ⟨_, k1, k2, k3, a, vs, rfl, upd_same, q, r.mono k1⟩
  | ins C ks ps =>
    obtain ⟨e, g, c, dx, fs, m, hH, q, r⟩ := h
    obtain ⟨k1, k2, k3⟩ := key e g hH .ins
    exact ⟨_, k1, k2, k3, a, c, dx, fs, rfl, m, upd_same, q, r.mono k1⟩
  | rows rs =>
    obtain ⟨g, vs, S0, hH, r, n, e⟩ := h
    have s1 : Sub G (upd G a (.lst vs)) := sub_upd g
    have r' := r.mono (G' := upd G a (.lst vs)) (H' := H) s1 (fun x hx => by
      rw [upd_ne (show x ≠ a from fun e => n (by rw [← e]; exact hx))]; exact (r.free x hx).1) fun x o _ h => h
    obtain ⟨G', g1, g2, g3, g4⟩ := r'.freeze ⟨sub_upd_in f.sub hH, nt_upd f.nt .lst⟩
    refine ⟨G', s1.trans g1, g2, fun x u h => ?_, a, vs, rfl, g1 _ _ upd_same, g4⟩
    rcases g3 x u h with z | z
    · by_cases hb : x = a
      · exact .inr ((e x).mpr (.inl hb))
      · rw [upd_ne hb] at z; exact .inl z
    · exact .inr ((e x).mpr (.inr z))
/-- a slot's object is frozen -/
theorem Ev.freeze (E : Ev K mg T w σ ρ) {i : Nat} {o : OV} (hi : ρ[i]? = some (.ow o)) : ∃ w' a, Ext w w' ∧ w'.H = w.H ∧ Ev K mg T w' σ (ρ.set i (.fr (frzO o))) ∧ σ[i]? = some (some (.ref a)) ∧ Rep K mg w'.G (frzO o) (.ref a) := by
  obtain ⟨F, f1, f2, f3, f4⟩ := E.ex
  obtain ⟨a, hσ, r⟩ := f2 i o hi
  obtain ⟨G', g1, g2, g3, g4⟩ := r.freeze E.fz
  have hl : i < ρ.length := (List.getElem?_eq_some_iff.mp hi).1
  have inS : ∀ x, (∃ j, j ≠ i ∧ F j x) → w.S x := fun x ⟨j, _, h⟩ => (f1 x).mpr ⟨j, h⟩
  refine ⟨⟨G', w.H, fun x => ∃ j, j ≠ i ∧ F j x⟩, a, ⟨g1, fun _ _ h _ _ => h, fun _ _ h => ⟨_, h⟩, fun x u h => ?_, fun x h => .inl (inS x h)⟩, rfl, ⟨g2.sub, g2.nt, fun x h => E.sn x (inS x h), E.tab, by simp [E.len], fun j p e => ?_, fun j x => j ≠ i ∧ F j x, fun x => Iff.rfl, fun j o' e => ?_, fun j k x h1 h2 => f3 j k x h1.2 h2.2, fun j x h => ?_⟩, hσ, g4⟩
  · rcases g3 x u h with z | z
    · exact .inl z
    · exact .inr (.inl ((f1 x).mpr ⟨i, z⟩))
  · by_cases hj : j = i
    · subst hj
      rw [List.getElem?_set_self hl] at e
      have e2 := Sl.fr.inj (Option.some.inj e); subst e2
      exact ⟨_, hσ, g4⟩
    · rw [List.getElem?_set_ne (Ne.symm hj)] at e
      obtain ⟨v, hv, r⟩ := E.fr j p e
      exact ⟨v, hv, r.mono g1⟩
  · by_cases hj : j = i
    · subst hj
      rw [List.getElem?_set_self hl] at e; cases e
    · rw [List.getElem?_set_ne (Ne.symm hj)] at e
      obtain ⟨b, hv, rb⟩ := f2 j o' e
      refine ⟨b, hv, ?_⟩
      have : (fun x => j ≠ i ∧ F j x) = F j := funext fun x => propext ⟨fun h => h.2, fun h => ⟨hj, h⟩⟩
      refine Eq.mpr (congrArg (Own K mg G' w.H o' b) this) (rb.mono g1 (fun x hx => ?_) fun x u _ h => h)
      cases z : G' x with
      | none => rfl
      | some u =>
        rcases g3 x u z with z1 | z1
        · rw [(rb.free.2 x hx).1] at z1; cases z1
        · exact absurd (f3 j i x hx z1) hj
  · obtain ⟨o', e⟩ := f4 j x h.2
    exact ⟨o', by rw [List.getElem?_set_ne (Ne.symm h.1)]; exact e⟩
def single : OV → Bool
  | .rows _ => false
  | _ => true
/-- a slot's one object is changed -/
theorem Ev.upd1 (E : Ev K mg T w σ ρ) {i : Nat} {o : OV} (hi : ρ[i]? = some (.ow o)) (hs : single o = true) : ∃ a S, σ[i]? = some (some (.ref a)) ∧ (∀ x, S x ↔ x = a) ∧ Own K mg w.G w.H o a S ∧ w.S a ∧
    ∀ o' u, NT u → Own K mg w.G (upd w.H a u) o' a S → Ev K mg T ⟨w.G, upd w.H a u, w.S⟩ σ (ρ.set i (.ow o')) ∧ Ext w ⟨w.G, upd w.H a u, w.S⟩ := by
  obtain ⟨F, f1, f2, f3, f4⟩ := E.ex
  obtain ⟨a, hσ, r⟩ := f2 i o hi
  have hl : i < ρ.length := (List.getElem?_eq_some_iff.mp hi).1
  have eS : ∀ x, F i x ↔ x = a := by
    cases o with
    | lst ps => exact r.1
    | dic ks ps => exact r.1
    | ins C ks ps => exact r.1
    | rows rs => cases hs
  have hSa : w.S a := (f1 a).mpr ⟨i, (eS a).mpr rfl⟩
  obtain ⟨gn, u0, hu0, _⟩ := r.free.2 a ((eS a).mpr rfl)
  refine ⟨a, F i, hσ, eS, r, hSa, fun o' u hu ro => ?_⟩
  have hne : ∀ {x v}, w.G x = some v → x ≠ a := fun {x v} h e => by subst e; rw [gn] at h; cases h
  refine ⟨⟨fun x v h => by show upd w.H a u x = some v; rw [upd_ne (hne h)]; exact E.sub _ _ h, E.nt, fun x h => ?_, fun p hp => ?_, by simp [E.len], fun j p e => ?_, F, f1, fun j o2 e => ?_, f3, fun j x h => ?_⟩, Sub.refl _, fun x v h hS _ => ?_, fun x v h => ?_, fun _ _ h => .inl h, fun _ h => .inl h⟩
  · by_cases hx : x = a
    · subst hx; exact ⟨u, upd_same, hu⟩
    · show ∃ o, upd w.H a u x = some o ∧ NT o
      rw [upd_ne hx]; exact E.sn x h
  · obtain ⟨ps, h1, h2, h3⟩ := E.tab p hp
    have n1 : p.1 ≠ a := fun e => by
      obtain ⟨u', hu', hn'⟩ := E.sn a hSa
      rw [← e, h1] at hu'; cases hu'; exact hn' ps rfl
    refine ⟨ps, by show upd w.H a u p.1 = _; rw [upd_ne n1]; exact h1, h2, fun pos cv hc => ?_⟩
    obtain ⟨c, e1, e2⟩ := h3 pos cv hc
    refine ⟨c, e1, ?_⟩
    have n2 : c ≠ a := fun e => by
      rw [e] at e2
      cases o with
      | lst ps => obtain ⟨_, _, vs, q, _⟩ := r; rw [q] at e2; cases e2
      | dic ks ps => obtain ⟨_, _, vs, q, _⟩ := r; rw [q] at e2; cases e2
      | ins C ks ps => obtain ⟨_, _, cc, dx, vs, _, q, _⟩ := r; rw [q] at e2; cases e2
      | rows rs => cases hs
    show upd w.H a u c = _
    rw [upd_ne n2]; exact e2
  · by_cases hj : j = i
    · subst hj; rw [List.getElem?_set_self hl] at e; cases e
    · rw [List.getElem?_set_ne (Ne.symm hj)] at e; exact E.fr j p e
  · by_cases hj : j = i
    · subst hj
      rw [List.getElem?_set_self hl] at e
      have e2 := Sl.ow.inj (Option.some.inj e); subst e2
      exact ⟨a, hσ, ro⟩
    · rw [List.getElem?_set_ne (Ne.symm hj)] at e
      obtain ⟨b, hv, rb⟩ := f2 j o2 e
      refine ⟨b, hv, rb.mono (Sub.refl _) (fun x hx => (rb.free.2 x hx).1) fun x v hx h => ?_⟩
      have : x ≠ a := fun z => hj (f3 j i x hx ((eS x).mpr z))
      show upd w.H a u x = some v
      rw [upd_ne this]; exact h
  · by_cases hj : j = i
    · subst hj; exact ⟨o', by rw [List.getElem?_set_self hl]⟩
    · obtain ⟨o2, e⟩ := f4 j x h
      exact ⟨o2, by rw [List.getElem?_set_ne (Ne.symm hj)]; exact e⟩
  · have : x ≠ a := fun z => hS (by rw [z]; exact hSa)
    show upd w.H a u x = some v
    rw [upd_ne this]; exact h
  · show ∃ o', upd w.H a u x = some o'
    by_cases hx : x = a
    · exact ⟨u, by rw [hx, upd_same]⟩
    · exact ⟨v, by rw [upd_ne hx]; exact h⟩
end

/-! ### names: an owned object is frozen when it is read as a value -/
def mVar (i : Nat) : M PV := fun ρ => match ρ[i]? with
  | some (.fr p) => .ok p ρ
  | some (.ow o) => .ok (frzO o) (ρ.set i (.fr (frzO o)))
  | _ => .bad
section
variable {X : Cx} {T : List (Addr × Str)} {I : Nat → Bool} {W : WX} {e a b c o : Expr} {es : List Expr} {st : Stmt} {rest : List Stmt} {ma mb : M PV} {mt : M Bool} {ml : M (List PV)} {m1 m2 : MS} {pos : Pos}
theorem ve_var {i : Nat} {x : Str} (h : PE X (.Name x pos) (tVar i)) : VE X T W (.Name x pos) (mVar i) := ⟨h.imV fun σ H Q q => by
  obtain ⟨ρ, w, rfl, E, q⟩ := q
  unfold mVar at q
  split at q
  · rename_i p e
    obtain ⟨v, hv, r⟩ := E.fr i p e
    exact ⟨v, hv, q v w (Ext.refl _) E r⟩
  · rename_i o e
    obtain ⟨w', a, x, hH, E', hσ, r⟩ := E.freeze e
    exact ⟨_, hσ, hH ▸ q (.ref a) w' x E' r⟩
  · exact q.elim⟩
/-- a look at a slot: the object may be owned; what is made of it is plain -/
def plainP : PV → Bool
  | .non => true
  | .bl _ => true
  | .int _ => true
  | .str _ => true
  | .ty _ => true
  | .glob _ => true
  | _ => false
def mLook (i : Nat) : M PV := fun ρ => match ρ[i]? with
  | some (.fr p) => .ok p ρ
  | some (.ow o) => .ok (frzO o) ρ
  | _ => .bad
/-- read, for a moment -/
def RL (K : Frag) (mg : Str → Option Value) (H : Hp) (G : Hp) (p : PV) (v : V) : Prop := ∃ G', Sub G G' ∧ Fz G' H ∧ Rep K mg G' p v
structure VB (X : Cx) (T : List (Addr × Str)) (W : WX) (e : Expr) (m : M PV) : Prop where
  pe : PE X e fun σ H Q => ∃ ρ w, w.H = H ∧ Ev X.K X.mg T w σ ρ ∧ match m ρ with
    | .ok p ρ' => ∀ v w', Ext w w' → Ev X.K X.mg T w' σ ρ' → RL X.K X.mg w'.H w'.G p v → Q v w'.H
    | .err x ρ' => ∀ cls d w', Ext w w' → Ev X.K X.mg T w' σ ρ' → RepX X.K X.mg w'.G x cls d → W cls d σ w'.H
    | .bad => False
theorem vb_of (h : VE X T W e ma) : VB X T W e ma := ⟨h.pe.imV fun σ H Q q => by
  obtain ⟨ρ, w, rfl, E, q⟩ := q
  refine ⟨ρ, w, rfl, E, ?_⟩
  cases e : ma ρ with
  | ok p ρ' => rw [e] at q; exact fun v w' x E' r => q v w' x E' ⟨w'.G, Sub.refl _, E'.fz, r⟩
  | err x ρ' => rw [e] at q; exact q
  | bad => rw [e] at q; exact q⟩
theorem vb_var {i : Nat} {x : Str} (h : PE X (.Name x pos) (tVar i)) : VB X T W (.Name x pos) (mLook i) := ⟨h.imV fun σ H Q q => by
  obtain ⟨ρ, w, rfl, E, q⟩ := q
  unfold mLook at q
  cases e : ρ[i]? with
  | none => rw [e] at q; exact q.elim
  | some s =>
    rw [e] at q
    cases s with
    | no => exact q.elim
    | fr p =>
      obtain ⟨v, hv, r⟩ := E.fr i p e
      exact ⟨v, hv, q v w (Ext.refl _) E ⟨w.G, Sub.refl _, E.fz, r⟩⟩
    | ow o =>
      obtain ⟨F, f1, f2, f3, f4⟩ := E.ex
      obtain ⟨a, hσ, r⟩ := f2 i o e
      obtain ⟨G', g1, g2, g3, g4⟩ := r.freeze E.fz
      exact ⟨_, hσ, q (.ref a) w (Ext.refl _) E ⟨G', g1, g2, g4⟩⟩⟩
theorem plain_any {K : Frag} {mg : Str → Option Value} {G G' : Hp} {p : PV} {v : V} (h : plainP p = true) (r : Rep K mg G p v) : Rep K mg G' p v := by
  cases p <;> first | exact r | cases h
def pl1 (f : PV → Option PV) (x : PV) : Option PV := match f x with
  | some z => if plainP z then some z else none
  | none => none
def pl2 (f : PV → PV → Option PV) (x y : PV) : Option PV := match f x y with
  | some z => if plainP z then some z else none
  | none => none
theorem pl1_some {f : PV → Option PV} {x z : PV} (h : pl1 f x = some z) : f x = some z ∧ plainP z = true := by
  unfold pl1 at h
  split at h
  · rename_i u e
    split at h
    · rename_i hp; cases h; exact ⟨e, hp⟩
    · cases h
  · cases h
theorem pl2_some {f : PV → PV → Option PV} {x y z : PV} (h : pl2 f x y = some z) : f x y = some z ∧ plainP z = true := by
  unfold pl2 at h
  split at h
  · rename_i u e
    split at h
    · rename_i hp; cases h; exact ⟨e, hp⟩
    · cases h
  · cases h
/-- from a look: what is done is plain -/
theorem Ev.doneL {K : Frag} {mg : Str → Option Value} {w : Wo} {σ : St} {ρ : PEnv} (E : Ev K mg T w σ ρ) {G' : Hp} (s : Sub w.G G') {z : PV} {Q : VK} (hp : plainP z = true) (h : ∀ v w', Ext w w' → Ev K mg T w' σ ρ → Rep K mg w'.G z v → Q v w'.H) : Done K mg G' w.H z Q := fun v G2 H2 P r => by
  -- the frozen part stays as it was; only the heap has grown
  have hsub : Sub w.G H2 := E.sub.trans P.h
  obtain ⟨E', x⟩ := E.grow (G' := w.G) (H' := H2) (Sub.refl _) P.h hsub E.nt fun _ _ h => .inl h
  exact h v ⟨w.G, H2, w.S⟩ x E' (plain_any hp r)
end
end VS

set_option Elab.async false
set_option linter.all false
set_option maxRecDepth 100000
set_option maxHeartbeats 1000000
namespace VS
open PySem PySem.Spec PyProof.Rows L2

/-! ### what makes an owned object -/
def tO (K : Frag) (mg : Str → Option Value) (T : List (Addr × Str)) (W : WX) (m : M OV) : TE := fun σ H Q => ∃ ρ w, w.H = H ∧ Ev K mg T w σ ρ ∧ match m ρ with
  | .ok o ρ' => ∀ a S w', Ext w w' → Ev K mg T w' σ ρ' → Own K mg w'.G w'.H o a S → (∀ x, S x → ¬ w'.S x) → (∀ x, S x → w.H x = none) → Q (.ref a) w'.H
  | .err x ρ' => ∀ cls d w', Ext w w' → Ev K mg T w' σ ρ' → RepX K mg w'.G x cls d → W cls d σ w'.H
  | .bad => False
structure VO (X : Cx) (T : List (Addr × Str)) (W : WX) (e : Expr) (m : M OV) : Prop where
  pe : PE X e (tO X.K X.mg T W m)
def mFrzM (m : M OV) : M PV := m.bind fun o => .pure (frzO o)
def mSetO (i : Nat) (m : M OV) : MS := sThen m fun o ρ => .nx (ρ.set i (.ow o))
section
variable {K : Frag} {mg : Str → Option Value} {T : List (Addr × Str)} {w : Wo} {σ : St} {ρ : PEnv}
/-- a fresh owned object is frozen at once -/
theorem Ev.freezeNew (E : Ev K mg T w σ ρ) {o : OV} {a : Addr} {S : Addr → Prop} (r : Own K mg w.G w.H o a S) (d : ∀ x, S x → ¬ w.S x) : ∃ G', Ev K mg T ⟨G', w.H, w.S⟩ σ ρ ∧ Sub w.G G' ∧ (∀ x u, G' x = some u → w.G x = some u ∨ S x) ∧ Rep K mg G' (frzO o) (.ref a) := by
  obtain ⟨G', g1, g2, g3, g4⟩ := r.freeze E.fz
  obtain ⟨F, f1, f2, f3, f4⟩ := E.ex
  refine ⟨G', ⟨g2.sub, g2.nt, E.sn, E.tab, E.len, fun i p e => ?_, F, f1, fun i o' e => ?_, f3, f4⟩, g1, g3, g4⟩
  · obtain ⟨v, hv, r⟩ := E.fr i p e
    exact ⟨v, hv, r.mono g1⟩
  · obtain ⟨b, hv, rb⟩ := f2 i o' e
    refine ⟨b, hv, rb.mono g1 (fun x hx => ?_) fun x u _ h => h⟩
    cases z : G' x with
    | none => rfl
    | some u =>
      rcases g3 x u z with z1 | z1
      · rw [(rb.free.2 x hx).1] at z1; cases z1
      · exact absurd ((f1 x).mpr ⟨i, hx⟩) (d x z1)
theorem Ev.setOw' (E : Ev K mg T w σ ρ) (i : Nat) {o : OV} {a : Addr} {S : Addr → Prop} (r : Own K mg w.G w.H o a S) (d : ∀ x, S x → ¬ w.S x) :
    ∃ S', Ev K mg T ⟨w.G, w.H, S'⟩ (σ.set i (some (.ref a))) (ρ.set i (.ow o)) ∧ ∀ x, S' x → S x ∨ w.S x := by
  by_cases hi : i < ρ.length
  · exact E.setOw i hi r d
  · refine ⟨w.S, ?_, fun x h => .inr h⟩
    rw [List.set_eq_of_length_le (by rw [E.len]; omega), List.set_eq_of_length_le (by omega)]
    exact E
end
section
variable {X : Cx} {T : List (Addr × Str)} {I : Nat → Bool} {W : WX} {e a b c o ke : Expr} {es : List Expr} {st : Stmt} {rest : List Stmt} {ma mb mk : M PV} {mo : M OV} {mt : M Bool} {ml : M (List PV)} {m1 m2 : MS} {pos : Pos}
theorem ve_O (h : VO X T W e mo) : VE X T W e (mFrzM mo) := ⟨h.pe.imV fun σ H Q q => by
  obtain ⟨ρ, w, rfl, E, q⟩ := q
  refine ⟨ρ, w, rfl, E, ?_⟩
  unfold mFrzM M.bind at q
  cases e : mo ρ with
  | bad => rw [e] at q; exact q
  | err x ρ' => rw [e] at q; exact q
  | ok o ρ' =>
    rw [e] at q
    intro a S w' x E' r d f
    obtain ⟨G', E2, s1, s2, r2⟩ := E'.freezeNew r d
    refine q (.ref a) ⟨G', w'.H, w'.S⟩ ⟨x.g.trans s1, x.h, x.dom, fun y u h => ?_, x.ns⟩ E2 r2
    rcases s2 y u h with z | z
    · exact x.ng y u z
    · exact .inr (.inr (f y z))⟩
theorem vs_setO {i : Nat} {x : Str} {pos' : Pos} (hN : X.N.Nodup) (hi : X.N[i]? = some x) (hx : Loc X.env.scope x) (he : VO X T W e mo) (hI : I i = false) (hs : swapsWith e (some (.Name x pos')) pos.line X.env = pure false := by rfl) (hf : X.fn x = true ∨ X.env.scope.names.lookup x = some .local := by first | exact .inl rfl | exact .inr rfl | assumption) :
    VS X T I W (.Assign [.Name x pos'] e pos) (mSetO i mo) := ⟨(ps_set hN hi hx he.pe hs hf).imV fun D σ H q => by
  obtain ⟨ρ, w, rfl, E, q⟩ := q
  refine ⟨ρ, w, rfl, E, ?_⟩
  unfold mSetO sThen at q
  cases e : mo ρ with
  | bad => rw [e] at q; exact q
  | err x ρ' => rw [e] at q; exact fun cls d w' x' E' r => q cls d σ w' x' E' (Keep.refl _) r
  | ok o ρ' =>
    rw [e] at q
    intro a S w' x E' r d f
    obtain ⟨S', E2, hS⟩ := E'.setOw' i r d
    refine q _ ⟨w'.G, w'.H, S'⟩ ⟨x.g, x.h, x.dom, x.ng, fun y hy => ?_⟩ E2 (Keep.set hI)
    rcases hS y hy with z | z
    · exact .inr (f y z)
    · exact x.ns y z⟩
/-- a new list at a free place is owned -/
theorem own_new {K : Frag} {mg : Str → Option Value} {w1 : Wo} {σ : St} {ρ1 : PEnv} {ps : List PV} {vs : List V} (E1 : Ev K mg T w1 σ ρ1) (r : Reps K mg w1.G ps vs) {p : Addr} (hp : w1.H p = none) :
    Ext w1 ⟨w1.G, upd w1.H p (.lst vs), w1.S⟩ ∧ Ev K mg T ⟨w1.G, upd w1.H p (.lst vs), w1.S⟩ σ ρ1 ∧ Own K mg w1.G (upd w1.H p (.lst vs)) (.lst ps) p (fun x => x = p) ∧ ¬ w1.S p := by
  have sh : Sub w1.H (upd w1.H p (.lst vs)) := sub_upd hp
  obtain ⟨E2, x2⟩ := E1.grow (G' := w1.G) (H' := upd w1.H p (.lst vs)) (Sub.refl _) sh (E1.sub.trans sh) E1.nt fun _ _ h => .inl h
  have hG : w1.G p = none := by
    cases e : w1.G p with
    | none => rfl
    | some u => rw [E1.sub _ _ e] at hp; cases hp
  refine ⟨x2, E2, ⟨fun x => Iff.rfl, hG, vs, upd_same, r⟩, fun h => ?_⟩
  obtain ⟨u, hu, _⟩ := E1.sn p h
  rw [hu] at hp; cases hp
def mLstO (ml : M (List PV)) : M OV := ml.bind fun ps => .lift (if ps.length ≤ sizeLine then some (.lst ps) else none)
theorem vo_lst (h : VA X T W es ml) : VO X T W (.List es pos) (mLstO ml) := ⟨(pe_lst h.pa).imV fun σ H Q q => by
  obtain ⟨ρ, w, rfl, E, q⟩ := q
  show tG X.K X.mg T (RVs X.K X.mg) W ml σ w.H _
  refine ⟨ρ, w, rfl, E, ?_⟩
  unfold mLstO M.bind at q
  cases em : ml ρ with
  | bad => rw [em] at q; exact q
  | err x ρ' => rw [em] at q; exact q
  | ok ps ρ' =>
    rw [em] at q
    intro vs w1 x1 E1 r1
    by_cases hz : ps.length ≤ sizeLine
    · simp only [M.lift, if_pos hz] at q
      refine ⟨by rw [← r1.length]; exact hz, fun p hp => ?_⟩
      obtain ⟨x2, E2, ro, n⟩ := own_new E1 r1 hp
      refine q p _ ⟨w1.G, upd w1.H p (.lst vs), w1.S⟩ (x1.trans x2) E2 ro (fun y hy => by subst hy; exact n) fun y hy => ?_
      subst hy
      exact none_of (x1.dom y) hp
    · simp only [M.lift, if_neg hz] at q⟩
/-- list(x) -/
def seqP : PV → Option (List PV)
  | .lst ps => some ps
  | .tup ps => some ps
  | .sq ps => some ps
  | _ => none
theorem seqP_rep {K : Frag} {mg : Str → Option Value} {G : Hp} {p : PV} {ps : List PV} {v : V} (h : seqP p = some ps) (r : Rep K mg G p v) : ∃ a vs, v = .ref a ∧ (SqL K G a vs ∨ SqT K G a vs) ∧ Reps K mg G ps vs := by
  cases p <;> cases h
  · obtain ⟨a, vs, e, h, r⟩ := r; exact ⟨a, vs, e, .inr h, r⟩
  · obtain ⟨a, vs, e, h, r⟩ := r; exact ⟨a, vs, e, .inl (.of h), r⟩
  · obtain ⟨a, vs, e, h, r⟩ := r; exact ⟨a, vs, e, .inl h, r⟩
def mListO (ma : M PV) : M OV := ma.bind fun p => .lift ((seqP p).map .lst)
theorem vo_list {x : Str} {p : Pos} (hg : Gl X x) (hm : X.mg x = none) (hv : bootBuiltins x = some (.type "list")) (ha : VE X T W e ma) (hn : x ≠ "__name__" := by decide) (hdb : (x == ("__debug__" : Str)) = false := by decide)
    (hse : starEach [e] X.env = (false, eval e X.env) :: starEach [] X.env := by rfl) (hpl : (backTo pos (starEach [] X.env)).any (·.1) = false := by rfl) : VO X T W (.Call (.Name x p) [e] [] pos) (mListO ma) :=
  ⟨(pe_callTy call_list_of hg hm hv (pa_cons ha.pe pa_nil hse) hn hdb hse hpl).imV fun σ H Q q => by
    obtain ⟨ρ, w, rfl, E, q⟩ := q
    show tG X.K X.mg T (RV X.K X.mg) W ma σ w.H _
    refine ⟨ρ, w, rfl, E, ?_⟩
    unfold mListO M.bind at q
    cases em : ma ρ with
    | bad => rw [em] at q; exact q
    | err x ρ' => rw [em] at q; exact q
    | ok pp ρ' =>
      rw [em] at q
      intro v w1 x1 E1 r1
      dsimp only at q
      cases hs : seqP pp with
      | none => rw [hs] at q; exact q.elim
      | some ps =>
        rw [hs] at q
        obtain ⟨a, vs, rfl, h1, r2⟩ := seqP_rep hs r1
        refine ⟨a, vs, rfl, h1.imp E1.sub.sqL E1.sub.sqT, fun l hl => ?_⟩
        obtain ⟨x2, E2, ro, n⟩ := own_new E1 r2 hl
        refine q l _ ⟨w1.G, upd w1.H l (.lst vs), w1.S⟩ (x1.trans x2) E2 ro (fun y hy => by subst hy; exact n) fun y hy => ?_
        subst hy
        exact none_of (x1.dom y) hl⟩

/-! ### lists in slots -/
def mAppend (i : Nat) (m : M PV) : MS := fun ρ => match ρ[i]? with
  | some (.ow (.lst _)) => sThen m (fun p ρ' => match ρ'[i]? with
    | some (.ow (.lst ps)) => if ps.length < sizeLine then .nx (ρ'.set i (.ow (.lst (ps ++ [p])))) else .bad
    | _ => .bad) ρ
  | _ => .bad
theorem Ev.ref {K : Frag} {mg : Str → Option Value} {w : Wo} {σ : St} {ρ : PEnv} (E : Ev K mg T w σ ρ) {i : Nat} {o : OV} (h : ρ[i]? = some (.ow o)) : ∃ a S, σ[i]? = some (some (.ref a)) ∧ Own K mg w.G w.H o a S := by
  obtain ⟨F, f1, f2, f3, f4⟩ := E.ex
  obtain ⟨a, hv, r⟩ := f2 i o h
  exact ⟨a, _, hv, r⟩
theorem vs_append {i : Nat} {x : Str} {p1 ap cp : Pos} (hx : PE X (.Name x p1) (tVar i)) (he : VE X T W e ma)
    (hb : attributeBase (.Name x p1) "append" X.env (eval (.Name x p1) X.env) = eval (.Name x p1) X.env := by rfl)
    (hfew : ((backTo cp (starEach [e] X.env)).all (fun x => !x.1) && (backToKw cp (keywordEach [] X.env)).all (fun x => x.1.isSome) && decide ([e].length + ([] : List Keyword).length + (if ([] : List Keyword).isEmpty then 0 else 1) < 30)) = true := by rfl)
    (hl : (ap.endLine == cp.line) = true := by rfl) (hs : starEach [e] X.env = (false, eval e X.env) :: starEach [] X.env := by rfl) (hp : (backTo cp (starEach [] X.env)).any (·.1) = false := by rfl)
    (hsw : swapsWith (.Call (.Attribute (.Name x p1) "append" ap) [e] [] cp) none pos.line X.env = pure false := by rfl) : VS X T I W (.Expr (.Call (.Attribute (.Name x p1) "append" ap) [e] [] cp) pos) (mAppend i ma) :=
  ⟨(ps_expr (pe_bm PySem.F.plainAttrs_list PySem.F.slot_list_append PySem.F.type_list_append mt_append hx (pa_cons he.pe pa_nil hs) hb hfew hl hs hp) hsw).imV fun D σ H q => by
    obtain ⟨ρ, w, rfl, E, q⟩ := q
    unfold mAppend at q
    split at q
    · rename_i ps0 e0
      obtain ⟨a, S, hσ, _, _, vs0, hH, _⟩ := E.ref e0
      refine ⟨.ref a, hσ, .inl ⟨rfl, vs0, .of hH⟩, ?_⟩
      show tG X.K X.mg T (RV X.K X.mg) W ma σ w.H _
      refine sK_step E q fun pa ρ1 xv w1 x1 E1 r1 q1 => ?_
      split at q1
      · rename_i ps e1
        split at q1
        · rename_i hz
          obtain ⟨a', S', hσ', eS, ⟨_, hG, vs, hH1, rs⟩, _, up⟩ := E1.upd1 e1 rfl
          obtain rfl : a' = a := by rw [hσ] at hσ'; cases hσ'; rfl
          refine ⟨a', vs, xv, rfl, rfl, hH1, by rw [← rs.length]; exact hz, ?_⟩
          obtain ⟨E2, x2⟩ := up (.lst (ps ++ [pa])) (.lst (vs ++ [xv])) .lst ⟨eS, hG, _, upd_same, rs.append (.one r1)⟩
          exact q1 σ ⟨w1.G, upd w1.H a' (.lst (vs ++ [xv])), w1.S⟩ x2 E2 (Keep.refl _)
        · exact q1.elim
      · exact q1.elim
    · exact q.elim⟩
def mExtend (i : Nat) (m : M PV) : MS := fun ρ => match ρ[i]? with
  | some (.ow (.lst _)) => sThen m (fun p ρ' => match ρ'[i]?, p with
    | some (.ow (.lst ps)), .lst qs => if ps.length + qs.length ≤ sizeLine then .nx (ρ'.set i (.ow (.lst (ps ++ qs)))) else .bad
    | _, _ => .bad) ρ
  | _ => .bad
theorem vs_extend {i : Nat} {x : Str} {p1 ap cp : Pos} (hx : PE X (.Name x p1) (tVar i)) (he : VE X T W e ma)
    (hb : attributeBase (.Name x p1) "extend" X.env (eval (.Name x p1) X.env) = eval (.Name x p1) X.env := by rfl)
    (hfew : ((backTo cp (starEach [e] X.env)).all (fun x => !x.1) && (backToKw cp (keywordEach [] X.env)).all (fun x => x.1.isSome) && decide ([e].length + ([] : List Keyword).length + (if ([] : List Keyword).isEmpty then 0 else 1) < 30)) = true := by rfl)
    (hl : (ap.endLine == cp.line) = true := by rfl) (hs : starEach [e] X.env = (false, eval e X.env) :: starEach [] X.env := by rfl) (hp : (backTo cp (starEach [] X.env)).any (·.1) = false := by rfl)
    (hsw : swapsWith (.Call (.Attribute (.Name x p1) "extend" ap) [e] [] cp) none pos.line X.env = pure false := by rfl) : VS X T I W (.Expr (.Call (.Attribute (.Name x p1) "extend" ap) [e] [] cp) pos) (mExtend i ma) :=
  ⟨(ps_expr (pe_bm PySem.F.plainAttrs_list PySem.F.slot_list_extend PySem.F.type_list_extend mt_extend hx (pa_cons he.pe pa_nil hs) hb hfew hl hs hp) hsw).imV fun D σ H q => by
    obtain ⟨ρ, w, rfl, E, q⟩ := q
    unfold mExtend at q
    split at q
    · rename_i ps0 e0
      obtain ⟨a, S, hσ, _, _, vs0, hH, _⟩ := E.ref e0
      refine ⟨.ref a, hσ, .inl ⟨rfl, vs0, .of hH⟩, ?_⟩
      show tG X.K X.mg T (RV X.K X.mg) W ma σ w.H _
      refine sK_step E q fun pa ρ1 xv w1 x1 E1 r1 q1 => ?_
      split at q1
      · rename_i ps qs e1
        split at q1
        · rename_i hz
          obtain ⟨a', S', hσ', eS, ⟨_, hG, vs, hH1, rs⟩, _, up⟩ := E1.upd1 e1 rfl
          obtain rfl : a' = a := by rw [hσ] at hσ'; cases hσ'; rfl
          obtain ⟨b, ws, rfl, hb, rb⟩ := r1
          refine ⟨a', b, vs, ws, rfl, rfl, hH1, E1.sub _ _ hb, by rw [← rs.length, ← rb.length]; exact hz, ?_⟩
          obtain ⟨E2, x2⟩ := up (.lst (ps ++ qs)) (.lst (vs ++ ws)) .lst ⟨eS, hG, _, upd_same, rs.append rb⟩
          exact q1 σ ⟨w1.G, upd w1.H a' (.lst (vs ++ ws)), w1.S⟩ x2 E2 (Keep.refl _)
        · exact q1.elim
      · exact q1.elim
    · exact q.elim⟩
def mPop (i : Nat) : M PV := fun ρ => match ρ[i]? with
  | some (.ow (.lst ps)) => (match ps[ps.length - 1]? with
    | some p => .ok p (ρ.set i (.ow (.lst ps.dropLast)))
    | none => .bad)
  | _ => .bad
theorem ve_pop {i : Nat} {x : Str} {p1 ap cp : Pos} (hx : PE X (.Name x p1) (tVar i)) (hb : attributeBase (.Name x p1) "pop" X.env (eval (.Name x p1) X.env) = eval (.Name x p1) X.env := by rfl) (hl : (ap.endLine == cp.line) = true := by rfl) :
    VE X T W (.Call (.Attribute (.Name x p1) "pop" ap) [] [] cp) (mPop i) := ⟨(pe_bm0 PySem.F.plainAttrs_list PySem.F.slot_list_pop PySem.F.type_list_pop mt_pop hx hb hl).imV fun σ H Q q => by
    obtain ⟨ρ, w, rfl, E, q⟩ := q
    unfold mPop at q
    split at q
    · rename_i ps e1
      split at q
      · rename_i p ep
        obtain ⟨a, S', hσ, eS, ⟨_, hG, vs, hH1, rs⟩, _, up⟩ := E.upd1 e1 rfl
        obtain ⟨v, hv, rv⟩ := rs.get ep
        rw [rs.length] at hv
        refine ⟨.ref a, hσ, .inl ⟨rfl, vs, .of hH1⟩, a, vs, v, rfl, rfl, hH1, hv, ?_⟩
        obtain ⟨E2, x2⟩ := up (.lst ps.dropLast) (.lst vs.dropLast) .lst ⟨eS, hG, _, upd_same, rs.dropLast⟩
        exact q v ⟨w.G, upd w.H a (.lst vs.dropLast), w.S⟩ x2 E2 rv
      · exact q.elim
    · exact q.elim⟩

/-! ### looks -/
def mLook1 (f : PV → Option PV) (a : M PV) : M PV := a.bind fun x => .lift (pl1 f x)
def mLook2 (f : PV → PV → Option PV) (a b : M PV) : M PV := a.bind fun x => b.bind fun y => .lift (pl2 f x y)
/-- len(x), x perhaps owned -/
theorem ve_callBL {id : String} {x : Str} {p : Pos} {f : List PV → Option PV} (hc : CallR X (.builtin id) (rPL X.K X.mg f)) (hg : Gl X x) (hm : X.mg x = none) (hv : bootBuiltins x = some (.builtin id)) (ha : VB X T W e ma) (hn : x ≠ "__name__" := by decide) (hdb : (x == ("__debug__" : Str)) = false := by decide)
    (he : starEach [e] X.env = (false, eval e X.env) :: starEach [] X.env := by rfl) (hpl : (backTo pos (starEach [] X.env)).any (·.1) = false := by rfl) : VE X T W (.Call (.Name x p) [e] [] pos) (mLook1 (fun z => f [z]) ma) :=
  ⟨(pe_callB hc hg hm hv (pa_cons ha.pe pa_nil he) hn hdb he hpl).imV fun σ H Q q => by
    obtain ⟨ρ, w, rfl, E, q⟩ := q
    refine ⟨ρ, w, rfl, E, ?_⟩
    unfold mLook1 M.bind at q
    cases em : ma ρ with
    | bad => rw [em] at q; exact q
    | err x ρ' => rw [em] at q; exact q
    | ok z ρ' =>
      rw [em] at q
      rintro v w1 x1 E1 ⟨G', s, fz, r1⟩
      obtain ⟨u, e, q2⟩ := tK_lift (q.mono x1)
      obtain ⟨e1, e2⟩ := pl1_some e
      exact ⟨G', [z], u, fz, .one r1, e1, E1.doneL s e2 q2⟩⟩
/-- what only grows -/
structure VQ (X : Cx) (e : Expr) (p : PV) : Prop where
  pe : PE X e fun σ H Q => ∃ G, Fz G H ∧ Done X.K X.mg G H p Q
theorem vq_const {v : V} {p : PV} (h : PE X e (tC v)) (r : ∀ G, Rep X.K X.mg G p v) : VQ X e p := ⟨h.imV fun σ H Q q => by
  obtain ⟨G, f, q⟩ := q
  exact q.here f (r G)⟩
theorem vq_int {i : Int} {j} : VQ X (.Constant (.int i) j pos) (.int i) := vq_const pe_int fun _ => rfl
theorem vq_str {i : Str} {j} : VQ X (.Constant (.str i) j pos) (.str i) := vq_const pe_str fun _ => rfl
theorem vq_non {j} : VQ X (.Constant .none j pos) .non := vq_const pe_non fun _ => rfl
theorem vq_nil : VQ X (.List [] pos) (.lst []) := ⟨(pe_lst pa_nil).imV fun σ H Q q => by
  obtain ⟨G, f, q⟩ := q
  exact ⟨Nat.zero_le _, q.lst f .nil⟩⟩
theorem vq_nilT {x1} : VQ X (.Tuple [] x1 pos) (.tup []) := ⟨(pe_tup pa_nil).imV fun σ H Q q => by
  obtain ⟨G, f, q⟩ := q
  exact ⟨Nat.zero_le _, q.tup f .nil⟩⟩
theorem lookQ {f : PV → PV → Option PV} {p : PV} {σ : St} {H : Hp} {Q : VK} (ha : VB X T W a ma) (q : tG X.K X.mg T (RV X.K X.mg) W (mLook1 (fun z => f z p) ma) σ H Q) :
    ∃ ρ w, w.H = H ∧ Ev X.K X.mg T w σ ρ ∧ (match ma ρ with
    | .ok p' ρ' => ∀ v w', Ext w w' → Ev X.K X.mg T w' σ ρ' → RL X.K X.mg w'.H w'.G p' v → (∃ G, Fz G w'.H ∧ Done X.K X.mg G w'.H p fun y H2 => rP2 X.K X.mg f v y H2 Q)
    | .err x ρ' => ∀ cls d w', Ext w w' → Ev X.K X.mg T w' σ ρ' → RepX X.K X.mg w'.G x cls d → W cls d σ w'.H
    | .bad => False) := by
  obtain ⟨ρ, w, rfl, E, q⟩ := q
  refine ⟨ρ, w, rfl, E, ?_⟩
  unfold mLook1 M.bind at q
  cases em : ma ρ with
  | bad => rw [em] at q; exact q
  | err x ρ' => rw [em] at q; exact q
  | ok z ρ' =>
    rw [em] at q
    rintro v w1 x1 E1 ⟨G', s, fz, r1⟩
    obtain ⟨u, e, q2⟩ := tK_lift (q.mono x1)
    obtain ⟨e1, e2⟩ := pl1_some e
    refine ⟨G', fz, fun y G2 H2 P r2 => ⟨G2, z, p, u, ⟨P.sub, P.nt⟩, r1.mono P.g, r2, e1, fun y3 G3 H3 P3 r3 => ?_⟩⟩
    have hh : Sub w1.H H3 := P.h.trans P3.h
    obtain ⟨E', x'⟩ := E1.grow (G' := w1.G) (H' := H3) (Sub.refl _) hh (E1.sub.trans hh) E1.nt fun _ _ h => .inl h
    exact q2 y3 ⟨w1.G, H3, w1.S⟩ x' E' (plain_any e2 r3)
theorem ve_cmpLQ {op : CmpOp} {f : PV → PV → Option PV} {p : PV} (ho : OpR X (compareOp op) (rP2 X.K X.mg f)) (ha : VB X T W a ma) (hb : VQ X b p) (hm : behindInMarks op b = false) : VE X T W (.Compare a [op] [b] pos) (mLook1 (fun z => f z p) ma) :=
  ⟨(pe_cmpR ho ha.pe hb.pe hm).imV fun σ H Q q => lookQ ha q⟩
theorem vt_cmpLQ {op : CmpOp} {f : PV → PV → Option PV} {p : PV} (ho : OpR X (compareOp op) (rP2 X.K X.mg f)) (ha : VB X T W a ma) (hb : VQ X b p) (hm : behindInMarks op b = false) : VT X T W (.Compare a [op] [b] pos) (mTest (mLook1 (fun z => f z p) ma)) :=
  ⟨(pt_cmpR ho ha.pe hb.pe hm).imV fun σ H Q q => by
    have h := tst q
    exact lookQ ha h⟩
/-- x[i], x an owned list -/
def mIxO (i : Nat) (mi : M PV) : M PV := fun ρ => match ρ[i]? with
  | some (.ow (.lst _)) => mi.bind (fun ip ρ' => match ρ'[i]?, ip with
    | some (.ow (.lst ps)), .int k => M.lift (atI ps k) ρ'
    | _, _ => .bad) ρ
  | _ => .bad
theorem Reps.atI {K : Frag} {mg : Str → Option Value} {G : Hp} {ps : List PV} {vs : List V} {k : Int} {p : PV} (r : Reps K mg G ps vs) (h : L2.atI ps k = some p) : ∃ v, L2.atI vs k = some v ∧ Rep K mg G p v := by
  unfold L2.atI at h ⊢
  rw [← r.length]
  cases e : ixN ps.length k with
  | none => rw [e] at h; cases h
  | some j =>
    rw [e] at h
    exact r.get h
theorem ve_ixO {i : Nat} {x : Str} {p1 : Pos} (hx : PE X (.Name x p1) (tVar i)) (hi : VE X T W a ma) (hs : PlainIx a) : VE X T W (.Subscript (.Name x p1) a pos) (mIxO i ma) := ⟨(pe_ix ix_list hx hi.pe hs).imV fun σ H Q q => by
  obtain ⟨ρ, w, rfl, E, q⟩ := q
  unfold mIxO at q
  split at q
  · rename_i ps0 e0
    obtain ⟨u, S, hσ, _, _, vs0, hH, _⟩ := E.ref e0
    refine ⟨.ref u, hσ, ?_⟩
    refine tK_step E q fun ip ρ1 y w1 x1 E1 r1 q1 => ?_
    split at q1
    · rename_i ps k e1
      obtain ⟨u', S', hσ', _, hG, vs, hH1, rs⟩ := E1.ref e1
      obtain rfl : u' = u := by rw [hσ] at hσ'; cases hσ'; rfl
      obtain ⟨z, ez, q2⟩ := tK_lift q1
      obtain ⟨v, hv, rv⟩ := rs.atI ez
      exact ⟨u', vs, k, v, rfl, r1, .of hH1, hv, q2 v w1 (Ext.refl _) E1 rv⟩
    · exact q1.elim
  · exact q.elim⟩
end
end VS

set_option Elab.async false
set_option linter.all false
set_option maxRecDepth 100000
set_option maxHeartbeats 1000000
namespace VS
open PySem PySem.Spec PyProof.Rows L2

/-! ### dicts -/
def keyOf : PV → Option Key
  | .int i => some (.inl i)
  | .str x => some (.inr x)
  | _ => none
def dLook : List Key → List PV → Key → Option PV
  | j :: ks, p :: ps, k => if j = k then some p else dLook ks ps k
  | _, _, _ => none
def dRepl : List Key → List PV → Key → PV → List PV
  | j :: ks, p :: ps, k, q => (if j = k then q else p) :: dRepl ks ps k q
  | _, _, _, _ => []
def dPut (ks : List Key) (ps : List PV) (k : Key) (p : PV) : OV := if ks.any (fun j => decide (j = k)) = true then .dic ks (dRepl ks ps k p) else .dic (ks ++ [k]) (ps ++ [p])
section
variable {K : Frag} {mg : Str → Option Value} {G : Hp}
theorem keyOf_rep {p : PV} {k : Key} {v : V} (h : keyOf p = some k) (r : Rep K mg G p v) : v = kV k := by
  cases p <;> cases h
  · exact r
  · exact r
theorem dLook_rep : ∀ {kvs : List (Key × V)} {ps : List PV} {k : Key}, Reps K mg G ps (kvs.map (·.2)) → (dLook (kvs.map (·.1)) ps k = none ∧ valV kvs k = none) ∨ ∃ p v, dLook (kvs.map (·.1)) ps k = some p ∧ valV kvs k = some v ∧ Rep K mg G p v
  | [], _, k, r => .inl ⟨by cases ‹List PV› <;> rfl, rfl⟩
  | kv :: kvs, [], k, r => by cases r
  | kv :: kvs, p :: ps, k, r => by
    obtain ⟨v, rr, e, r1, r2⟩ := r
    rw [List.map_cons] at e
    have ev : kv.2 = v := (List.cons.inj e).1
    have er : kvs.map (·.2) = rr := (List.cons.inj e).2
    subst ev er
    rw [List.map_cons]
    unfold dLook
    by_cases hk : kv.1 = k
    · rw [if_pos hk, valV_pos hk]
      exact .inr ⟨p, kv.2, rfl, rfl, r1⟩
    · rw [if_neg hk, valV_neg hk]
      exact dLook_rep r2
theorem dRepl_rep {k : Key} {q : PV} {y : V} (rq : Rep K mg G q y) : ∀ {kvs : List (Key × V)} {ps : List PV}, Reps K mg G ps (kvs.map (·.2)) → Reps K mg G (dRepl (kvs.map (·.1)) ps k q) ((kvs.map fun kv => if kv.1 = k then (kv.1, y) else kv).map (·.2))
  | [], ps, r => by cases ps <;> exact rfl
  | kv :: kvs, [], r => by cases r
  | kv :: kvs, p :: ps, r => by
    obtain ⟨v, rr, e, r1, r2⟩ := r
    rw [List.map_cons] at e
    have ev : kv.2 = v := (List.cons.inj e).1
    have er : kvs.map (·.2) = rr := (List.cons.inj e).2
    subst ev er
    simp only [List.map_cons]
    unfold dRepl
    refine ⟨_, _, rfl, ?_, dRepl_rep rq r2⟩
    by_cases hk : kv.1 = k
    · rw [if_pos hk, if_pos hk]; exact rq
    · rw [if_neg hk, if_neg hk]; exact r1
theorem dPut_own {H : Hp} {a : Addr} {S : Addr → Prop} {kvs : List (Key × V)} {ps : List PV} {k : Key} {q : PV} {y : V} (eS : ∀ x, S x ↔ x = a) (hG : G a = none) (r : Reps K mg G ps (kvs.map (·.2))) (rq : Rep K mg G q y) :
    Own K mg G (upd H a (.dK (putK kvs k y))) (dPut (kvs.map (·.1)) ps k q) a S := by
  have e : ((kvs.map (·.1)).any fun j => decide (j = k)) = kvs.any fun kv => decide (kv.1 = k) := by rw [List.any_map]; rfl
  unfold dPut putK
  rw [e]
  split
  · refine ⟨eS, hG, _, upd_same, ?_, dRepl_rep rq r⟩
    rw [List.map_map]
    apply List.map_congr_left
    intro kv _
    show (if kv.1 = k then (kv.1, y) else kv).1 = kv.1
    split <;> rfl
  · refine ⟨eS, hG, _, upd_same, by rw [List.map_append]; rfl, ?_⟩
    rw [List.map_append]
    exact r.append (.one rq)
end
def mDGet (i : Nat) (mk : M PV) : M PV := fun ρ => match ρ[i]? with
  | some (.ow (.dic _ _)) => mk.bind (fun kp ρ' => match ρ'[i]?, keyOf kp with
    | some (.ow (.dic ks ps)), some k => M.lift (dLook ks ps k) ρ'
    | _, _ => .bad) ρ
  | _ => .bad
def pDGet : PV → PV → Option PV
  | .dic ks ps, kp => (keyOf kp).bind fun k => dLook ks ps k
  | _, _ => none
def pDIn : PV → PV → Option PV
  | kp, .dic ks ps => (keyOf kp).map fun k => .bl (dLook ks ps k).isSome
  | _, _ => none
def pDNotIn : PV → PV → Option PV
  | kp, .dic ks ps => (keyOf kp).map fun k => .bl (!(dLook ks ps k).isSome)
  | _, _ => none
def mDPut (i : Nat) (mk mv : M PV) : MS := sThen mv fun p ρ1 => match ρ1[i]? with
  | some (.ow (.dic _ _)) => sThen mk (fun kp ρ2 => match ρ2[i]?, keyOf kp with
    | some (.ow (.dic ks ps)), some k => if ks.length < sizeLine then .nx (ρ2.set i (.ow (dPut ks ps k p))) else .bad
    | _, _ => .bad) ρ1
  | _ => .bad
section
variable {X : Cx} {T : List (Addr × Str)} {I : Nat → Bool} {W : WX} {e a b c o ke value : Expr} {es : List Expr} {ma mb mk mv : M PV} {mo : M OV} {ml : M (List PV)} {pos pos' : Pos}
theorem ve_dgetO {i : Nat} {x : Str} {p1 : Pos} (hu : X.A.units + 1 < cLine) (hx : PE X (.Name x p1) (tVar i)) (hk : VE X T W ke mk) (hs : NoSl ke) : VE X T W (.Subscript (.Name x p1) ke pos) (mDGet i mk) := ⟨(pe_dget hu hx hk.pe hs).imV fun σ H Q q => by
  obtain ⟨ρ, w, rfl, E, q⟩ := q
  unfold mDGet at q
  split at q
  · rename_i ks0 ps0 e0
    obtain ⟨u, S, hσ, _, _, kvs0, hH, _⟩ := E.ref e0
    refine ⟨.ref u, hσ, ?_⟩
    refine tK_step E q fun kp ρ1 y w1 x1 E1 r1 q1 => ?_
    split at q1
    · rename_i ks ps k e1 ek
      obtain ⟨u', S', hσ', _, hG, kvs, hH1, hks, rs⟩ := E1.ref e1
      obtain rfl : u' = u := by rw [hσ] at hσ'; cases hσ'; rfl
      obtain ⟨z, ez, q2⟩ := tK_lift q1
      subst hks
      rcases dLook_rep (k := k) rs with ⟨h1, _⟩ | ⟨p, v, h1, h2, r⟩
      · rw [ez] at h1; cases h1
      · rw [ez] at h1; cases h1
        have ey := keyOf_rep ek r1
        subst ey
        exact ⟨u', v, rfl, by rw [← h2]; exact .k hH1, q2 v w1 (Ext.refl _) E1 r⟩
    · exact q1.elim
  · exact q.elim⟩
theorem ve_dget (hu : X.A.units + 1 < cLine) (ho : VE X T W o ma) (hk : VE X T W ke mk) (hs : NoSl ke) : VE X T W (.Subscript o ke pos) (mOp2 pDGet ma mk) := ⟨(pe_dget hu ho.pe hk.pe hs).imV fun σ H Q q => by
  refine tG_step q fun pa ρ1 x w1 E1 r1 q1 => ?_
  refine tK_step E1 q1 fun pb ρ2 y w2 x2 E2 r2 q2 => ?_
  obtain ⟨z, e, q3⟩ := tK_lift q2
  unfold pDGet at e
  split at e
  · rename_i ks ps
    obtain ⟨d, kvs, rfl, hd, rfl, rs⟩ := r1
    cases ek : keyOf pb with
    | none => rw [ek] at e; cases e
    | some k =>
      rw [ek] at e
      rcases dLook_rep (k := k) rs with ⟨h1, _⟩ | ⟨p, v, h1, h2, r⟩
      · rw [show dLook _ _ k = some z from e] at h1; cases h1
      · rw [show dLook _ _ k = some z from e] at h1; cases h1
        have ey := keyOf_rep ek r2
        subst ey
        exact ⟨d, v, rfl, by rw [← h2]; exact .k (E2.sub _ _ (x2.g _ _ hd)), q3 v w2 (Ext.refl _) E2 (r.mono x2.g)⟩
  · cases e⟩
theorem ve_din (hu : X.A.units + 1 < cLine) (hk : VE X T W ke mk) (ho : VE X T W o ma) (hm : behindInMarks .In o = false := by rfl) : VE X T W (.Compare ke [.In] [o] pos) (mOp2 pDIn mk ma) := ⟨(pe_cmp (pc_din hu hk.pe ho.pe) hm).imV fun σ H Q q => by
  refine tG_step q fun pa ρ1 x w1 E1 r1 q1 => ?_
  refine tK_step E1 q1 fun pb ρ2 y w2 x2 E2 r2 q2 => ?_
  obtain ⟨z, e, q3⟩ := tK_lift q2
  unfold pDIn at e
  split at e
  · rename_i ks ps
    obtain ⟨d, kvs, rfl, hd, rfl, rs⟩ := r2
    cases ek : keyOf pa with
    | none => rw [ek] at e; cases e
    | some k =>
      rw [ek] at e
      cases e
      have ey := keyOf_rep ek r1
      subst ey
      refine ⟨d, valV kvs k, rfl, .k (E2.sub _ _ hd), ?_⟩
      rcases dLook_rep (k := k) rs with ⟨h1, h2⟩ | ⟨p, v, h1, h2, r⟩
      · rw [h2]; exact q3 _ w2 (Ext.refl _) E2 (show V.bl _ = V.bl _ by rw [h1]; rfl)
      · rw [h2]; exact q3 _ w2 (Ext.refl _) E2 (show V.bl _ = V.bl _ by rw [h1]; rfl)
  · cases e⟩
theorem vt_din (hu : X.A.units + 1 < cLine) (hk : VE X T W ke mk) (ho : VE X T W o ma) (hm : behindInMarks .In o = false := by rfl) : VT X T W (.Compare ke [.In] [o] pos) (mTest (mOp2 pDIn mk ma)) := ⟨(pt_cmp (pc_din hu hk.pe ho.pe) hm).imV fun σ H Q q => by
  have q := tst q
  refine tG_step q fun pa ρ1 x w1 E1 r1 q1 => ?_
  refine tK_step E1 q1 fun pb ρ2 y w2 x2 E2 r2 q2 => ?_
  obtain ⟨z, e, q3⟩ := tK_lift q2
  unfold pDIn at e
  split at e
  · rename_i ks ps
    obtain ⟨d, kvs, rfl, hd, rfl, rs⟩ := r2
    cases ek : keyOf pa with
    | none => rw [ek] at e; cases e
    | some k =>
      rw [ek] at e
      cases e
      have ey := keyOf_rep ek r1
      subst ey
      refine ⟨d, valV kvs k, rfl, .k (E2.sub _ _ hd), ?_⟩
      rcases dLook_rep (k := k) rs with ⟨h1, h2⟩ | ⟨p, v, h1, h2, r⟩
      · rw [h2]; exact q3 _ w2 (Ext.refl _) E2 (show V.bl _ = V.bl _ by rw [h1]; rfl)
      · rw [h2]; exact q3 _ w2 (Ext.refl _) E2 (show V.bl _ = V.bl _ by rw [h1]; rfl)
  · cases e⟩
theorem ve_dnotin (hu : X.A.units + 1 < cLine) (hk : VE X T W ke mk) (ho : VE X T W o ma) (hm : behindInMarks .NotIn o = false := by rfl) : VE X T W (.Compare ke [.NotIn] [o] pos) (mOp2 pDNotIn mk ma) := ⟨(pe_cmp (pc_dnotin hu hk.pe ho.pe) hm).imV fun σ H Q q => by
  refine tG_step q fun pa ρ1 x w1 E1 r1 q1 => ?_
  refine tK_step E1 q1 fun pb ρ2 y w2 x2 E2 r2 q2 => ?_
  obtain ⟨z, e, q3⟩ := tK_lift q2
  unfold pDNotIn at e
  split at e
  · rename_i ks ps
    obtain ⟨d, kvs, rfl, hd, rfl, rs⟩ := r2
    cases ek : keyOf pa with
    | none => rw [ek] at e; cases e
    | some k =>
      rw [ek] at e
      cases e
      have ey := keyOf_rep ek r1
      subst ey
      refine ⟨d, valV kvs k, rfl, .k (E2.sub _ _ hd), ?_⟩
      rcases dLook_rep (k := k) rs with ⟨h1, h2⟩ | ⟨p, v, h1, h2, r⟩
      · rw [h2]; exact q3 _ w2 (Ext.refl _) E2 (show V.bl _ = V.bl _ by rw [h1]; rfl)
      · rw [h2]; exact q3 _ w2 (Ext.refl _) E2 (show V.bl _ = V.bl _ by rw [h1]; rfl)
  · cases e⟩
theorem vt_dnotin (hu : X.A.units + 1 < cLine) (hk : VE X T W ke mk) (ho : VE X T W o ma) (hm : behindInMarks .NotIn o = false := by rfl) : VT X T W (.Compare ke [.NotIn] [o] pos) (mTest (mOp2 pDNotIn mk ma)) := ⟨(pt_cmp (pc_dnotin hu hk.pe ho.pe) hm).imV fun σ H Q q => by
  have q := tst q
  refine tG_step q fun pa ρ1 x w1 E1 r1 q1 => ?_
  refine tK_step E1 q1 fun pb ρ2 y w2 x2 E2 r2 q2 => ?_
  obtain ⟨z, e, q3⟩ := tK_lift q2
  unfold pDNotIn at e
  split at e
  · rename_i ks ps
    obtain ⟨d, kvs, rfl, hd, rfl, rs⟩ := r2
    cases ek : keyOf pa with
    | none => rw [ek] at e; cases e
    | some k =>
      rw [ek] at e
      cases e
      have ey := keyOf_rep ek r1
      subst ey
      refine ⟨d, valV kvs k, rfl, .k (E2.sub _ _ hd), ?_⟩
      rcases dLook_rep (k := k) rs with ⟨h1, h2⟩ | ⟨p, v, h1, h2, r⟩
      · rw [h2]; exact q3 _ w2 (Ext.refl _) E2 (show V.bl _ = V.bl _ by rw [h1]; rfl)
      · rw [h2]; exact q3 _ w2 (Ext.refl _) E2 (show V.bl _ = V.bl _ by rw [h1]; rfl)
  · cases e⟩
theorem vs_dput {i : Nat} {x : Str} {p1 : Pos} (hu : X.A.units + 1 < cLine) (hx : PE X (.Name x p1) (tVar i)) (hk : VE X T W ke mk) (hv : VE X T W value mv) (hs : swapsWith value (some (.Subscript (.Name x p1) ke pos')) pos.line X.env = pure false := by rfl) :
    VS X T I W (.Assign [.Subscript (.Name x p1) ke pos'] value pos) (mDPut i mk mv) := ⟨(ps_dput hu hx hk.pe hv.pe hs).imV fun D σ H q => by
  refine sG_step q fun pv' ρ1 v w1 E1 r1 q1 => ?_
  split at q1
  · rename_i ks0 ps0 e0
    obtain ⟨u, S, hσ, _, _, kvs0, hH, _⟩ := E1.ref e0
    refine ⟨.ref u, hσ, ?_⟩
    refine sK_step E1 q1 fun kp ρ2 y w2 x2 E2 r2 q2 => ?_
    split at q2
    · rename_i ks ps k e1 ek
      split at q2
      · rename_i hz
        obtain ⟨u', S', hσ', eS, ⟨_, hG, kvs, hH1, rfl, rs⟩, _, up⟩ := E2.upd1 e1 rfl
        obtain rfl : u' = u := by rw [hσ] at hσ'; cases hσ'; rfl
        have ey := keyOf_rep ek r2
        subst ey
        rw [List.length_map] at hz
        refine ⟨u', _, rfl, .k hH1 hz, ?_⟩
        obtain ⟨E3, x3⟩ := up _ (.dK (putK kvs k v)) .dK (dPut_own eS hG rs (r1.mono x2.g))
        exact q2 σ ⟨w2.G, upd w2.H u' (.dK (putK kvs k v)), w2.S⟩ x3 E3 (Keep.refl _)
      · exact q2.elim
    · exact q2.elim
  · exact q1.elim⟩

/-! ### dict displays -/
structure VPs (X : Cx) (T : List (Addr × Str)) (W : WX) (pos : Pos) (keys : List (Option Expr)) (vals : List Expr) (ks : List Key) (m : M (List PV)) : Prop where
  ex : ∃ trs, PPs X pos keys vals trs ∧ ∀ (σ : St) (w : Wo) (ρ : PEnv) (Q : List (V × V) → Hp → Prop), Ev X.K X.mg T w σ ρ →
    (match m ρ with
      | .ok ps ρ' => ∀ (kvs : List (Key × V)) w', Ext w w' → Ev X.K X.mg T w' σ ρ' → kvs.map (·.1) = ks → Reps X.K X.mg w'.G ps (kvs.map (·.2)) → Q (kvs.map fun kv => (kV kv.1, kv.2)) w'.H
      | .err x ρ' => ∀ cls d w', Ext w w' → Ev X.K X.mg T w' σ ρ' → RepX X.K X.mg w'.G x cls d → W cls d σ w'.H
      | .bad => False) → tPairs trs σ w.H Q
theorem vps_nil : VPs X T W pos [] [] [] (M.pure []) := ⟨[], pps_nil, fun σ w ρ Q E q => q [] w (Ext.refl _) E rfl rfl⟩
theorem vps_cons {kx : Str} {j : Nat} {kp : Pos} {v : Expr} {keys : List (Option Expr)} {vals : List Expr} {ks : List Key} (hv : VE X T W v mv) (hr : VPs X T W pos keys vals ks ml) :
    VPs X T W pos (some (.Constant (.str kx) j kp) :: keys) (v :: vals) (.inr kx :: ks) (mCons mv ml) := by
  obtain ⟨trs, h1, h2⟩ := hr.ex
  refine ⟨_, pps_cons pe_str hv.pe h1, fun σ w ρ Q E q => ?_⟩
  show tG X.K X.mg T (RV X.K X.mg) W mv σ w.H _
  refine ⟨ρ, w, rfl, E, ?_⟩
  unfold mCons M.bind at q
  cases em : mv ρ with
  | bad => rw [em] at q; exact q
  | err x ρ' => rw [em] at q; exact q
  | ok p ρ1 =>
    rw [em] at q
    intro y w1 x1 E1 r1
    dsimp only at q
    refine h2 σ w1 ρ1 _ E1 ?_
    cases em2 : ml ρ1 with
    | bad => rw [em2] at q; exact q
    | err x ρ' => rw [em2] at q; exact fun cls d w' x' => q cls d w' (x1.trans x')
    | ok ps ρ2 =>
      rw [em2] at q
      intro kvs w2 x2 E2 hk r2
      exact q ((.inr kx, y) :: kvs) w2 (x1.trans x2) E2 (by simp [hk]) (.cons (r1.mono x2.g) r2)
theorem merge_nodup : ∀ (more kvs : List (Key × V)), (kvs.map (·.1) ++ more.map (·.1)).Nodup → mergeK kvs more = kvs ++ more
  | [], kvs, _ => by simp [mergeK]
  | p :: r, kvs, h => by
    have hp : p.1 ∉ kvs.map (·.1) := by
      intro hm
      rw [List.map_cons] at h
      exact (List.nodup_append.mp h).2.2 _ hm _ List.mem_cons_self rfl
    have e : putK kvs p.1 p.2 = kvs ++ [p] := by
      unfold putK
      rw [if_neg]
      intro hh
      obtain ⟨kv, h1, h2⟩ := List.any_eq_true.mp hh
      exact hp (List.mem_map.mpr ⟨kv, h1, of_decide_eq_true h2⟩)
    show mergeK (putK kvs p.1 p.2) r = _
    rw [e, merge_nodup r (kvs ++ [p]) (by rw [List.map_append, List.append_assoc]; exact h), List.append_assoc]
    rfl
def mDisp (ks : List Key) (m : M (List PV)) : M OV := m.bind fun ps => .pure (.dic ks ps)
theorem vo_disp {keys : List (Option Expr)} {vals : List Expr} {ks : List Key} (h : VPs X T W pos keys vals ks ml) (hnd : ks.Nodup) (h15 : ks.length ≤ 15) (hall : keys.all (·.isSome) = true := by rfl) (hl : keys.length = vals.length := by rfl) (h0 : keys ≠ [] := by exact List.cons_ne_nil _ _)
    (hk15 : keys.length ≤ 15 := by decide) : VO X T W (.Dict keys vals pos) (mDisp ks ml) := by
  obtain ⟨trs, h1, h2⟩ := h.ex
  refine ⟨(pe_disp h1 hall hl h0 hk15).imV fun σ H Q q => ?_⟩
  obtain ⟨ρ, w, rfl, E, q⟩ := q
  intro p hp
  have sh : Sub w.H (upd w.H p (.dK [])) := sub_upd hp
  obtain ⟨E0, x0⟩ := E.grow (G' := w.G) (H' := upd w.H p (.dK [])) (Sub.refl _) sh (E.sub.trans sh) E.nt fun _ _ h => .inl h
  have nS : ¬ w.S p := fun h => by
    obtain ⟨u, hu, _⟩ := E.sn p h
    rw [hu] at hp; cases hp
  have nG : w.G p = none := by
    cases e : w.G p with
    | none => rfl
    | some u => rw [E.sub _ _ e] at hp; cases hp
  refine h2 σ ⟨w.G, upd w.H p (.dK []), w.S⟩ ρ _ E0 ?_
  unfold mDisp M.bind at q
  cases em : ml ρ with
  | bad => rw [em] at q; exact q
  | err x ρ' => rw [em] at q; exact fun cls d w' x' => q cls d w' (x0.trans x')
  | ok ps ρ2 =>
    rw [em] at q
    intro kvs w2 x2 E2 hk r2
    have hp2 : w2.H p = some (.dK []) := x2.h p _ upd_same nS .dK
    have nG2 : w2.G p = none := by
      cases e : w2.G p with
      | none => rfl
      | some u =>
        rcases x2.ng p u e with z | z | z
        · rw [show w.G p = _ from z] at nG; cases nG
        · exact (nS z).elim
        · have z' : upd w.H p (.dK []) p = none := z
          rw [upd_same] at z'; cases z'
    have nS2 : ¬ w2.S p := fun h => by
      rcases x2.ns p h with z | z
      · exact nS z
      · have : upd w.H p (.dK []) p = none := z
        rw [upd_same] at this; cases this
    refine ⟨hp2, kvs, rfl, by rw [← List.length_map, hk]; exact h15, ?_⟩
    have em2 : mergeK [] kvs = kvs := by
      rw [merge_nodup kvs [] (by rw [List.map_nil, List.nil_append, hk]; exact hnd)]; rfl
    rw [em2]
    -- the dict is ours alone
    obtain ⟨F, f1, f2, f3, f4⟩ := E2.ex
    have keep : ∀ x o, x ≠ p → w2.H x = some o → upd w2.H p (.dK kvs) x = some o := fun x o hx h => by rw [upd_ne hx]; exact h
    have neG : ∀ {x o}, w2.G x = some o → x ≠ p := fun {x o} h e => by rw [e, nG2] at h; cases h
    have neS : ∀ {x}, w2.S x → x ≠ p := fun {x} h e => by rw [e] at h; exact nS2 h
    have E3 : Ev X.K X.mg T ⟨w2.G, upd w2.H p (.dK kvs), w2.S⟩ σ ρ2 := by
      refine ⟨fun x o h => keep x o (neG h) (E2.sub _ _ h), E2.nt, fun x h => ?_, fun pp hpp => ?_, E2.len, E2.fr, F, f1, fun i o e => ?_, f3, f4⟩
      · obtain ⟨o, ho, hn⟩ := E2.sn x h
        exact ⟨o, keep x o (neS h) ho, hn⟩
      · obtain ⟨qs, t1, t2, t3⟩ := E2.tab pp hpp
        refine ⟨qs, keep _ _ (fun e => by rw [e, hp2] at t1; cases t1) t1, t2, fun po cv hc => ?_⟩
        obtain ⟨cc, e1, e2⟩ := t3 po cv hc
        exact ⟨cc, e1, keep _ _ (fun e => by rw [e, hp2] at e2; cases e2) e2⟩
      · obtain ⟨b, hv, rb⟩ := f2 i o e
        exact ⟨b, hv, rb.mono (Sub.refl _) (fun x hx => (rb.free.2 x hx).1) fun x v hx h => keep x v (neS ((f1 x).mpr ⟨i, hx⟩)) h⟩
    refine q p (fun x => x = p) ⟨w2.G, upd w2.H p (.dK kvs), w2.S⟩ ⟨(x0.trans x2).g, fun x o h hS hn => ?_, fun x o h => ?_, (x0.trans x2).ng, (x0.trans x2).ns⟩ E3 ⟨fun x => Iff.rfl, nG2, kvs, upd_same, hk, r2⟩ (fun x hx => by subst hx; exact nS2) fun x hx => by subst hx; exact hp
    · exact keep x o (fun e => by rw [e, hp] at h; cases h) ((x0.trans x2).h x o h hS hn)
    · obtain ⟨o', h'⟩ := (x0.trans x2).dom x o h
      by_cases hx : x = p
      · exact ⟨_, by show upd w2.H p _ x = _; rw [hx, upd_same]⟩
      · exact ⟨o', keep x o' hx h'⟩
end
end VS

set_option Elab.async false
set_option linter.all false
set_option maxRecDepth 100000
set_option maxHeartbeats 1000000
namespace VS
open PySem PySem.Spec PyProof.Rows L2

/-! ### iterables -/
section
variable {X : Cx} {T : List (Addr × Str)} {I : Nat → Bool} {W : WX} {e e2 a b c o tg : Expr} {es : List Expr} {ma mb mk mv : M PV} {ml : M (List PV)} {pos pos' p : Pos}
theorem _root_.L2.PI.orV {t u : TI} (h : PI X tg e t) (k : PI X tg e u) : PI X tg e (fun σ H R => t σ H R ∨ u σ H R) := ⟨fun pins s σ H R I q => q.elim (h.run pins s σ H R I) (k.run pins s σ H R I)⟩
def mSeqI (m : M PV) : M (List PV) := m.bind fun p => .lift (seqP p)
theorem itok_list {K : Frag} {mg : Str → Option Value} {G : Hp} {a : Addr} {vs : List V} {ps : List PV} (h : SqL K G a vs) (r : Reps K mg G ps vs) : ItOk K mg G (Itl K a) ps where
  go := fun i p G1 H1 s f hp => by
    obtain ⟨v, hv, rv⟩ := r.get hp
    refine ⟨⟨vs, v, f.sub.sqL (s.sqL h), hv⟩, fun x H' y => ?_⟩
    obtain ⟨rfl, y⟩ := y
    have := y vs (f.sub.sqL (s.sqL h))
    rw [hv] at this; cases this
    exact ⟨G1, .refl f.sub f.nt, rv.mono s⟩
  stop := fun i G1 H1 s f hl => ⟨vs, f.sub.sqL (s.sqL h), by rw [← r.length]; exact hl⟩
theorem itok_tup {K : Frag} {mg : Str → Option Value} {G : Hp} {a : Addr} {vs : List V} {ps : List PV} (h : SqT K G a vs) (r : Reps K mg G ps vs) : ItOk K mg G (Itt K a) ps where
  go := fun i p G1 H1 s f hp => by
    obtain ⟨v, hv, rv⟩ := r.get hp
    refine ⟨⟨vs, v, f.sub.sqT (s.sqT h), hv⟩, fun x H' y => ?_⟩
    obtain ⟨rfl, y⟩ := y
    have := y vs (f.sub.sqT (s.sqT h))
    rw [hv] at this; cases this
    exact ⟨G1, .refl f.sub f.nt, rv.mono s⟩
  stop := fun i G1 H1 s f hl => ⟨vs, f.sub.sqT (s.sqT h), by rw [← r.length]; exact hl⟩
theorem vi_seq (he : VE X T W e ma) : VI X T W tg e (mSeqI ma) := ⟨((pi_list he.pe).orV (pi_tup he.pe)).imV fun σ H R q => by
  -- which it is hangs on the value: both readings evaluate the same
  obtain ⟨ρ, w, rfl, E, q⟩ := q
  unfold mSeqI M.bind at q
  cases em : ma ρ with
  | bad => rw [em] at q; exact q.elim
  | err x ρ' => rw [em] at q; exact .inl ⟨ρ, w, rfl, E, by rw [em]; exact q⟩
  | ok pp ρ' =>
    rw [em] at q
    dsimp only at q
    cases pp with
    | tup ps =>
      refine .inr ⟨ρ, w, rfl, E, ?_⟩
      rw [em]
      rintro v w1 x1 E1 ⟨u, vs, rfl, h1, r⟩
      exact ⟨u, rfl, ⟨vs, E1.sub.sqT h1⟩, q _ w1 x1 E1 (itok_tup h1 r)⟩
    | lst ps =>
      refine .inl ⟨ρ, w, rfl, E, ?_⟩
      rw [em]
      rintro v w1 x1 E1 ⟨u, vs, rfl, h1, r⟩
      exact ⟨u, rfl, ⟨vs, .of (E1.sub _ _ h1)⟩, q _ w1 x1 E1 (itok_list (.of h1) r)⟩
    | sq ps =>
      refine .inl ⟨ρ, w, rfl, E, ?_⟩
      rw [em]
      rintro v w1 x1 E1 ⟨u, vs, rfl, h1, r⟩
      exact ⟨u, rfl, ⟨vs, E1.sub.sqL h1⟩, q _ w1 x1 E1 (itok_list h1 r)⟩
    | _ => exact q.elim⟩
def rngP (lo hi : Int) : List PV := (List.range (hi - lo).toNat).map fun (k : Nat) => PV.int (lo + (k : Int))
theorem rngP_get {lo hi : Int} {i : Nat} {p : PV} (h : (rngP lo hi)[i]? = some p) : i < (hi - lo).toNat ∧ p = .int (lo + (i : Int)) := by
  unfold rngP at h
  rw [List.getElem?_map] at h
  by_cases hi' : i < (hi - lo).toNat
  · rw [List.getElem?_range hi'] at h
    exact ⟨hi', (Option.some.inj h).symm⟩
  · rw [List.getElem?_eq_none (by simpa using hi')] at h; cases h
theorem itok_rng {K : Frag} {mg : Str → Option Value} {G : Hp} {lo hi : Int} : ItOk K mg G (Itr lo (hi - lo).toNat) (rngP lo hi) where
  go := fun i p G1 H1 s f hp => by
    obtain ⟨h1, rfl⟩ := rngP_get hp
    refine ⟨h1, fun x H' y => ?_⟩
    obtain ⟨rfl, rfl⟩ := y
    exact ⟨G1, .refl f.sub f.nt, rfl⟩
  stop := fun i G1 H1 s f hl => by
    have : (rngP lo hi).length = (hi - lo).toNat := by simp [rngP]
    rw [this] at hl; exact hl
def okI : Int → Bool
  | .ofNat n => Nat.ble n 4611686018427387903
  | .negSucc n => Nat.ble n 4611686018427387903
theorem okI_of {j : Int} (h : okI j = true) : -(2 ^ 62) ≤ j ∧ j < 2 ^ 62 := by
  cases j with
  | ofNat n =>
    have := Nat.le_of_ble_eq_true h
    rw [Int.ofNat_eq_natCast]
    constructor <;> omega
  | negSucc n =>
    have := Nat.le_of_ble_eq_true h
    rw [Int.negSucc_eq]
    constructor <;> omega
def pRange1 : PV → Option (List PV)
  | .int j => if okI j then some (rngP 0 j) else none
  | _ => none
def pRange2 : PV → PV → Option (List PV)
  | .int i, .int j => if okI i && okI j then some (rngP i j) else none
  | _, _ => none
def mRange1 (m : M PV) : M (List PV) := m.bind fun p => .lift (pRange1 p)
def mRange2 (m n : M PV) : M (List PV) := m.bind fun p => n.bind fun q => .lift (pRange2 p q)
theorem vi_range1 (hg : Gl X "range") (hm : X.mg "range" = none) (ha : VE X T W a ma) (hs : starEach [a] X.env = [(false, eval a X.env)] := by rfl) (hs' : starEach [a] X.env = (false, eval a X.env) :: starEach [] X.env := by rfl) : VI X T W tg (.Call (.Name "range" p) [a] [] pos) (mRange1 ma) := ⟨(pi_range1 hg hm (pa_cons ha.pe pa_nil hs') hs).imV fun σ H R q => by
  refine tG_step q fun ps ρ1 v w1 E1 r1 q1 => ?_
  obtain ⟨z, e, q2⟩ := tK_lift q1
  unfold pRange1 at e
  split at e
  · split at e
    · rename_i j hj
      cases e
      obtain rfl : v = _ := r1
      obtain ⟨h1, h2⟩ := okI_of hj
      have := q2 (Itr 0 (j - 0).toNat) w1 (Ext.refl _) E1 itok_rng
      rw [Int.sub_zero] at this
      exact ⟨j, rfl, h1, h2, this⟩
    · cases e
  · cases e⟩
theorem vi_range2 (hg : Gl X "range") (hm : X.mg "range" = none) (ha : VE X T W a ma) (hb : VE X T W b mb) (hs : starEach [a, b] X.env = [(false, eval a X.env), (false, eval b X.env)] := by rfl) (hs2 : starEach [b] X.env = [(false, eval b X.env)] := by rfl)
    (hs' : starEach [a, b] X.env = (false, eval a X.env) :: starEach [b] X.env := by rfl) (hs3 : starEach [b] X.env = (false, eval b X.env) :: starEach [] X.env := by rfl) : VI X T W tg (.Call (.Name "range" p) [a, b] [] pos) (mRange2 ma mb) := ⟨(pi_range2 hg hm (pa_cons ha.pe (pa_cons hb.pe pa_nil hs3) hs') hs hs2).imV fun σ H R q => by
  refine tG_step q fun pa ρ1 v w1 E1 r1 q1 => ?_
  refine tK_step E1 q1 fun pb ρ2 u w2 x2 E2 r2 q2 => ?_
  obtain ⟨z, e, q3⟩ := tK_lift q2
  unfold pRange2 at e
  split at e
  · split at e
    · rename_i i j hj
      cases e
      obtain rfl : v = _ := r1
      obtain rfl : u = _ := r2
      rw [Bool.and_eq_true] at hj
      obtain ⟨h1, h2⟩ := okI_of hj.1
      obtain ⟨h3, h4⟩ := okI_of hj.2
      exact ⟨i, j, rfl, ⟨h1, h2, h3, h4⟩, q3 (Itr i (j - i).toNat) w2 (Ext.refl _) E2 itok_rng⟩
    · cases e
  · cases e⟩
/-- enumerate(list), zip(list, list) -/
def enumP (ps : List PV) : List PV := ps.zipIdx.map fun q => .tup [.int (q.2 : Int), q.1]
def zipP (ps qs : List PV) : List PV := (ps.zip qs).map fun q => .tup [q.1, q.2]
def lstP : PV → Option (List PV)
  | .lst ps => some ps
  | _ => none
def mEnum (m : M PV) : M (List PV) := m.bind fun p => .lift ((lstP p).map enumP)
def mZip (m n : M PV) : M (List PV) := m.bind fun p => n.bind fun q => .lift ((lstP p).bind fun ps => (lstP q).map fun qs => zipP ps qs)
theorem pure_pair {K : Frag} {mg : Str → Option Value} {G H : Hp} (f : Fz G H) {p q : PV} {x y : V} (rx : Rep K mg G p x) (ry : Rep K mg G q y) {t : Addr} (ht : H t = none) : ∃ G', Pure G H G' (upd H t (.tup [x, y])) ∧ Rep K mg G' (.tup [p, q]) (.ref t) := by
  have P := Pure.new f.sub f.nt ht (NT.tup (xs := [x, y]))
  exact ⟨_, P, t, [x, y], rfl, .of upd_same, .cons (rx.mono P.g) (.one (ry.mono P.g))⟩
theorem vi_enum {elts : List Expr} {kk : Nat} {tpos : Pos} (hg : Gl X "enumerate") (hm : X.mg "enumerate" = none) (ha : VE X T W a ma) (hs : starEach [a] X.env = [(false, eval a X.env)] := by rfl) (hs' : starEach [a] X.env = (false, eval a X.env) :: starEach [] X.env := by rfl) :
    VI X T W (.Tuple elts kk tpos) (.Call (.Name "enumerate" p) [a] [] pos) (mEnum ma) := ⟨(pi_enum hg hm (pa_cons ha.pe pa_nil hs') hs).imV fun σ H R q => by
  refine tG_step q fun pp ρ1 v w1 E1 r1 q1 => ?_
  obtain ⟨z, e, q2⟩ := tK_lift q1
  cases pp <;> first | (cases e; done) | skip
  rename_i ps
  cases e
  obtain ⟨u, vs, rfl, hu, rs⟩ := r1
  refine ⟨u, vs, rfl, .of (E1.sub _ _ hu), q2 _ w1 (Ext.refl _) E1 ⟨fun i p G1 H1 s f hp => ?_, fun i G1 H1 s f hl => ?_⟩⟩
  · unfold enumP at hp
    rw [List.getElem?_map, List.getElem?_zipIdx] at hp
    cases e : ps[i]? with
    | none => rw [e] at hp; cases hp
    | some p0 =>
      rw [e] at hp
      have hp : PV.tup [.int ((0 + i : Nat) : Int), p0] = p := Option.some.inj hp
      subst hp
      obtain ⟨v, hv, rv⟩ := rs.get e
      have hS : SqL X.K H1 u vs := .of (f.sub _ _ (s _ _ hu))
      refine ⟨⟨vs, v, hS, hv⟩, fun x H' y => ?_⟩
      obtain ⟨t, x', rfl, ht, rfl, hx⟩ := y
      have := hx vs hS
      rw [hv] at this; cases this
      rw [Nat.zero_add]
      exact pure_pair f (show Rep X.K X.mg G1 (.int (i : Int)) (.int (i : Int)) from rfl) (rv.mono s) ht
  · refine ⟨vs, .of (f.sub _ _ (s _ _ hu)), ?_⟩
    rw [← rs.length]
    simpa [enumP] using hl⟩
theorem vi_zip {elts : List Expr} {kk : Nat} {tpos : Pos} (hg : Gl X "zip") (hm : X.mg "zip" = none) (ha : VE X T W a ma) (hb : VE X T W b mb) (hs : starEach [a, b] X.env = (false, eval a X.env) :: starEach [b] X.env := by rfl) (hpl : (backTo pos (starEach [b] X.env)).any (·.1) = false := by rfl) (hs3 : starEach [b] X.env = (false, eval b X.env) :: starEach [] X.env := by rfl) :
    VI X T W (.Tuple elts kk tpos) (.Call (.Name "zip" p) [a, b] [] pos) (mZip ma mb) := ⟨(pi_zip hg hm (pa_cons ha.pe (pa_cons hb.pe pa_nil hs3) hs) hs hpl).imV fun σ H R q => by
  refine tG_step q fun pp ρ1 v w1 E1 r1 q1 => ?_
  refine tK_step E1 q1 fun pq ρ2 v2 w2 x2 E2 r2 q2 => ?_
  obtain ⟨z, e, q3⟩ := tK_lift q2
  cases pp <;> first | (cases e; done) | skip
  rename_i ps
  cases pq <;> first | (cases e; done) | skip
  rename_i qs
  cases e
  obtain ⟨u, vs, rfl, hu, rs⟩ := r1
  obtain ⟨u2, vs2, rfl, hu2, rs2⟩ := r2
  refine ⟨u, u2, vs, vs2, rfl, .of (E2.sub _ _ (x2.g _ _ hu)), .of (E2.sub _ _ hu2), q3 _ w2 (Ext.refl _) E2 ⟨fun i p G1 H1 s f hp => ?_, fun i G1 H1 s f hl => ?_⟩⟩
  · unfold zipP at hp
    rw [List.getElem?_map] at hp
    cases e : (ps.zip qs)[i]? with
    | none => rw [e] at hp; cases hp
    | some pq =>
      rw [e] at hp
      have hp : PV.tup [pq.1, pq.2] = p := Option.some.inj hp
      subst hp
      obtain ⟨h1, h2⟩ := List.getElem?_zip_eq_some.mp e
      obtain ⟨v, hv, rv⟩ := rs.get h1
      obtain ⟨v2, hv2, rv2⟩ := rs2.get h2
      have hS : SqL X.K H1 u vs := .of (f.sub _ _ (s _ _ (x2.g _ _ hu)))
      have hS2 : SqL X.K H1 u2 vs2 := .of (f.sub _ _ (s _ _ hu2))
      refine ⟨⟨vs, vs2, v, v2, hS, hS2, hv, hv2⟩, fun x H' y => ?_⟩
      obtain ⟨t, x', y', rfl, ht, rfl, hx, hy⟩ := y
      have := hx vs hS
      rw [hv] at this; cases this
      have := hy vs2 hS2
      rw [hv2] at this; cases this
      exact pure_pair f (rv.mono (x2.g.trans s)) (rv2.mono s) ht
  · refine ⟨vs, vs2, .of (f.sub _ _ (s _ _ (x2.g _ _ hu))), .of (f.sub _ _ (s _ _ hu2)), ?_⟩
    rw [← rs.length, ← rs2.length]
    have hl' : min ps.length qs.length ≤ i := by simpa [zipP] using hl
    omega⟩
/-- a text's signs -/
def chrP (x : Str) : List PV := x.cps.toList.map fun c => .str ⟨#[c]⟩
def strP : PV → Option (List PV)
  | .str x => some (chrP x)
  | _ => none
def mStrI (m : M PV) : M (List PV) := m.bind fun p => .lift (strP p)
theorem vi_str (ha : VE X T W a ma) : VI X T W tg a (mStrI ma) := ⟨(pi_str ha.pe).imV fun σ H R q => by
  refine tG_step q fun pp ρ1 v w1 E1 r1 q1 => ?_
  obtain ⟨z, e, q2⟩ := tK_lift q1
  cases pp <;> first | (cases e; done) | skip
  rename_i x
  cases e
  refine ⟨x, r1, q2 _ w1 (Ext.refl _) E1 ⟨fun i p G1 H1 s f hp => ?_, fun i G1 H1 s f hl => ?_⟩⟩
  · unfold chrP at hp
    rw [List.getElem?_map, Array.getElem?_toList] at hp
    cases e : x.cps[i]? with
    | none => rw [e] at hp; cases hp
    | some c =>
      rw [e] at hp
      have hp : PV.str ⟨#[c]⟩ = p := Option.some.inj hp
      subst hp
      refine ⟨(Array.getElem?_eq_some_iff.mp e).1, fun y H' h => ?_⟩
      obtain ⟨rfl, c', hc, rfl⟩ := h
      rw [e] at hc; cases hc
      exact ⟨G1, .refl f.sub f.nt, rfl⟩
  · have : (chrP x).length = x.cps.size := by simp [chrP]
    rw [this] at hl; exact hl⟩
end

/-! ### comprehensions -/
def wipeP (vs : List Nat) : Nat → PEnv → PEnv
  | _, [] => []
  | j, s :: r => (if vs.contains j then .no else s) :: wipeP vs (j + 1) r
def frOnly : Sl → Sl
  | .fr p => .fr p
  | _ => .no
def restP (vs : List Nat) : Nat → PEnv → PEnv → PEnv
  | j, a :: as, s :: r => (if vs.contains j then frOnly a else s) :: restP vs (j + 1) as r
  | _, _, _ => []
theorem wipeP_length (vs : List Nat) : ∀ (j : Nat) (ρ : PEnv), (wipeP vs j ρ).length = ρ.length
  | _, [] => rfl
  | j, s :: r => by simp [wipeP, wipeP_length vs (j + 1) r]
theorem wipeP_get (vs : List Nat) : ∀ (j i : Nat) (ρ : PEnv) (s : Sl), (wipeP vs j ρ)[i]? = some s → s = .no ∨ (ρ[i]? = some s ∧ j + i ∉ vs)
  | _, i, [], s, h => by simp [wipeP] at h
  | j, 0, a :: r, s, h => by
    simp only [wipeP, List.getElem?_cons_zero, Option.some.injEq] at h
    split at h
    · exact .inl h.symm
    · rename_i hc; subst h; exact .inr ⟨rfl, by simpa using hc⟩
  | j, i + 1, a :: r, s, h => by
    simp only [wipeP, List.getElem?_cons_succ] at h
    have := wipeP_get vs (j + 1) i r s h
    rw [Nat.add_assoc, Nat.add_comm 1 i] at this
    simpa using this
theorem restP_length (vs : List Nat) : ∀ (j : Nat) (a ρ : PEnv), a.length = ρ.length → (restP vs j a ρ).length = ρ.length
  | _, [], [], _ => rfl
  | j, a :: as, s :: r, h => by simp [restP, restP_length vs (j + 1) as r (by simpa using h)]
theorem restP_get (vs : List Nat) : ∀ (j i : Nat) (a ρ : PEnv) (s : Sl), (restP vs j a ρ)[i]? = some s → s = .no ∨ (ρ[i]? = some s ∧ j + i ∉ vs) ∨ ∃ p, s = .fr p ∧ a[i]? = some (.fr p)
  | _, i, [], _, s, h => by simp [restP] at h
  | _, i, _ :: _, [], s, h => by simp [restP] at h
  | j, 0, a :: as, u :: r, s, h => by
    simp only [restP, List.getElem?_cons_zero, Option.some.injEq] at h
    split at h
    · cases a with
      | fr p => exact .inr (.inr ⟨p, h.symm, rfl⟩)
      | no => exact .inl h.symm
      | ow o => exact .inl h.symm
    · rename_i hc; subst h; exact .inr (.inl ⟨rfl, by simpa using hc⟩)
  | j, i + 1, a :: as, u :: r, s, h => by
    simp only [restP, List.getElem?_cons_succ] at h
    have := restP_get vs (j + 1) i as r s h
    rw [Nat.add_assoc, Nat.add_comm 1 i] at this
    simpa using this
section
variable {K : Frag} {mg : Str → Option Value} {T : List (Addr × Str)} {w : Wo} {σ σ' : St} {ρ ρ' : PEnv}
theorem Ev.rest (E : Ev K mg T w σ ρ) (hl : σ'.length = ρ'.length) (h : ∀ (i : Nat) s, ρ'[i]? = some s → s = .no ∨ (ρ[i]? = some s ∧ σ'[i]? = σ[i]?) ∨ ∃ p v, s = .fr p ∧ σ'[i]? = some (some v) ∧ Rep K mg w.G p v) : ∃ S', Ev K mg T ⟨w.G, w.H, S'⟩ σ' ρ' ∧ ∀ x, S' x → w.S x := by
  obtain ⟨F, f1, f2, f3, f4⟩ := E.ex
  have inS : ∀ x, (∃ i : Nat, (∃ o, ρ'[i]? = some (.ow o)) ∧ F i x) → w.S x := fun x ⟨i, _, h⟩ => (f1 x).mpr ⟨i, h⟩
  refine ⟨fun x => ∃ i : Nat, (∃ o, ρ'[i]? = some (.ow o)) ∧ F i x, ⟨E.sub, E.nt, fun a h => E.sn a (inS a h), E.tab, hl, fun i p e => ?_, fun i x => (∃ o, ρ'[i]? = some (.ow o)) ∧ F i x, fun x => Iff.rfl, fun i o e => ?_, fun i j x h1 h2 => f3 i j x h1.2 h2.2, fun i x h => h.1⟩, inS⟩
  · rcases h i _ e with z | ⟨z, e2⟩ | ⟨p', v, z, hv, r⟩
    · cases z
    · obtain ⟨v, hv, r⟩ := E.fr i p z
      exact ⟨v, e2.trans hv, r⟩
    · cases z
      exact ⟨v, hv, r⟩
  · rcases h i _ e with z | ⟨z, e2⟩ | ⟨p', v, z, hv, r⟩
    · cases z
    · obtain ⟨a, hv, r⟩ := f2 i o z
      refine ⟨a, e2.trans hv, ?_⟩
      have : (fun x => (∃ o, ρ'[i]? = some (.ow o)) ∧ F i x) = F i := funext fun x => propext ⟨fun h => h.2, fun h => ⟨⟨o, e⟩, h⟩⟩
      exact Eq.mpr (congrArg (Own K mg w.G w.H o a) this) r
    · cases z
theorem wipe_out' {σ : St} {i : Nat} {vs : List Nat} (h : i ∉ vs) : (wipe σ vs)[i]? = σ[i]? := wipe_out h
theorem Ev.wipe (E : Ev K mg T w σ ρ) (vs : List Nat) : ∃ S', Ev K mg T ⟨w.G, w.H, S'⟩ (L2.wipe σ vs) (wipeP vs 0 ρ) ∧ ∀ x, S' x → w.S x :=
  E.rest (by rw [L2.wipe_length, wipeP_length]; exact E.len) fun i s h => (wipeP_get vs 0 i ρ s h).imp id fun ⟨z, n⟩ => .inl ⟨z, wipe_out (by rw [Nat.zero_add] at n; exact n)⟩
theorem Ext.less {w w1 : Wo} (x : Ext w w1) {S' : Addr → Prop} (h : ∀ x, S' x → w1.S x) : Ext w ⟨w1.G, w1.H, S'⟩ := ⟨x.g, x.h, x.dom, x.ng, fun a ha => x.ns a (h a ha)⟩
/-- a list of ours that no slot has -/
theorem Ev.updFree (E : Ev K mg T w σ ρ) {D : Addr} {u u' : HO} (hD : w.H D = some u) (hu : ∀ φ, u ≠ .ext φ) (hu2 : NT u) (hG : w.G D = none) (hS : ¬ w.S D) : Ev K mg T ⟨w.G, upd w.H D u', w.S⟩ σ ρ := by
  obtain ⟨F, f1, f2, f3, f4⟩ := E.ex
  have keep : ∀ x o, x ≠ D → w.H x = some o → upd w.H D u' x = some o := fun x o hx h => by rw [upd_ne hx]; exact h
  have neG : ∀ {x o}, w.G x = some o → x ≠ D := fun {x o} h e => by rw [e, hG] at h; cases h
  have neS : ∀ {x}, w.S x → x ≠ D := fun {x} h e => by rw [e] at h; exact hS h
  refine ⟨fun x o h => keep x o (neG h) (E.sub _ _ h), E.nt, fun x h => ?_, fun pp hpp => ?_, E.len, E.fr, F, f1, fun i o e => ?_, f3, f4⟩
  · obtain ⟨o, ho, hn⟩ := E.sn x h
    exact ⟨o, keep x o (neS h) ho, hn⟩
  · obtain ⟨qs, t1, t2, t3⟩ := E.tab pp hpp
    refine ⟨qs, keep _ _ (fun e => by rw [e, hD] at t1; cases t1; exact hu2 _ rfl) t1, t2, fun po cv hc => ?_⟩
    obtain ⟨cc, e1, e2⟩ := t3 po cv hc
    exact ⟨cc, e1, keep _ _ (fun e => by rw [e, hD] at e2; cases e2; exact hu _ rfl) e2⟩
  · obtain ⟨b, hv, rb⟩ := f2 i o e
    exact ⟨b, hv, rb.mono (Sub.refl _) (fun x hx => (rb.free.2 x hx).1) fun x v hx h => keep x v (neS ((f1 x).mpr ⟨i, hx⟩)) h⟩
theorem Ext.updFree {w w1 : Wo} (x : Ext w w1) {D : Addr} {u : HO} (hD : w.H D = none) : Ext w ⟨w1.G, upd w1.H D u, w1.S⟩ := by
  refine ⟨x.g, fun a o h hS hn => ?_, fun a o h => ?_, x.ng, x.ns⟩
  · have : a ≠ D := fun e => by rw [e, hD] at h; cases h
    show upd w1.H D u a = some o
    rw [upd_ne this]; exact x.h a o h hS hn
  · have : a ≠ D := fun e => by rw [e, hD] at h; cases h
    obtain ⟨o', h'⟩ := x.dom a o h
    exact ⟨o', by show upd w1.H D u a = some o'; rw [upd_ne this]; exact h'⟩
end
def compM (vs : List Nat) (g : MG) (c : M Bool) (e : M PV) : List PV → List PV → PEnv → Res (List PV)
  | [], acc, ρ => .ok acc ρ
  | p :: ps, acc, ρ => match g p (wipeP vs 0 ρ) with
    | none => .bad
    | some ρ1 => match c ρ1 with
      | .ok false ρ2 => compM vs g c e ps acc ρ2
      | .ok true ρ2 => (match e ρ2 with
        | .ok y ρ3 => if acc.length < sizeLine then compM vs g c e ps (acc ++ [y]) ρ3 else .bad
        | .err x ρ3 => .err x ρ3
        | .bad => .bad)
      | _ => .bad
def mComp (vs : List Nat) (mi : M (List PV)) (g : MG) (c : M Bool) (e : M PV) : M OV := mi.bind fun ps ρ => match compM vs g c e ps [] ρ with
  | .ok acc ρ' => .ok (.lst acc) (restP vs 0 ρ ρ')
  | .err x ρ' => .err x (restP vs 0 ρ ρ')
  | .bad => .bad
abbrev W0 : WX := fun _ _ _ _ => False
structure VTs (X : Cx) (T : List (Addr × Str)) (W : WX) (ifs : List Expr) (m : M Bool) : Prop where
  pt : PTs X ifs (tG X.K X.mg T RB W m)
theorem vts_nil {X : Cx} {T : List (Addr × Str)} {W : WX} : VTs X T W [] (M.pure true) := ⟨⟨fun pins s σ H Q I q => by
  obtain ⟨ρ, w, rfl, E, q⟩ := q
  exact pts_nil.run pins s σ w.H Q I (q true w (Ext.refl _) E rfl)⟩⟩
theorem vts_one {X : Cx} {T : List (Addr × Str)} {W : WX} {c : Expr} {m : M Bool} (h : VT X T W c m) : VTs X T W [c] m := ⟨pts_one h.pt⟩
theorem wipeP_get' (vs : List Nat) : ∀ (j i : Nat) (ρ : PEnv) (s : Sl), ρ[i]? = some s → j + i ∉ vs → (wipeP vs j ρ)[i]? = some s
  | _, i, [], s, h, _ => by simp at h
  | j, 0, a :: r, s, h, n => by
    simp only [List.getElem?_cons_zero, Option.some.injEq] at h
    subst h
    simp only [wipeP, List.getElem?_cons_zero, Option.some.injEq]
    rw [if_neg (by simpa using n)]
  | j, i + 1, a :: r, s, h, n => by
    simp only [wipeP, List.getElem?_cons_succ]
    exact wipeP_get' vs (j + 1) i r s (by simpa using h) (by rw [Nat.add_assoc, Nat.add_comm 1 i]; exact n)
theorem wipe_eq {vs : List Nat} : ∀ {σ σ2 : St}, σ2.length = σ.length → (∀ i, i ∉ vs → σ2[i]? = σ[i]?) → L2.wipe σ2 vs = L2.wipe σ vs := fun {σ σ2} hl h => by
  apply List.ext_getElem?
  intro i
  by_cases hi : i ∈ vs
  · have key : ∀ (σ : St) (vs : List Nat), i ∈ vs → (L2.wipe σ vs)[i]? = if i < σ.length then some none else none := fun σ vs => by
      induction vs with
      | nil => intro h; cases h
      | cons v vs ih =>
        intro h
        unfold L2.wipe
        by_cases hv : v = i
        · subst hv
          by_cases hl : v < σ.length
          · rw [List.getElem?_set_self (by rw [L2.wipe_length]; exact hl), if_pos hl]
          · rw [List.getElem?_eq_none (by rw [List.length_set, L2.wipe_length]; omega), if_neg hl]
        · rw [List.getElem?_set_ne hv]
          exact ih ((List.mem_cons.mp h).resolve_left fun e => hv e.symm)
    rw [key σ2 vs hi, key σ vs hi, hl]
  · rw [wipe_out hi, wipe_out hi, h i hi]
def offs (own : List (Str × Nat)) : Nat → Bool := fun i => !(own.map (·.2)).contains i
section
variable {X : Cx} {T : List (Addr × Str)} {I : Nat → Bool} {W : WX} {elt tg iter : Expr} {ifs : List Expr} {scope : Scope} {own : List (Str × Nat)} {mi : M (List PV)} {g : MG} {mc : M Bool} {me : M PV} {pos : Pos}
theorem comp_imp {K : Frag} {mg : Str → Option Value} {σ : St} {H : Hp} {Q : VK} (q : tO K mg T W (mComp (own.map (·.2)) mi g mc me) σ H Q) :
    tLc (tG K mg T (RI K mg) W mi) (tGt K mg T (offs own) g) (tG K mg T RB W0 mc) (tG K mg T (RV K mg) (fun cls d _ H => W cls d σ H) me) (own.map (·.2)) σ H Q := by
  obtain ⟨ρ, w, rfl, E, q⟩ := q
  refine ⟨ρ, w, rfl, E, ?_⟩
  unfold mComp M.bind at q
  generalize hvs : own.map (·.2) = vs at q ⊢
  cases em : mi ρ with
  | bad => rw [em] at q; exact q
  | err x ρ' => rw [em] at q; exact q
  | ok ps ρ1 =>
    rw [em] at q
    intro J w1 x1 E1 J1 D hD
    dsimp only at q
    generalize hcm : compM vs g mc me ps [] ρ1 = res at q
    · refine ⟨fun i m H => m + i = ps.length ∧ ∃ ρi accp wi vsacc, wi.H = H ∧ wi.H D = some (.lst vsacc) ∧ wi.G D = none ∧ ¬ wi.S D ∧ Reps K mg wi.G accp vsacc ∧ Ext w1 wi ∧ Ev K mg T wi (L2.wipe σ vs) (wipeP vs 0 ρi) ∧
        compM vs g mc me (ps.drop i) accp ρi = res, ⟨ps.length, by omega, ?_⟩, ?_⟩
      · obtain ⟨S', E2, hS⟩ := E1.wipe vs
        have sh : Sub w1.H (upd w1.H D (.lst [])) := sub_upd hD
        have x2 : Ext w1 ⟨w1.G, w1.H, S'⟩ := (Ext.refl w1).less hS
        obtain ⟨E3, x3⟩ := E2.grow (G' := w1.G) (H' := upd w1.H D (.lst [])) (Sub.refl _) sh (E1.sub.trans sh) E1.nt fun _ _ h => .inl h
        refine ⟨ρ1, [], ⟨w1.G, upd w1.H D (.lst []), S'⟩, [], rfl, upd_same, ?_, fun h => ?_, rfl, x2.trans x3, E3, by simpa using hcm⟩
        · cases e : w1.G D with
          | none => rfl
          | some u => rw [E1.sub _ _ e] at hD; cases hD
        · obtain ⟨u, hu, _⟩ := E1.sn D (hS D h)
          rw [hu] at hD; cases hD
      · rintro i m _ ⟨hm, ρi, accp, wi, vsacc, rfl, hDi, hGi, hSi, racc, xi, Ei, hci⟩
        by_cases hlt : i < ps.length
        · obtain ⟨gi, yi⟩ := J1.go i ps[i] wi.G wi.H xi.g Ei.fz (List.getElem?_eq_getElem hlt)
          refine .inr ⟨gi, fun H' => ∃ ρi accp wi vsacc, wi.H = H' ∧ wi.H D = some (.lst vsacc) ∧ wi.G D = none ∧ ¬ wi.S D ∧ Reps K mg wi.G accp vsacc ∧ Ext w1 wi ∧ Ev K mg T wi (L2.wipe σ vs) (wipeP vs 0 ρi) ∧
            compM vs g mc me (ps.drop (i + 1)) accp ρi = res, fun H' h => ⟨m - 1, by omega, by omega, h⟩, fun x H' y => ?_⟩
          obtain ⟨G', P, rx⟩ := yi x H' y
          obtain ⟨E3, x3⟩ := Ei.pure P
          have hD3 : H' D = some (.lst vsacc) := P.h _ _ hDi
          have hG3 : G' D = none := by
            cases e : G' D with
            | none => rfl
            | some u =>
              rcases P.ng D u e with z | z
              · rw [hGi] at z; cases z
              · rw [hDi] at z; cases z
          rw [List.drop_eq_getElem_cons hlt] at hci
          unfold compM at hci
          cases eg : g ps[i] (wipeP vs 0 ρi) with
          | none => rw [eg] at hci; subst hci; exact q.elim
          | some ρg =>
            rw [eg] at hci
            dsimp only at hci
            refine ⟨ps[i], _, ρg, ⟨G', H', wi.S⟩, rfl, E3, rx, eg, fun σ4 w4 x4 E4 k4 => ?_⟩
            have hw : L2.wipe σ4 vs = L2.wipe σ vs := by
              have h1 : L2.wipe σ4 vs = L2.wipe (L2.wipe σ vs) vs := wipe_eq k4.1 fun j hj => k4.2 j (by unfold offs; rw [hvs]; simpa using hj)
              rw [h1]
              exact wipe_eq (L2.wipe_length σ vs) fun j hj => wipe_out hj
            -- what stays true of D
            have stay : ∀ {wa wb : Wo}, Ext wa wb → wa.H D = some (.lst vsacc) → wa.G D = none → ¬ wa.S D → wb.H D = some (.lst vsacc) ∧ wb.G D = none ∧ ¬ wb.S D := fun {wa wb} xx h1 h2 h3 => by
              refine ⟨xx.h _ _ h1 h3 .lst, ?_, fun z => ?_⟩
              · cases e : wb.G D with
                | none => rfl
                | some u =>
                  rcases xx.ng D u e with z | z | z
                  · rw [h2] at z; cases z
                  · exact (h3 z).elim
                  · rw [h1] at z; cases z
              · rcases xx.ns D z with z | z
                · exact h3 z
                · rw [h1] at z; cases z
            obtain ⟨a1, a2, a3⟩ := stay (wa := ⟨G', H', wi.S⟩) x4 hD3 hG3 hSi
            have x14 : Ext w1 w4 := (xi.trans x3).trans x4
            refine ⟨hw, ρg, w4, rfl, E4, ?_⟩
            cases ec : mc ρg with
            | bad => rw [ec] at hci; subst hci; exact q.elim
            | err z ρ2 => rw [ec] at hci; subst hci; exact q.elim
            | ok b ρ2 =>
              rw [ec] at hci
              rintro b' w5 x5 E5 rfl
              obtain ⟨b1, b2, b3⟩ := stay x5 a1 a2 a3
              have rac5 : Reps K mg w5.G accp vsacc := racc.mono (x3.g.trans (x4.g.trans x5.g))
              cases b' with
              | false =>
                rw [if_neg Bool.false_ne_true]
                obtain ⟨S', E6, hS⟩ := E5.wipe vs
                rw [hw] at E6
                exact ⟨ρ2, accp, ⟨w5.G, w5.H, S'⟩, vsacc, rfl, b1, b2, fun z => b3 (hS _ z), rac5, (x14.trans x5).less hS, E6, hci⟩
              | true =>
                rw [if_pos rfl]
                refine ⟨ρ2, w5, rfl, E5, ?_⟩
                cases ee : me ρ2 with
                | bad => dsimp only at hci; rw [ee] at hci; subst hci; exact q.elim
                | err z ρ3 =>
                  dsimp only at hci
                  rw [ee] at hci
                  subst hci
                  intro cls d w6 x6 E6 r6
                  have hlen : ρ1.length = ρ3.length := by
                    have h1 := E6.len
                    have h2 := congrArg List.length hw
                    rw [L2.wipe_length, L2.wipe_length] at h2
                    have h3 := E1.len
                    rw [← h3, ← h2]; exact h1
                  obtain ⟨S', E2, hS⟩ := E6.rest (σ' := σ) (ρ' := restP vs 0 ρ1 ρ3) (by rw [restP_length vs 0 ρ1 ρ3 hlen, ← hlen]; exact E1.len) fun j s h => by
                    rcases restP_get vs 0 j ρ1 ρ3 s h with z | ⟨z, n⟩ | ⟨p, z, hp⟩
                    · exact .inl z
                    · refine .inr (.inl ⟨z, ?_⟩)
                      rw [Nat.zero_add] at n
                      have h4 : (L2.wipe σ4 vs)[j]? = (L2.wipe σ vs)[j]? := by rw [hw]
                      rw [wipe_out n, wipe_out n] at h4
                      exact h4.symm
                    · obtain ⟨v, hv, r⟩ := E1.fr j p hp
                      exact .inr (.inr ⟨p, v, z, hv, r.mono ((x14.trans x5).trans x6).g⟩)
                  exact q cls d ⟨w6.G, w6.H, S'⟩ ((x1.trans ((x14.trans x5).trans x6)).less hS) E2 r6
                | ok yv ρ3 =>
                  dsimp only at hci
                  rw [ee] at hci
                  dsimp only at hci
                  intro v w6 x6 E6 r6
                  obtain ⟨c1, c2, c3⟩ := stay x6 b1 b2 b3
                  by_cases hz : accp.length < sizeLine
                  · rw [if_pos hz] at hci
                    refine ⟨vsacc, c1, by rw [← racc.length]; exact hz, ρ3, accp ++ [yv], ?_⟩
                    obtain ⟨S', E7, hS⟩ := E6.wipe vs
                    rw [hw] at E7
                    have E8 := E7.updFree (D := D) (u' := .lst (vsacc ++ [v])) c1 (fun φ z => by cases z) .lst c2 (fun z => c3 (hS _ z))
                    exact ⟨⟨w6.G, upd w6.H D (.lst (vsacc ++ [v])), S'⟩, vsacc ++ [v], rfl, upd_same, c2, fun z => c3 (hS _ z), (rac5.mono x6.g).append (.one r6), (((x14.trans x5).trans x6).less hS).updFree hD, E8, hci⟩
                  · rw [if_neg hz] at hci; subst hci; exact q.elim
        · refine .inl ⟨J1.stop i wi.G wi.H xi.g Ei.fz (by omega), ?_⟩
          rw [List.drop_eq_nil_of_le (by omega)] at hci
          unfold compM at hci
          subst hci
          generalize ρi = ρ' at q Ei
          have hlen : ρ1.length = ρ'.length := by
            have := Ei.len
            rw [L2.wipe_length, wipeP_length, E1.len] at this
            exact this
          obtain ⟨S', E2, hS⟩ := Ei.rest (σ' := σ) (ρ' := restP vs 0 ρ1 ρ') (by rw [restP_length vs 0 ρ1 ρ' hlen, ← hlen]; exact E1.len) fun j s h => by
            rcases restP_get vs 0 j ρ1 ρ' s h with z | ⟨z, n⟩ | ⟨p, z, hp⟩
            · exact .inl z
            · refine .inr (.inl ⟨wipeP_get' vs 0 j ρ' s z n, ?_⟩)
              rw [wipe_out (by rw [Nat.zero_add] at n; exact n)]
            · obtain ⟨v, hv, r⟩ := E1.fr j p hp
              exact .inr (.inr ⟨p, v, z, hv, r.mono xi.g⟩)
          refine q D (fun x => x = D) ⟨wi.G, wi.H, S'⟩ ((x1.trans xi).less hS) E2 ⟨fun x => Iff.rfl, hGi, vsacc, hDi, racc⟩ (fun x hx => by subst hx; exact fun z => hSi (hS _ z)) fun x hx => ?_
          subst hx
          exact none_of (x1.dom x) hD
end
end VS

set_option Elab.async false
set_option linter.all false
set_option maxRecDepth 100000
set_option maxHeartbeats 1000000
namespace VS
open PySem PySem.Spec PyProof.Rows L2

/-! ### operators by values -/
def pAdd : PV → PV → Option PV
  | .int i, .int j => some (.int (i + j))
  | .str x, .str y => if x.length + y.length ≤ sizeLine then some (.str (x ++ y)) else none
  | .tup xs, .tup ys => if xs.length + ys.length ≤ sizeLine then some (.tup (xs ++ ys)) else none
  | .lst xs, .lst ys => if xs.length + ys.length ≤ sizeLine then some (.lst (xs ++ ys)) else none
  | _, _ => none
def pSub : PV → PV → Option PV
  | .int i, .int j => some (.int (i - j))
  | _, _ => none
def okMul (i j : Int) : Bool := decide (-(2 ^ 64) < i ∧ i < 2 ^ 64) || decide (-(2 ^ 64) < j ∧ j < 2 ^ 64)
def pMul : PV → PV → Option PV
  | .int i, .int j => if okMul i j then some (.int (i * j)) else none
  | .str x, .int j => if 0 ≤ j ∧ j ≤ 1000 ∧ x.length ≤ 1000 then some (.str (Txt.mul x j)) else none
  | .tup xs, .int j => if 2 ≤ j ∧ j ≤ 1000 ∧ xs.length ≤ 1000 ∧ xs ≠ [] then some (.tup (List.replicate j.toNat xs).flatten) else none
  | .lst xs, .int j => if 0 ≤ j ∧ j ≤ 1000 ∧ xs.length ≤ 1000 then some (.lst (List.replicate j.toNat xs).flatten) else none
  | _, _ => none
def pMod : PV → PV → Option PV
  | .int i, .int j => if 0 < j then some (.int (i % j)) else none
  | _, _ => none
def pDiv : PV → PV → Option PV
  | .int i, .int j => if 0 < j ∧ j < 1073741824 then some (.int (i / j)) else none
  | _, _ => none
def pPow : PV → PV → Option PV
  | .int i, .int j => if 0 ≤ j ∧ j ≤ 1000000 ∧ i.natAbs < 2 ^ 64 then some (.int (i ^ j.toNat)) else none
  | _, _ => none
section
variable {X : Cx} {K : Frag} {mg : Str → Option Value}
theorem Reps.rep {G : Hp} {ps : List PV} {vs : List V} (r : Reps K mg G ps vs) : ∀ n : Nat, Reps K mg G (List.replicate n ps).flatten (List.replicate n vs).flatten
  | 0 => rfl
  | n + 1 => by rw [List.replicate_succ, List.replicate_succ, List.flatten_cons, List.flatten_cons]; exact r.append (r.rep n)
theorem o_add : OpR X (binaryOp .Add) (rP2 X.K X.mg pAdd) := by
  intro pins s σ H x y v u Q I rx ry h
  obtain ⟨G, px, py, pz, f, hx, hy, e, k⟩ := h
  unfold pAdd at e
  split at e
  · cases e
    exact op_add pins s σ H x y v u Q I rx ry ⟨_, _, hx, hy, k.here f rfl⟩
  · split at e
    · rename_i hz
      cases e
      exact op_add_str pins s σ H x y v u Q I rx ry ⟨_, _, hx, hy, hz, k.here f rfl⟩
    · cases e
  · split at e
    · rename_i hz
      cases e
      obtain ⟨a, vs, rfl, ha, ra⟩ := hx
      obtain ⟨b, ws, rfl, hb, rb⟩ := hy
      refine op_catA pins s σ H _ _ v u Q I rx ry ⟨a, b, vs, ws, rfl, rfl, f.sub.sqT ha, f.sub.sqT hb, by rw [← ra.length, ← rb.length]; exact hz, fun e => ?_, fun _ e => ?_, fun _ _ => k.tup f (ra.append rb)⟩
      · subst e
        refine k.here f ⟨b, ws, rfl, hb, ?_⟩
        rw [List.eq_nil_of_length_eq_zero ra.length]; exact rb
      · subst e
        refine k.here f ⟨a, vs, rfl, ha, ?_⟩
        rw [List.eq_nil_of_length_eq_zero rb.length, List.append_nil]; exact ra
    · cases e
  · split at e
    · rename_i hz
      cases e
      obtain ⟨a, vs, rfl, ha, ra⟩ := hx
      obtain ⟨b, ws, rfl, hb, rb⟩ := hy
      exact op_cat pins s σ H _ _ v u Q I rx ry ⟨a, b, vs, ws, rfl, rfl, f.sub _ _ ha, f.sub _ _ hb, by rw [← ra.length, ← rb.length]; exact hz, k.lst f (ra.append rb)⟩
    · cases e
  · cases e
theorem o_sub : OpR X (binaryOp .Sub) (rP2 X.K X.mg pSub) := by
  intro pins s σ H x y v u Q I rx ry h
  obtain ⟨G, px, py, pz, f, hx, hy, e, k⟩ := h
  unfold pSub at e
  split at e
  · cases e
    exact op_sub pins s σ H x y v u Q I rx ry ⟨_, _, hx, hy, k.here f rfl⟩
  · cases e
theorem o_mod : OpR X (binaryOp .Mod) (rP2 X.K X.mg pMod) := by
  intro pins s σ H x y v u Q I rx ry h
  obtain ⟨G, px, py, pz, f, hx, hy, e, k⟩ := h
  unfold pMod at e
  split at e
  · split at e
    · rename_i hz
      cases e
      exact op_mod pins s σ H x y v u Q I rx ry ⟨_, _, hx, hy, hz, k.here f rfl⟩
    · cases e
  · cases e
theorem o_div : OpR X (binaryOp .FloorDiv) (rP2 X.K X.mg pDiv) := by
  intro pins s σ H x y v u Q I rx ry h
  obtain ⟨G, px, py, pz, f, hx, hy, e, k⟩ := h
  unfold pDiv at e
  split at e
  · split at e
    · rename_i hz
      cases e
      exact op_fdiv pins s σ H x y v u Q I rx ry ⟨_, _, hx, hy, hz, k.here f rfl⟩
    · cases e
  · cases e
theorem o_pow : OpR X (binaryOp .Pow) (rP2 X.K X.mg pPow) := by
  intro pins s σ H x y v u Q I rx ry h
  obtain ⟨G, px, py, pz, f, hx, hy, e, k⟩ := h
  unfold pPow at e
  split at e
  · split at e
    · rename_i hz
      cases e
      exact op_pow pins s σ H x y v u Q I rx ry ⟨_, _, hx, hy, hz, k.here f rfl⟩
    · cases e
  · cases e
theorem mulOk {x : Str} {j : Int} (h0 : 0 ≤ j) (h1 : j ≤ 1000) (hx : x.length ≤ 1000) : MulOk x j := by
  refine ⟨?_, fun hj _ => ?_, fun hj _ => ?_⟩
  · rw [Bool.or_eq_false_iff]
    exact ⟨decide_eq_false (by omega), decide_eq_false (by omega)⟩
  · have h2 : (9223372036854775807 : Int) / 1000 ≤ (2 ^ 63 - 1) / j := by
      have : (2 : Int) ^ 63 - 1 = 9223372036854775807 := by decide
      rw [this]
      exact Int.le_ediv_of_mul_le (by omega) (by
        have : (9223372036854775807 : Int) / 1000 = 9223372036854775 := by decide
        rw [this]; omega)
    have h3 : (9223372036854775807 : Int) / 1000 = 9223372036854775 := by decide
    omega
  · unfold Builtin.Str.tooLong
    refine decide_eq_false ?_
    have h4 : x.length * j.toNat ≤ 1000 * 1000 := Nat.mul_le_mul hx (by omega)
    rw [sizeLine_eq]
    omega
theorem o_mul : OpR X (binaryOp .Mult) (rP2 X.K X.mg pMul) := by
  intro pins s σ H x y v u Q I rx ry h
  obtain ⟨G, px, py, pz, f, hx, hy, e, k⟩ := h
  unfold pMul at e
  split at e
  · split at e
    · rename_i hz
      cases e
      refine op_mul pins s σ H x y v u Q I rx ry ⟨_, _, hx, hy, ?_, k.here f rfl⟩
      unfold okMul at hz
      rw [Bool.or_eq_true] at hz
      exact hz.imp of_decide_eq_true of_decide_eq_true
    · cases e
  · split at e
    · rename_i hz
      cases e
      obtain rfl : x = _ := hx
      obtain rfl : y = _ := hy
      obtain ⟨t, rfl⟩ := rx
      obtain ⟨t', rfl⟩ := ry
      exact PySem.SB.mul (mulOk hz.1 hz.2.1 hz.2.2) fun t2 k2 => ⟨.str _, H, I.tok k2, ⟨t2, rfl⟩, k.here f rfl⟩
    · cases e
  · split at e
    · rename_i hz
      cases e
      obtain ⟨a, vs, rfl, ha, ra⟩ := hx
      refine op_repT pins s σ H _ y v u Q I rx ry ⟨a, _, vs, rfl, hy, f.sub.sqT ha, fun z => ?_, hz.1, hz.2.1, by rw [← ra.length]; exact hz.2.2.1, k.tup f (ra.rep _)⟩
      subst z
      exact hz.2.2.2 (List.eq_nil_of_length_eq_zero ra.length)
    · cases e
  · split at e
    · rename_i hz
      cases e
      obtain ⟨a, vs, rfl, ha, ra⟩ := hx
      refine op_rep pins s σ H _ y v u Q I rx ry ⟨a, _, vs, rfl, hy, f.sub _ _ ha, by omega, by omega, ?_, k.lst f (ra.rep _)⟩
      rw [← ra.length, sizeLine_eq]
      have h4 : ‹List PV›.length * ‹Int›.toNat ≤ 1000 * 1000 := Nat.mul_le_mul hz.2.2 (by omega)
      omega
    · cases e
  · cases e
end

/-! ### comparisons -/
def pCmpI (f : Int → Int → Bool) : PV → PV → Option PV
  | .int i, .int j => some (.bl (f i j))
  | _, _ => none
abbrev pLt := pCmpI fun i j => decide (i < j)
abbrev pLe := pCmpI fun i j => decide (i ≤ j)
abbrev pGt := pCmpI fun i j => decide (j < i)
abbrev pGe := pCmpI fun i j => decide (j ≤ i)
def pIs : PV → PV → Option PV
  | p, .non => some (.bl (match p with | .non => true | _ => false))
  | .bl a, .bl b => some (.bl (decide (a = b)))
  | .bl _, _ => none
  | _, .bl _ => some (.bl false)
  | _, _ => none
section
variable {X : Cx} {K : Frag} {mg : Str → Option Value}
theorem o_cmpI {op : CmpOp} {g : Int → Int → Bool} (ho : OpR X (compareOp op) (rI0 fun i j => .bl (g i j))) : OpR X (compareOp op) (rP2 X.K X.mg (pCmpI g)) := by
  intro pins s σ H x y v u Q I rx ry h
  obtain ⟨G, px, py, pz, f, hx, hy, e, k⟩ := h
  unfold pCmpI at e
  split at e
  · cases e
    exact ho pins s σ H x y v u Q I rx ry ⟨_, _, hx, hy, k.here f rfl⟩
  · cases e
theorem o_lt : OpR X (compareOp .Lt) (rP2 X.K X.mg pLt) := o_cmpI op_lt
theorem o_le : OpR X (compareOp .LtE) (rP2 X.K X.mg pLe) := o_cmpI op_le
theorem o_gt : OpR X (compareOp .Gt) (rP2 X.K X.mg pGt) := o_cmpI op_gt
theorem o_ge : OpR X (compareOp .GtE) (rP2 X.K X.mg pGe) := o_cmpI op_ge
end

/-! ### flat values -/
section
variable {K : Frag} {mg : Str → Option Value} {G : Hp}
/-- in a list or a tuple of flat things, in a text -/
def flatP : PV → Bool
  | .non => true
  | .bl _ => true
  | .int _ => true
  | .str _ => true
  | _ => false
def toV : PV → V
  | .bl b => .bl b
  | .int i => .int i
  | .str x => .str x
  | _ => .non
theorem flat_rep {p : PV} {v : V} (h : flatP p = true) (r : Rep K mg G p v) : v = toV p ∧ flatV v = true := by
  cases p <;> first | (cases r; exact ⟨rfl, rfl⟩) | exact absurd h Bool.false_ne_true
end
/-! ### == of data -/
mutual
def toD : PV → Option PyData
  | .non => some .none
  | .bl b => some (.bool b)
  | .int i => some (.int i)
  | .str x => some (.str x)
  | .tup ps => (toDs ps).map .tuple
  | .lst ps => (toDs ps).map .list
  | _ => none
def toDs : List PV → Option (List PyData)
  | [] => some []
  | p :: ps => (toD p).bind fun d => (toDs ps).map (d :: ·)
end
def sameP (p q : PV) : Bool := flatP p && flatP q && scal (toV p) (toV q)
def dEq (p q : PV) : Option PV := (toD p).bind fun d => (toD q).bind fun e => if SeqAt.shaped d && SeqAt.shaped e then some (.bl (PyData.eqv d e)) else none
def dNe (p q : PV) : Option PV := (toD p).bind fun d => (toD q).bind fun e => if SeqAt.shaped d && SeqAt.shaped e then some (.bl (!PyData.eqv d e)) else none
def pEq (p q : PV) : Option PV := if sameP p q then some (.bl (decide (toV p = toV q))) else dEq p q
def pNe (p q : PV) : Option PV := if sameP p q then some (.bl (!decide (toV p = toV q))) else dNe p q
section
variable {X : Cx} {K : Frag} {mg : Str → Option Value} {G H : Hp}
mutual
theorem dp_of (s : Sub G H) : ∀ {p : PV} {d : PyData} {v : V}, toD p = some d → Rep K mg G p v → Dp K H v d
  | .non, d, v, h, r => by cases h; cases r; exact .non
  | .bl b, d, v, h, r => by cases h; cases r; exact .bl b
  | .int b, d, v, h, r => by cases h; cases r; exact .int b
  | .str b, d, v, h, r => by cases h; cases r; exact .str b
  | .tup ps, d, v, h, r => by
    unfold toD at h
    cases e : toDs ps with
    | none => rw [e] at h; cases h
    | some ds =>
      rw [e] at h; cases h
      obtain ⟨a, vs, rfl, ha, ra⟩ := r
      exact .tup (s.sqT ha) (dps_of s e ra)
  | .lst ps, d, v, h, r => by
    unfold toD at h
    cases e : toDs ps with
    | none => rw [e] at h; cases h
    | some ds =>
      rw [e] at h; cases h
      obtain ⟨a, vs, rfl, ha, ra⟩ := r
      exact .lst (.of (s _ _ ha)) (dps_of s e ra)
  | .ty _, d, v, h, r => by cases h
  | .glob _, d, v, h, r => by cases h
  | .sq _, d, v, h, r => by cases h
  | .ins _ _ _, d, v, h, r => by cases h
  | .dic _ _, d, v, h, r => by cases h
  | .exc _ _ _ _ _, d, v, h, r => by cases h
theorem dps_of (s : Sub G H) : ∀ {ps : List PV} {ds : List PyData} {vs : List V}, toDs ps = some ds → Reps K mg G ps vs → DpAll K H vs ds
  | [], ds, vs, h, r => by cases h; cases r; exact .nil
  | p :: ps, ds, vs, h, ⟨v, rr, e, r1, r2⟩ => by
    subst e
    unfold toDs at h
    cases e1 : toD p with
    | none => rw [e1] at h; cases h
    | some d =>
      rw [e1] at h
      cases e2 : toDs ps with
      | none => rw [e2] at h; cases h
      | some ds' =>
        rw [e2] at h; cases h
        exact .cons (dp_of s e1 r1) (dps_of s e2 r2)
end
theorem o_eq (hu : X.A.units + 64 < cLine) : OpR X (compareOp .Eq) (rP2 X.K X.mg pEq) := by
  intro pins s σ H x y v u Q I rx ry h
  obtain ⟨G, px, py, pz, f, hx, hy, e, k⟩ := h
  unfold pEq at e
  split at e
  · rename_i hs
    cases e
    unfold sameP at hs
    rw [Bool.and_eq_true, Bool.and_eq_true] at hs
    obtain ⟨h1, _⟩ := flat_rep hs.1.1 hx
    obtain ⟨h2, _⟩ := flat_rep hs.1.2 hy
    refine op_eq pins s σ H x y v u Q I rx ry ⟨by rw [h1, h2]; exact hs.2, ?_⟩
    rw [h1, h2]
    exact k.here f rfl
  unfold dEq at e
  cases e1 : toD px with
  | none => rw [e1] at e; cases e
  | some d =>
    rw [e1] at e
    cases e2 : toD py with
    | none => rw [e2] at e; cases e
    | some d2 =>
      rw [e2] at e
      dsimp only [Option.bind] at e
      split at e
      · rename_i hs
        cases e
        rw [Bool.and_eq_true] at hs
        exact op_eqD hu pins s σ H x y v u Q I rx ry ⟨d, d2, dp_of f.sub e1 hx, dp_of f.sub e2 hy, hs.1, hs.2, k.here f rfl⟩
      · cases e
theorem o_ne (hu : X.A.units + 64 < cLine) : OpR X (compareOp .NotEq) (rP2 X.K X.mg pNe) := by
  intro pins s σ H x y v u Q I rx ry h
  obtain ⟨G, px, py, pz, f, hx, hy, e, k⟩ := h
  unfold pNe at e
  split at e
  · rename_i hs
    cases e
    unfold sameP at hs
    rw [Bool.and_eq_true, Bool.and_eq_true] at hs
    obtain ⟨h1, _⟩ := flat_rep hs.1.1 hx
    obtain ⟨h2, _⟩ := flat_rep hs.1.2 hy
    refine op_ne pins s σ H x y v u Q I rx ry ⟨by rw [h1, h2]; exact hs.2, ?_⟩
    rw [h1, h2]
    exact k.here f rfl
  unfold dNe at e
  cases e1 : toD px with
  | none => rw [e1] at e; cases e
  | some d =>
    rw [e1] at e
    cases e2 : toD py with
    | none => rw [e2] at e; cases e
    | some d2 =>
      rw [e2] at e
      dsimp only [Option.bind] at e
      split at e
      · rename_i hs
        cases e
        rw [Bool.and_eq_true] at hs
        exact op_neD hu pins s σ H x y v u Q I rx ry ⟨d, d2, dp_of f.sub e1 hx, dp_of f.sub e2 hy, hs.1, hs.2, k.here f rfl⟩
      · cases e
end
end VS

set_option Elab.async false
set_option linter.all false
set_option maxRecDepth 100000
set_option maxHeartbeats 1000000
namespace VS
open PySem PySem.Spec PyProof.Rows L2

/-! ### items and slices -/
def chr1 (c : Nat) : PV := .str ⟨#[c]⟩
def pIx : PV → PV → Option PV
  | .lst ps, .int k => atI ps k
  | .tup ps, .int k => atI ps k
  | .str z, .int k => if z.length ≤ sizeLine then (atI z.cps.toList k).map chr1 else none
  | _, _ => none
def cutP (xs : List PV) (lo hi : Option Int) : List PV := (xs.drop (HT.sIx xs.length 0 lo)).take (HT.sIx xs.length xs.length hi - HT.sIx xs.length 0 lo)
def pSl : PV → Option Int → Option Int → Option PV
  | .lst ps, lo, hi => some (.lst (cutP ps lo hi))
  | .tup ps, lo, hi => some (.tup (cutP ps lo hi))
  | .str z, lo, hi => if z.length ≤ sizeLine then some (.str (cutS z lo hi)) else none
  | _, _, _ => none
def rPSl (K : Frag) (mg : Str → Option Value) (f : PV → Option Int → Option Int → Option PV) : V → Option Int → Option Int → Hp → VK → Prop := fun x lo hi H Q => ∃ G px pz, Fz G H ∧ Rep K mg G px x ∧ f px lo hi = some pz ∧ Done K mg G H pz Q
section
variable {X : Cx} {K : Frag} {mg : Str → Option Value}
theorem o_ix : IxR X (rP2 X.K X.mg pIx) := by
  intro value slice pins s σ H x y v u Q I rx ry h hs
  obtain ⟨G, px, py, pz, f, hx, hy, e, k⟩ := h
  unfold pIx at e
  split at e
  · obtain ⟨a, vs, rfl, ha, ra⟩ := hx
    obtain ⟨z, hz, rz⟩ := ra.atI e
    exact ix_list value slice pins s σ H _ y v u Q I rx ry ⟨a, vs, _, z, rfl, hy, .of (f.sub _ _ ha), hz, k.here f rz⟩ hs
  · obtain ⟨a, vs, rfl, ha, ra⟩ := hx
    obtain ⟨z, hz, rz⟩ := ra.atI e
    exact ix_tup value slice pins s σ H _ y v u Q I rx ry ⟨a, vs, _, z, rfl, hy, f.sub.sqT ha, hz, k.here f rz⟩ hs
  · split at e
    · rename_i z j hz
      cases e2 : atI z.cps.toList j with
      | none => rw [e2] at e; cases e
      | some c =>
        rw [e2] at e
        cases e
        exact ix_str value slice pins s σ H x y v u Q I rx ry ⟨z, j, c, hx, hy, hz, e2, k.here f rfl⟩ hs
    · cases e
  · cases e
theorem Reps.cut {G : Hp} {ps : List PV} {vs : List V} (r : Reps K mg G ps vs) (lo hi : Option Int) : Reps K mg G (cutP ps lo hi) (cutV vs lo hi) := by
  unfold cutP cutV
  rw [r.length]
  exact (r.drop _).take _
theorem o_sl : SlR X (rPSl X.K X.mg pSl) := by
  intro pins s σ H x v vl vu lo hi sl Q I rx hs pl pu h
  obtain ⟨G, px, pz, f, hx, e, k⟩ := h
  unfold pSl at e
  split at e
  · cases e
    obtain ⟨a, vs, rfl, ha, ra⟩ := hx
    exact sl_list pins s σ H _ v vl vu lo hi sl Q I rx hs pl pu ⟨a, vs, rfl, .of (f.sub _ _ ha), k.lst f (ra.cut lo hi)⟩
  · cases e
    obtain ⟨a, vs, rfl, ha, ra⟩ := hx
    refine sl_tupA pins s σ H _ v vl vu lo hi sl Q I rx hs pl pu ⟨a, vs, rfl, f.sub.sqT ha, fun hw => ?_, fun _ => k.tup f (ra.cut lo hi)⟩
    refine k.here f ⟨a, vs, rfl, ha, ?_⟩
    have hh : cutP ‹List PV› lo hi = ‹List PV› := by
      unfold cutP
      rw [ra.length, hw.1, hw.2, List.drop_zero, Nat.sub_zero, ← ra.length, List.take_length]
    rw [hh]; exact ra
  · split at e
    · rename_i z hz
      cases e
      exact sl_str pins s σ H x v vl vu _ _ sl Q I rx hs pl pu ⟨z, hx, hz, k.here f rfl⟩
    · cases e
  · cases e
end
structure VP (X : Cx) (T : List (Addr × Str)) (W : WX) (e : Option Expr) (m : M (Option Int)) : Prop where
  po : PO X e (tG X.K X.mg T (fun _ a b => b = a) W m)
theorem _root_.L2.PO.imV {X : Cx} {e : Option Expr} {t t' : TO} (h : PO X e t) (f : ∀ σ H Q, t' σ H Q → t σ H Q) : PO X e t' := ⟨fun pins s σ H Q I q => h.run pins s σ H Q I (f _ _ _ q)⟩
def mPart (m : M PV) : M (Option Int) := m.bind fun p => .lift (match p with | .int i => some (some i) | _ => none)
def mSl (f : PV → Option Int → Option Int → Option PV) (a : M PV) (lo hi : M (Option Int)) : M PV := a.bind fun x => lo.bind fun l => hi.bind fun u => .lift (f x l u)
section
variable {X : Cx} {T : List (Addr × Str)} {W : WX} {e a b c : Expr} {ma mb mc : M PV} {lo hi : Option Expr} {ml mh : M (Option Int)} {pos p2 : Pos}
theorem vp_none : VP X T W none (M.pure none) := ⟨po_none.imV fun σ H Q q => by
  obtain ⟨ρ, w, rfl, E, q⟩ := q
  exact q none w (Ext.refl _) E rfl⟩
theorem vp_some (h : VE X T W e ma) : VP X T W (some e) (mPart ma) := ⟨(po_some h.pe).imV fun σ H Q q => by
  refine tG_step q fun pa ρ1 x w1 E1 r1 q1 => ?_
  obtain ⟨z, e, q2⟩ := tK_lift q1
  split at e
  · rename_i i
    cases e
    exact ⟨i, r1, q2 _ w1 (Ext.refl _) E1 rfl⟩
  · cases e⟩
theorem ve_slice {f : PV → Option Int → Option Int → Option PV} (hr : SlR X (rPSl X.K X.mg f)) (he : VE X T W e ma) (hl : VP X T W lo ml) (hu : VP X T W hi mh) : VE X T W (.Subscript e (.Slice lo hi none p2) pos) (mSl f ma ml mh) := ⟨(pe_slice hr he.pe hl.po hu.po).imV fun σ H Q q => by
  refine tG_step q fun pa ρ1 x w1 E1 r1 q1 => ?_
  refine tK_step E1 q1 fun l ρ2 l' w2 x2 E2 r2 q2 => ?_
  refine tK_step E2 q2 fun u ρ3 u' w3 x3 E3 r3 q3 => ?_
  obtain ⟨z, e, q4⟩ := tK_lift q3
  subst r2 r3
  exact ⟨w3.G, pa, z, E3.fz, r1.mono (x2.g.trans x3.g), e, E3.done q4⟩⟩
/-- a <= b <= c -/
def mChain (f g : PV → PV → Option PV) (a b c : M PV) : M PV := a.bind fun x => b.bind fun y => (M.lift (f x y)).bind fun t => match t with
  | .bl true => c.bind fun z => .lift (g y z)
  | .bl false => .pure (.bl false)
  | _ => fun _ => .bad
theorem chain_in {f g : PV → PV → Option PV} {σ : St} {H : Hp} {Q : VK} (q : tG X.K X.mg T (RV X.K X.mg) W (mChain f g ma mb mc) σ H Q) : tChain (rP2 X.K X.mg f) (rP2 X.K X.mg g) (tG X.K X.mg T (RV X.K X.mg) W ma) (tG X.K X.mg T (RV X.K X.mg) W mb) (tG X.K X.mg T (RV X.K X.mg) W mc) σ H Q := by
  refine tG_step q fun pa ρ1 x w1 E1 r1 q1 => ?_
  refine tK_step E1 q1 fun pb ρ2 y w2 x2 E2 r2 q2 => ?_
  have q2' : tK X.K X.mg T (RV X.K X.mg) W σ w2 Q (M.bind (M.lift (f pa pb)) (fun t => match t with
      | .bl true => mc.bind fun z => .lift (g pb z)
      | .bl false => .pure (.bl false)
      | _ => fun _ => .bad) ρ2) := q2
  unfold M.bind at q2'
  cases e : f pa pb with
  | none => rw [e] at q2'; exact q2'.elim
  | some t =>
    rw [e] at q2'
    refine ⟨w2.G, pa, pb, t, E2.fz, r1.mono x2.g, r2, e, E2.done fun v w3 x3 E3 r3 => ?_⟩
    dsimp only [M.lift] at q2'
    split at q2'
    · refine ⟨true, r3, ?_⟩
      rw [if_pos rfl]
      refine tK_step E3 (q2'.mono x3) fun pc ρ4 z w4 x4 E4 r4 q4 => ?_
      obtain ⟨zz, e5, q5⟩ := tK_lift q4
      exact ⟨w4.G, pb, pc, zz, E4.fz, r2.mono (x3.g.trans x4.g), r4, e5, E4.done q5⟩
    · refine ⟨false, r3, ?_⟩
      rw [if_neg Bool.false_ne_true]
      exact q2' _ w3 x3 E3 rfl
    · exact q2'.elim
theorem ve_chain {o1 o2 : CmpOp} {f g : PV → PV → Option PV} (h1 : OpR X (compareOp o1) (rP2 X.K X.mg f)) (h2 : OpR X (compareOp o2) (rP2 X.K X.mg g)) (ha : VE X T W a ma) (hb : VE X T W b mb) (hc : VE X T W c mc) (hm : lastMarks [o1, o2] [b, c] = false := by with_unfolding_all rfl) : VE X T W (.Compare a [o1, o2] [b, c] pos) (mChain f g ma mb mc) := ⟨(pe_chain h1 h2 ha.pe hb.pe hc.pe hm).imV fun _ _ _ q => chain_in q⟩
theorem vt_chain {o1 o2 : CmpOp} {f g : PV → PV → Option PV} (h1 : OpR X (compareOp o1) (rP2 X.K X.mg f)) (h2 : OpR X (compareOp o2) (rP2 X.K X.mg g)) (ha : VE X T W a ma) (hb : VE X T W b mb) (hc : VE X T W c mc) (hm : lastMarks [o1, o2] [b, c] = false := by with_unfolding_all rfl) : VT X T W (.Compare a [o1, o2] [b, c] pos) (mTest (mChain f g ma mb mc)) := ⟨(pt_chain h1 h2 ha.pe hb.pe hc.pe hm).imV fun _ _ _ q => chain_in (tst q)⟩
end
end VS

set_option Elab.async false
set_option linter.all false
set_option maxRecDepth 100000
set_option maxHeartbeats 1000000
namespace VS
open PySem PySem.Spec PyProof.Rows L2

/-! ### isinstance -/
def tyNm : PV → Option String
  | .non => some "NoneType"
  | .bl _ => some "bool"
  | .int _ => some "int"
  | .str _ => some "str"
  | .tup _ => some "tuple"
  | .lst _ => some "list"
  | .dic _ _ => some "dict"
  | _ => none
def isB (a b : String) : Option Bool :=
  if b = "int" then some (a == "int" || a == "bool") else if b = "str" ∨ b = "bool" ∨ b = "tuple" ∨ b = "list" ∨ b = "dict" then some (a == b) else none
theorem isB_ok {p : PV} {a b : String} {r : Bool} (h : tyNm p = some a) (e : isB a b = some r) : kitB a b = some r := by
  have go : ∀ {a b : String}, kitB a b = isB a b → isB a b = some r → kitB a b = some r := fun h e => h.trans e
  by_cases h1 : b = "int"
  · subst h1; cases p <;> cases h <;> exact go (by decide +kernel) e
  by_cases h2 : b = "str"
  · subst h2; cases p <;> cases h <;> exact go (by decide +kernel) e
  by_cases h3 : b = "bool"
  · subst h3; cases p <;> cases h <;> exact go (by decide +kernel) e
  by_cases h4 : b = "tuple"
  · subst h4; cases p <;> cases h <;> exact go (by decide +kernel) e
  by_cases h5 : b = "list"
  · subst h5; cases p <;> cases h <;> exact go (by decide +kernel) e
  by_cases h6 : b = "dict"
  · subst h6; cases p <;> cases h <;> exact go (by decide +kernel) e
  unfold isB at e
  rw [if_neg h1, if_neg (by simp [h2, h3, h4, h5, h6])] at e
  cases e
section
variable {X : Cx} {K : Frag} {mg : Str → Option Value} {G H : Hp}
theorem tyx_of (s : Sub G H) {p : PV} {a : String} {v : V} (h : tyNm p = some a) (r : Rep K mg G p v) : TyX K H v (.type a) := by
  cases p with
  | non => cases h; cases r; exact .base .non
  | bl b => cases h; cases r; exact .base (.bl _)
  | int b => cases h; cases r; exact .base (.int _)
  | str b => cases h; cases r; exact .base (.str _)
  | tup ps =>
    cases h
    obtain ⟨a, vs, rfl, ha, ra⟩ := r
    rcases ha with (h | ⟨o, h⟩) | ⟨o, _, _, h, hc, _⟩
    · exact .base (.tup (s _ _ h))
    · exact .fTuple (s _ _ h)
    · exact .kTuple h hc
  | lst ps =>
    cases h
    obtain ⟨a, vs, rfl, ha, ra⟩ := r
    exact .base (.lst (s _ _ ha))
  | dic ks ps =>
    cases h
    obtain ⟨a, kvs, rfl, ha, _⟩ := r
    exact .base (.dK (s _ _ ha))
  | _ => cases h
def pIsi : List PV → Option PV
  | [x, .ty n] => (tyNm x).bind fun a => (isB a n).map .bl
  | _ => none
theorem c_isi : CallR X (.builtin "isinstance") (rPL X.K X.mg pIsi) := by
  intro pins s σ H xs us Q I r h
  obtain ⟨G, ps, pz, f, hx, e, k⟩ := h
  unfold pIsi at e
  split at e
  · rename_i x n
    obtain ⟨v, rr, rfl, r1, v2, rr2, rfl, r2, r3⟩ := hx
    cases r2
    cases r3
    cases e1 : tyNm x with
    | none => rw [e1] at e; cases e
    | some a =>
      rw [e1] at e
      cases e2 : isB a n with
      | none => dsimp only [Option.bind] at e; rw [e2] at e; cases e
      | some b =>
        dsimp only [Option.bind] at e
        rw [e2] at e
        cases e
        exact call_isi pins s σ H _ us Q I r ⟨v, .ty n, _, _, b, rfl, .ty n, tyx_of f.sub e1 r1, kit_ty (isB_ok e1 e2), k.here f rfl⟩
  · cases e

/-! ### is, is not -/
theorem plain_is {H : Hp} {p : PV} {v : V} {u : Value} {b : Bool} (r : Rep K mg G p v) (rv : RelV v u) : plainIs u (.bool b) = true := by
  cases v with
  | non => cases rv; rfl
  | bl b => cases rv; rfl
  | int i => obtain ⟨t, rfl⟩ := rv; rfl
  | str x => obtain ⟨t, rfl⟩ := rv; rfl
  | byt x => obtain ⟨t, rfl⟩ := rv; rfl
  | flt x => obtain ⟨t, rfl⟩ := rv; rfl
  | ty n => cases rv; rfl
  | ref a => cases rv; rfl
theorem ne_bool {p : PV} {v : V} {u : Value} {b : Bool} (hp : ∀ c, p ≠ .bl c) (r : Rep K mg G p v) (rv : RelV v u) : (u == Value.bool b) = false := by
  refine beq_eq_false_iff_ne.mpr fun e => ?_
  subst e
  cases v with
  | non => cases rv
  | bl c =>
    cases p with
    | bl b => exact hp b rfl
    | non => cases r
    | int _ => cases r
    | str _ => cases r
    | ty _ => cases r
    | glob _ => obtain ⟨_, _, e⟩ := r; cases e
    | tup _ => obtain ⟨_, _, e, _⟩ := r; cases e
    | lst _ => obtain ⟨_, _, e, _⟩ := r; cases e
    | sq _ => obtain ⟨_, _, e, _⟩ := r; cases e
    | ins _ _ _ => obtain ⟨_, _, _, _, e, _⟩ := r; cases e
    | dic _ _ => obtain ⟨_, _, e, _⟩ := r; cases e
    | exc _ _ _ _ _ => obtain ⟨e, _⟩ := r; cases e
  | int i => obtain ⟨t, h⟩ := rv; cases h
  | str x => obtain ⟨t, h⟩ := rv; cases h
  | byt x => obtain ⟨t, h⟩ := rv; cases h
  | flt x => obtain ⟨t, h⟩ := rv; cases h
  | ty n => cases rv
  | ref a => cases rv
def isNon : PV → Bool
  | .non => true
  | _ => false
theorem is_non {p : PV} {v : V} (r : Rep K mg G p v) : decide (v = .non) = isNon p := by
  cases p with
  | non => cases r; rfl
  | bl b => cases r; rfl
  | int _ => cases r; rfl
  | str _ => cases r; rfl
  | ty _ => cases r; rfl
  | glob _ => obtain ⟨_, _, e⟩ := r; cases e; rfl
  | tup _ => obtain ⟨_, _, e, _⟩ := r; cases e; rfl
  | lst _ => obtain ⟨_, _, e, _⟩ := r; cases e; rfl
  | sq _ => obtain ⟨_, _, e, _⟩ := r; cases e; rfl
  | ins _ _ _ => obtain ⟨_, _, _, _, e, _⟩ := r; cases e; rfl
  | dic _ _ => obtain ⟨_, _, e, _⟩ := r; cases e; rfl
  | exc _ _ _ _ _ => obtain ⟨e, _⟩ := r; cases e; rfl
def isPV (p q : PV) : Option Bool := match q with
  | .non => some (isNon p)
  | .bl b => some (match p with | .bl a => decide (a = b) | _ => false)
  | _ => none
def pIs2 (p q : PV) : Option PV := (isPV p q).map .bl
def pIsNot (p q : PV) : Option PV := (isPV p q).map fun b => .bl (!b)
theorem o_is : OpR X (compareOp .Is) (rP2 X.K X.mg pIs2) := by
  intro pins s σ H x y v u Q I rx ry h
  obtain ⟨G, px, py, pz, f, hx, hy, e, k⟩ := h
  unfold pIs2 isPV at e
  cases py with
  | non =>
    cases e
    refine op_isN pins s σ H x y v u Q I rx ry ⟨hy, ?_⟩
    rw [is_non hx]
    exact k.here f rfl
  | bl b =>
    cases e
    cases hy
    cases (show u = Value.bool b from ry)
    refine wpAny_is_plain (plain_is (H := H) hx rx) ?_
    cases px with
    | bl a =>
      cases hx
      cases (show v = Value.bool a from rx)
      have hh : (Value.bool a == Value.bool b) = decide (a = b) := by cases a <;> cases b <;> decide
      exact ⟨.bl (decide (a = b)), H, I, by rw [hh]; rfl, k.here f rfl⟩
    | _ =>
      rw [ne_bool (fun c h => by cases h) hx rx]
      exact ⟨.bl false, H, I, rfl, k.here f rfl⟩
  | _ => cases e
theorem o_isNot : OpR X (compareOp .IsNot) (rP2 X.K X.mg pIsNot) := by
  intro pins s σ H x y v u Q I rx ry h
  obtain ⟨G, px, py, pz, f, hx, hy, e, k⟩ := h
  unfold pIsNot isPV at e
  cases py with
  | non =>
    cases e
    refine op_notN pins s σ H x y v u Q I rx ry ⟨hy, ?_⟩
    rw [is_non hx]
    exact k.here f rfl
  | bl b =>
    cases e
    cases hy
    cases (show u = Value.bool b from ry)
    refine wpAny_isNot_plain (plain_is (H := H) hx rx) ?_
    cases px with
    | bl a =>
      cases hx
      cases (show v = Value.bool a from rx)
      have hh : (Value.bool a == Value.bool b) = decide (a = b) := by cases a <;> cases b <;> decide
      exact ⟨.bl (!decide (a = b)), H, I, by rw [hh]; rfl, k.here f rfl⟩
    | _ =>
      rw [ne_bool (fun c h => by cases h) hx rx]
      exact ⟨.bl true, H, I, rfl, k.here f rfl⟩
  | _ => cases e

/-! ### in -/
theorem flat_reps : ∀ {ps : List PV} {vs : List V}, ps.all flatP = true → Reps K mg G ps vs → vs = ps.map toV ∧ vs.all flatV = true
  | [], _, _, r => by cases r; exact ⟨rfl, rfl⟩
  | p :: ps, _, h, ⟨v, rr, e, r1, r2⟩ => by
    rw [List.all_cons, Bool.and_eq_true] at h
    subst e
    obtain ⟨h1, h2⟩ := flat_rep h.1 r1
    obtain ⟨h3, h4⟩ := flat_reps h.2 r2
    subst h1 h3
    exact ⟨rfl, by rw [List.all_cons, h2, h4]; rfl⟩
def inP (p : PV) (ps : List PV) : Bool := ps.any fun q => eqV (toV q) (toV p)
def inPV (p q : PV) : Option Bool := match q with
  | .str y => (match p with | .str x => some (!(Builtin.Str.occurrences y x 0 y.length 1).isEmpty) | _ => none)
  | .lst ps => if flatP p && ps.all flatP then some (inP p ps) else none
  | .tup ps => if flatP p && ps.all flatP then some (inP p ps) else none
  | .sq ps => if flatP p && ps.all flatP then some (inP p ps) else none
  | _ => none
def pIn (p q : PV) : Option PV := (inPV p q).map .bl
def pNotIn (p q : PV) : Option PV := (inPV p q).map fun b => .bl (!b)
theorem inP_eq {p : PV} {ps : List PV} : inV (toV p) (ps.map toV) = inP p ps := by
  unfold inV inP
  rw [List.any_map]; rfl
theorem o_in : OpR X (compareOp .In) (rP2 X.K X.mg pIn) := by
  intro pins s σ H x y v u Q I rx ry h
  obtain ⟨G, px, py, pz, f, hx, hy, e, k⟩ := h
  have seq : ∀ {ps : List PV} {a : Addr} {vs : List V} {z : PV}, (flatP px && ps.all flatP) = true → y = .ref a → (SqL X.K H a vs ∨ SqT X.K H a vs) → Reps X.K X.mg G ps vs → z = PV.bl (inP px ps) → pz = z →
      wpAny (model X.prog X.w) X.A (compareOp .In v u) (EP X pins σ Q) X.xe s := fun {ps a vs z} hf e1 hq rr ez e2 => by
    subst e1 ez e2
    rw [Bool.and_eq_true] at hf
    obtain ⟨h1, h2⟩ := flat_rep hf.1 hx
    obtain ⟨h3, h4⟩ := flat_reps hf.2 rr
    refine op_in_seq pins s σ H x _ v u Q I rx ry ⟨a, vs, rfl, hq, h2, h4, ?_⟩
    rw [if_neg Bool.false_ne_true, h1, h3, inP_eq]
    exact k.here f rfl
  unfold pIn inPV at e
  cases py with
  | str z =>
    cases px with
    | str w => cases e; exact op_in_str pins s σ H x y v u Q I rx ry ⟨w, z, hx, hy, k.here f rfl⟩
    | _ => cases e
  | lst ps =>
    dsimp only at e
    split at e
    · rename_i hf
      cases e
      obtain ⟨a, vs, rfl, ha, ra⟩ := hy
      exact seq hf rfl (.inl (.inl (.of (f.sub _ _ ha)))) ra rfl rfl
    · cases e
  | tup ps =>
    dsimp only at e
    split at e
    · rename_i hf
      cases e
      obtain ⟨a, vs, rfl, ha, ra⟩ := hy
      exact seq hf rfl (.inr (f.sub.sqT ha)) ra rfl rfl
    · cases e
  | sq ps =>
    dsimp only at e
    split at e
    · rename_i hf
      cases e
      obtain ⟨a, vs, rfl, ha, ra⟩ := hy
      exact seq hf rfl (.inl (f.sub.sqL ha)) ra rfl rfl
    · cases e
  | _ => cases e
theorem o_notIn : OpR X (compareOp .NotIn) (rP2 X.K X.mg pNotIn) := by
  intro pins s σ H x y v u Q I rx ry h
  obtain ⟨G, px, py, pz, f, hx, hy, e, k⟩ := h
  have seq : ∀ {ps : List PV} {a : Addr} {vs : List V} {z : PV}, (flatP px && ps.all flatP) = true → y = .ref a → (SqL X.K H a vs ∨ SqT X.K H a vs) → Reps X.K X.mg G ps vs → z = PV.bl (!(inP px ps)) → pz = z →
      wpAny (model X.prog X.w) X.A (compareOp .NotIn v u) (EP X pins σ Q) X.xe s := fun {ps a vs z} hf e1 hq rr ez e2 => by
    subst e1 ez e2
    rw [Bool.and_eq_true] at hf
    obtain ⟨h1, h2⟩ := flat_rep hf.1 hx
    obtain ⟨h3, h4⟩ := flat_reps hf.2 rr
    refine op_notIn_seq pins s σ H x _ v u Q I rx ry ⟨a, vs, rfl, hq, h2, h4, ?_⟩
    rw [if_pos rfl, h1, h3, inP_eq]
    exact k.here f rfl
  unfold pNotIn inPV at e
  cases py with
  | str z =>
    cases px with
    | str w => cases e; exact op_notIn_str pins s σ H x y v u Q I rx ry ⟨w, z, hx, hy, k.here f rfl⟩
    | _ => cases e
  | lst ps =>
    dsimp only at e
    split at e
    · rename_i hf
      cases e
      obtain ⟨a, vs, rfl, ha, ra⟩ := hy
      exact seq hf rfl (.inl (.inl (.of (f.sub _ _ ha)))) ra rfl rfl
    · cases e
  | tup ps =>
    dsimp only at e
    split at e
    · rename_i hf
      cases e
      obtain ⟨a, vs, rfl, ha, ra⟩ := hy
      exact seq hf rfl (.inr (f.sub.sqT ha)) ra rfl rfl
    · cases e
  | sq ps =>
    dsimp only at e
    split at e
    · rename_i hf
      cases e
      obtain ⟨a, vs, rfl, ha, ra⟩ := hy
      exact seq hf rfl (.inl (f.sub.sqL ha)) ra rfl rfl
    · cases e
  | _ => cases e

/-! ### builtins -/
def pLen : List PV → Option PV
  | [.str z] => if z.length ≤ sizeLine then some (.int z.length) else none
  | [.tup ps] => some (.int ps.length)
  | [.lst ps] => some (.int ps.length)
  | [.sq ps] => some (.int ps.length)
  | _ => none
theorem c_len : CallR X (.builtin "len") (rPL X.K X.mg pLen) := by
  intro pins s σ H xs us Q I r h
  obtain ⟨G, ps, pz, f, hx, e, k⟩ := h
  unfold pLen at e
  split at e
  · obtain ⟨v, rr, rfl, r1, r2⟩ := hx
    cases r2
    split at e
    · rename_i hz
      cases e
      cases r1
      exact call_len pins s σ H _ us Q I r ⟨_, _, rfl, ⟨hz, rfl⟩, k.here f rfl⟩
    · cases e
  · obtain ⟨v, rr, rfl, r1, r2⟩ := hx
    cases r2
    cases e
    obtain ⟨a, vs, rfl, ha, ra⟩ := r1
    exact call_len pins s σ H _ us Q I r ⟨_, _, rfl, .inr ⟨vs, f.sub.sqT ha, rfl⟩, k.here f (by rw [ra.length]; rfl)⟩
  · obtain ⟨v, rr, rfl, r1, r2⟩ := hx
    cases r2
    cases e
    obtain ⟨a, vs, rfl, ha, ra⟩ := r1
    exact call_len pins s σ H _ us Q I r ⟨_, _, rfl, .inl ⟨vs, .inl (.of (f.sub _ _ ha)), rfl⟩, k.here f (by rw [ra.length]; rfl)⟩
  · obtain ⟨v, rr, rfl, r1, r2⟩ := hx
    cases r2
    cases e
    obtain ⟨a, vs, rfl, ha, ra⟩ := r1
    exact call_len pins s σ H _ us Q I r ⟨_, _, rfl, .inl ⟨vs, f.sub.sqL ha, rfl⟩, k.here f (by rw [ra.length]; rfl)⟩
  · cases e
def boolsP : List PV → Option (List Bool)
  | [] => some []
  | .bl b :: ps => (boolsP ps).map (b :: ·)
  | _ :: _ => none
theorem boolsP_rep : ∀ {ps : List PV} {bs : List Bool} {vs : List V}, boolsP ps = some bs → Reps K mg G ps vs → vs = bs.map V.bl
  | [], bs, vs, h, r => by cases h; cases r; rfl
  | p :: ps, bs, vs, h, ⟨v, rr, e, r1, r2⟩ => by
    subst e
    cases p with
    | bl b =>
      unfold boolsP at h
      cases e1 : boolsP ps with
      | none => rw [e1] at h; cases h
      | some bs' =>
        rw [e1] at h
        cases h
        cases r1
        rw [boolsP_rep e1 r2]; rfl
    | _ => cases h
def pAll : List PV → Option PV
  | [.lst ps] => (boolsP ps).map fun bs => .bl (bs.all id)
  | _ => none
def pAny : List PV → Option PV
  | [.lst ps] => (boolsP ps).map fun bs => .bl (bs.any id)
  | _ => none
theorem c_all (hc : X.calm = true) : CallR X (.builtin "all") (rPL X.K X.mg pAll) := by
  intro pins s σ H xs us Q I r h
  obtain ⟨G, ps, pz, f, hx, e, k⟩ := h
  unfold pAll at e
  split at e
  · rename_i ps
    obtain ⟨v, rr, rfl, r1, r2⟩ := hx
    cases r2
    obtain ⟨a, vs, rfl, ha, ra⟩ := r1
    cases e1 : boolsP ps with
    | none => rw [e1] at e; cases e
    | some bs =>
      rw [e1] at e
      cases e
      exact cr_all hc pins s σ H _ us Q I r ⟨a, bs, rfl, by rw [← boolsP_rep e1 ra]; exact .inl (.of (f.sub _ _ ha)), k.here f rfl⟩
  · cases e
theorem c_any (hc : X.calm = true) : CallR X (.builtin "any") (rPL X.K X.mg pAny) := by
  intro pins s σ H xs us Q I r h
  obtain ⟨G, ps, pz, f, hx, e, k⟩ := h
  unfold pAny at e
  split at e
  · rename_i ps
    obtain ⟨v, rr, rfl, r1, r2⟩ := hx
    cases r2
    obtain ⟨a, vs, rfl, ha, ra⟩ := r1
    cases e1 : boolsP ps with
    | none => rw [e1] at e; cases e
    | some bs =>
      rw [e1] at e
      cases e
      exact cr_any hc pins s σ H _ us Q I r ⟨a, bs, rfl, by rw [← boolsP_rep e1 ra]; exact .inl (.of (f.sub _ _ ha)), k.here f rfl⟩
  · cases e
def pMax : List PV → Option PV
  | [.int i, .int j] => some (.int (if j > i then j else i))
  | _ => none
def pMin : List PV → Option PV
  | [.int i, .int j] => some (.int (if j < i then j else i))
  | _ => none
theorem c_max2 (hc : X.calm = true) : CallR X (.builtin "max") (rPL X.K X.mg pMax) := by
  intro pins s σ H xs us Q I r h
  obtain ⟨G, ps, pz, f, hx, e, k⟩ := h
  unfold pMax at e
  split at e
  · obtain ⟨v, rr, rfl, r1, v2, rr2, rfl, r2, r3⟩ := hx
    cases r1; cases r2; cases r3; cases e
    exact call_max2 hc pins s σ H _ us Q I r ⟨_, _, rfl, k.here f rfl⟩
  · cases e
theorem c_min2 (hc : X.calm = true) : CallR X (.builtin "min") (rPL X.K X.mg pMin) := by
  intro pins s σ H xs us Q I r h
  obtain ⟨G, ps, pz, f, hx, e, k⟩ := h
  unfold pMin at e
  split at e
  · obtain ⟨v, rr, rfl, r1, v2, rr2, rfl, r2, r3⟩ := hx
    cases r1; cases r2; cases r3; cases e
    exact call_min2 hc pins s σ H _ us Q I r ⟨_, _, rfl, k.here f rfl⟩
  · cases e
def pMax3 : List PV → Option PV
  | [.int i, .int j, .int k] => some (.int (if (if i < j then j else i) < k then k else (if i < j then j else i)))
  | _ => none
theorem c_max3 (hc : X.calm = true) : CallR X (.builtin "max") (rPL X.K X.mg pMax3) := by
  intro pins s σ H xs us Q I r h
  obtain ⟨G, ps, pz, f, hx, e, k⟩ := h
  unfold pMax3 at e
  split at e
  · obtain ⟨v, rr, rfl, r1, v2, rr2, rfl, r2, v3, rr3, rfl, r3, r4⟩ := hx
    cases r1; cases r2; cases r3; cases r4; cases e
    rename_i i j l
    have hh : nuMax3 (.int i) (.int j) (.int l) = some (V.int (if (if i < j then j else i) < l then l else (if i < j then j else i))) := by
      show (some (if decide (i < j) = true then V.int j else V.int i)).bind (fun m => nuMax2 m (.int l)) = _
      by_cases h1 : i < j
      · rw [if_pos h1, if_pos (decide_eq_true h1)]
        show some (if decide (j < l) = true then V.int l else V.int j) = _
        by_cases h2 : j < l
        · rw [if_pos h2, if_pos (decide_eq_true h2)]
        · rw [if_neg h2, decide_eq_false h2, if_neg Bool.false_ne_true]
      · rw [if_neg h1, decide_eq_false h1, if_neg Bool.false_ne_true]
        show some (if decide (i < l) = true then V.int l else V.int i) = _
        by_cases h2 : i < l
        · rw [if_pos h2, if_pos (decide_eq_true h2)]
        · rw [if_neg h2, decide_eq_false h2, if_neg Bool.false_ne_true]
    exact call_max3Nu hc pins s σ H _ us Q I r ⟨_, _, _, _, rfl, hh, k.here f rfl⟩
  · cases e
def pTupOf : List PV → Option PV
  | [.lst ps] => some (.tup ps)
  | [.tup ps] => some (.tup ps)
  | [.sq ps] => some (.tup ps)
  | _ => none
theorem c_tup : CallR X (.type "tuple") (rPL X.K X.mg pTupOf) := by
  intro pins s σ H xs us Q I r h
  obtain ⟨G, ps, pz, f, hx, e, k⟩ := h
  unfold pTupOf at e
  split at e
  · obtain ⟨v, rr, rfl, r1, r2⟩ := hx
    cases r2; cases e
    obtain ⟨a, vs, rfl, ha, ra⟩ := r1
    exact call_tuple_of pins s σ H _ us Q I r ⟨a, vs, rfl, .inl ⟨.inl (.of (f.sub _ _ ha)), k.tup f ra⟩⟩
  · obtain ⟨v, rr, rfl, r1, r2⟩ := hx
    cases r2; cases e
    obtain ⟨a, vs, rfl, ha, ra⟩ := r1
    exact call_tuple_of pins s σ H _ us Q I r ⟨a, vs, rfl, .inr ⟨f.sub.sqT ha, k.here f ⟨a, vs, rfl, ha, ra⟩⟩⟩
  · obtain ⟨v, rr, rfl, r1, r2⟩ := hx
    cases r2; cases e
    obtain ⟨a, vs, rfl, ha, ra⟩ := r1
    exact call_tuple_of pins s σ H _ us Q I r ⟨a, vs, rfl, .inl ⟨f.sub.sqL ha, k.tup f ra⟩⟩
  · cases e
def pInt : List PV → Option PV
  | [.int i] => some (.int i)
  | [.bl b] => some (.int (if b then 1 else 0))
  | [.str z] => if z.length ≤ 640 then (PySem.intText? z).map .int else none
  | _ => none
theorem c_int : CallR X (.type "int") (rPL X.K X.mg pInt) := by
  intro pins s σ H xs us Q I r h
  obtain ⟨G, ps, pz, f, hx, e, k⟩ := h
  unfold pInt at e
  split at e
  · obtain ⟨v, rr, rfl, r1, r2⟩ := hx
    cases r1; cases r2; cases e
    exact call_int1 pins s σ H _ us Q I r (.inl ⟨_, rfl, k.here f rfl⟩)
  · obtain ⟨v, rr, rfl, r1, r2⟩ := hx
    cases r1; cases r2; cases e
    exact call_int1 pins s σ H _ us Q I r (.inr ⟨_, rfl, k.here f rfl⟩)
  · rename_i z
    obtain ⟨v, rr, rfl, r1, r2⟩ := hx
    cases r1; cases r2
    split at e
    · rename_i hz
      cases e1 : PySem.intText? z with
      | none => rw [e1] at e; cases e
      | some n =>
        rw [e1] at e; cases e
        exact call_int_str pins s σ H _ us Q I r ⟨z, n, rfl, e1, hz, k.here f rfl⟩
    · cases e
  · cases e
def strI (i : Int) : Str := (toString i : String)
def pStr : List PV → Option PV
  | [.int i] => if i.natAbs.log2 < 1920 then some (.str (strI i)) else none
  | [.str z] => some (.str z)
  | _ => none
theorem c_str : CallR X (.type "str") (rPL X.K X.mg pStr) := by
  intro pins s σ H xs us Q I r h
  obtain ⟨G, ps, pz, f, hx, e, k⟩ := h
  unfold pStr at e
  split at e
  · obtain ⟨v, rr, rfl, r1, r2⟩ := hx
    cases r1; cases r2
    split at e
    · rename_i hz
      cases e
      exact call_str_int pins s σ H _ us Q I r ⟨_, rfl, hz, k.here f rfl⟩
    · cases e
  · obtain ⟨v, rr, rfl, r1, r2⟩ := hx
    cases r1; cases r2; cases e
    exact SkE.call_str_str pins s σ H _ us Q I r ⟨_, rfl, k.here f rfl⟩
  · cases e
def pRepr : List PV → Option PV
  | [.int i] => if i.natAbs.log2 < 1920 then some (.str (strI i)) else none
  | _ => none
theorem c_repr : CallR X (.builtin "repr") (rPL X.K X.mg pRepr) := by
  intro pins s σ H xs us Q I r h
  obtain ⟨G, ps, pz, f, hx, e, k⟩ := h
  unfold pRepr at e
  split at e
  · obtain ⟨v, rr, rfl, r1, r2⟩ := hx
    cases r1; cases r2
    split at e
    · rename_i hz
      cases e
      exact SkE.call_repr_int pins s σ H _ us Q I r ⟨_, rfl, hz, k.here f rfl⟩
    · cases e
  · cases e
def pAbs : List PV → Option PV
  | [.int i] => some (.int (if i < 0 then -i else i))
  | _ => none
theorem c_abs : CallR X (.builtin "abs") (rPL X.K X.mg pAbs) := by
  intro pins s σ H xs us Q I r h
  obtain ⟨G, ps, pz, f, hx, e, k⟩ := h
  unfold pAbs at e
  split at e
  · obtain ⟨v, rr, rfl, r1, r2⟩ := hx
    cases r1; cases r2; cases e
    exact call_abs pins s σ H _ us Q I r ⟨_, rfl, k.here f rfl⟩
  · cases e
end

/-! ### dead code -/
section
variable {X : Cx} {T : List (Addr × Str)} {W : WX}
theorem bad_in {α β : Type} {R : Hp → α → β → Prop} {σ : St} {H : Hp} {Q : β → Hp → Prop} (q : tG X.K X.mg T R W (fun _ => .bad) σ H Q) : False := by
  obtain ⟨ρ, w, rfl, E, q⟩ := q
  exact q
theorem ve_bad {e : Expr} : VE X T W e (fun _ => .bad) := ⟨⟨fun pins s σ H Q I q => (bad_in q).elim⟩⟩
theorem vt_bad {e : Expr} : VT X T W e (fun _ => .bad) := ⟨⟨fun pins s σ H Q I q => (bad_in q).elim⟩⟩

/-! ### methods of a text -/
def mM0 (f : PV → List PV → Option PV) (o : M PV) : M PV := o.bind fun x => match x with
  | .str a => .lift (f (.str a) [])
  | _ => fun _ => .bad
def mM1 (f : PV → List PV → Option PV) (o e : M PV) : M PV := o.bind fun x => match x with
  | .str a => e.bind fun y => .lift (f (.str a) [y])
  | _ => fun _ => .bad
variable {o e : Expr} {mo me : M PV} {apos pos : Pos}
theorem ve_m0 {id : String} {name : Str} {f : PV → List PV → Option PV} (slot : Slot "str" name id) (ty : typeOf (.builtin id) = pure (.type "method_descriptor")) (rule : MtR X id (rPM X.K X.mg f)) (ho : VE X T W o mo)
    (hbase : attributeBase o name X.env (eval o X.env) = eval o X.env := by rfl) (hline : (apos.endLine == pos.line) = true := by rfl) : VE X T W (.Call (.Attribute o name apos) [] [] pos) (mM0 f mo) := ⟨(pe_m0 slot ty rule ho.pe hbase hline).imV fun σ H Q q => by
  refine tG_step q fun pa ρ1 x w1 E1 r1 q1 => ?_
  split at q1
  · obtain ⟨z, e, q2⟩ := tK_lift q1
    exact ⟨⟨_, r1⟩, w1.G, _, [], z, E1.fz, r1, rfl, e, E1.done q2⟩
  · exact q1.elim⟩
theorem ve_m1 {id : String} {name : Str} {f : PV → List PV → Option PV} (slot : Slot "str" name id) (ty : typeOf (.builtin id) = pure (.type "method_descriptor")) (rule : MtR X id (rPM X.K X.mg f)) (ho : VE X T W o mo) (he : VE X T W e me)
    (hs : starEach [e] X.env = [(false, eval e X.env)] := by rfl) (hbase : attributeBase o name X.env (eval o X.env) = eval o X.env := by rfl) (hline : (apos.endLine == pos.line) = true := by rfl) : VE X T W (.Call (.Attribute o name apos) [e] [] pos) (mM1 f mo me) := ⟨(pe_m1 slot ty rule ho.pe he.pe hs hbase hline).imV fun σ H Q q => by
  refine tG_step q fun pa ρ1 x w1 E1 r1 q1 => ?_
  split at q1
  · refine ⟨⟨_, r1⟩, ?_⟩
    refine tK_step E1 q1 fun pb ρ2 y w2 x2 E2 r2 q2 => ?_
    obtain ⟨z, e, q3⟩ := tK_lift q2
    exact ⟨w2.G, _, [pb], z, E2.fz, r1.mono x2.g, ⟨y, [], rfl, r2, rfl⟩, e, E2.done q3⟩
  · exact q1.elim⟩
end
section
variable {X : Cx} {K : Frag} {mg : Str → Option Value} {G H : Hp}
def strsP : List PV → Option (List Str)
  | [] => some []
  | .str b :: ps => (strsP ps).map (b :: ·)
  | _ :: _ => none
theorem strsP_rep : ∀ {ps : List PV} {bs : List Str} {vs : List V}, strsP ps = some bs → Reps K mg G ps vs → vs = bs.map V.str
  | [], bs, vs, h, r => by cases h; cases r; rfl
  | p :: ps, bs, vs, h, ⟨v, rr, e, r1, r2⟩ => by
    subst e
    cases p with
    | str b =>
      unfold strsP at h
      cases e1 : strsP ps with
      | none => rw [e1] at h; cases h
      | some bs' =>
        rw [e1] at h
        cases h
        cases r1
        rw [strsP_rep e1 r2]; rfl
    | _ => cases h
def pJoin : PV → List PV → Option PV
  | .str a, [.lst ps] => (strsP ps).bind fun ys => if (ys.map (·.length)).sum + ys.length * a.length ≤ 16777216 then some (.str (Txt.join a ys)) else none
  | .str a, [.tup ps] => (strsP ps).bind fun ys => if (ys.map (·.length)).sum + ys.length * a.length ≤ 16777216 then some (.str (Txt.join a ys)) else none
  | _, _ => none
theorem m_join : MtR X "str.join" (rPM X.K X.mg pJoin) := by
  intro pins s σ H x xs v us Q I rx rs h
  obtain ⟨G, px, ps, pz, f, hx, hs, e, k⟩ := h
  unfold pJoin at e
  split at e
  · rename_i a ps
    obtain ⟨v, rr, rfl, r1, r2⟩ := hs
    cases r2
    obtain ⟨p, vs, rfl, ha, ra⟩ := r1
    cases e1 : strsP ps with
    | none => rw [e1] at e; cases e
    | some ys =>
      rw [e1] at e
      dsimp only [Option.bind] at e
      split at e
      · rename_i hz
        cases e
        exact mt_join pins s σ H x _ _ us Q I rx rs ⟨a, p, ys, hx, rfl, .inl (by rw [← strsP_rep e1 ra]; exact .inl (.of (f.sub _ _ ha))), hz, k.here f rfl⟩
      · cases e
  · rename_i a ps
    obtain ⟨v, rr, rfl, r1, r2⟩ := hs
    cases r2
    obtain ⟨p, vs, rfl, ha, ra⟩ := r1
    cases e1 : strsP ps with
    | none => rw [e1] at e; cases e
    | some ys =>
      rw [e1] at e
      dsimp only [Option.bind] at e
      split at e
      · rename_i hz
        cases e
        exact mt_join pins s σ H x _ _ us Q I rx rs ⟨a, p, ys, hx, rfl, .inr (by rw [← strsP_rep e1 ra]; exact f.sub.sqT ha), hz, k.here f rfl⟩
      · cases e
  · cases e
def pS1 (g : Str → Str → Str) : PV → List PV → Option PV
  | .str a, [.str b] => if a.length ≤ sizeLine then some (.str (g a b)) else none
  | _, _ => none
theorem m_s1 {id : String} {g : Str → Str → Str} (h : MtR X id (fun x xs H Q => ∃ a b, x = .str a ∧ xs = [.str b] ∧ a.length ≤ sizeLine ∧ Q (.str (g a b)) H)) : MtR X id (rPM X.K X.mg (pS1 g)) := by
  intro pins s σ H x xs v us Q I rx rs hh
  obtain ⟨G, px, ps, pz, f, hx, hs, e, k⟩ := hh
  unfold pS1 at e
  split at e
  · split at e
    · rename_i hz
      cases e
      obtain ⟨v, rr, rfl, r1, r2⟩ := hs
      cases r2; cases r1
      exact h pins s σ H x _ _ us Q I rx rs ⟨_, _, hx, rfl, hz, k.here f rfl⟩
    · cases e
  · cases e
theorem m_strip : MtR X "str.strip" (rPM X.K X.mg (pS1 Txt.stripChars)) := m_s1 mt_stripChars
theorem m_lstrip : MtR X "str.lstrip" (rPM X.K X.mg (pS1 Txt.lstripChars)) := m_s1 mt_lstripChars
theorem m_rstrip : MtR X "str.rstrip" (rPM X.K X.mg (pS1 Txt.rstripChars)) := m_s1 mt_rstripChars
end
end VS

set_option Elab.async false
set_option linter.all false
set_option maxRecDepth 100000
set_option maxHeartbeats 1000000
namespace VS
open PySem PySem.Spec PyProof.Rows L2
open Sem (wp)

/-! ### an exception in the air, noted for the frame L or not yet noted -/
def XL (X : Cx) (L : Addr) (W : WX) (u : Value) (t : Shared) : Prop :=
  ∃ (a : Addr) (B : Heap) (r : Shared) (pins : List (Addr × Obj)) (σ : St) (H : Hp) (cls : Value) (d : Option Addr), u = .ref a ∧
    Inv X pins σ H r ∧ (∀ b o, r.heap.get? b = some o → b ∉ frs X.stack → B.get? b = some o) ∧
    r.heap.UpToSlots t.heap ∧ Sky B X.stack a (Zc cls d) L t.heap ∧
    H a = none ∧ t.os = r.os ∧ AllBare t.gens ∧ W cls d σ H
theorem XL.of_XE {X : Cx} {W : WX} {u : Value} {t : Shared} (x : XE X W u t) : XL X X.env.locals W u t := x
theorem XL.to_XE {X : Cx} {W : WX} {u : Value} {t : Shared} (x : XL X X.env.locals W u t) : XE X W u t := x
/-- what a callee lets out is in our air, for whatever frame -/
theorem XL.of_call {X : Cx} {L : Addr} {W : WX} {pins : List (Addr × Obj)} {σ : St} {H : Hp} {s t : Shared} {u : Value} (J : Inv X pins σ H s) (c : L2.CX X.prog X.w X.stack H s (WE W σ) u t) : XL X L W u t := by
  obtain ⟨a, B, H', cls, d, eu, fl, hk, ub, na, os, ag, hw⟩ := c
  obtain ⟨R, r1, r2⟩ := restrict t.heap fun b => (B.get? b).isSome || decide (b ∈ frs X.stack)
  have inB : ∀ b o, B.get? b = some o → R.get? b = some o := fun b o e => (r1 b (by rw [e]; rfl)).trans (fl.1 b o e)
  have inF : ∀ b, b ∈ frs X.stack → R.get? b = t.heap.get? b := fun b hb => r1 b (by rw [decide_eq_true hb, Bool.or_true])
  have out : ∀ b o, R.get? b = some o → t.heap.get? b = some o ∧ (b ∉ frs X.stack → B.get? b = some o) := fun b o e => by
    by_cases hb : b ∈ frs X.stack
    · exact ⟨(inF b hb).symm.trans e, fun n => (n hb).elim⟩
    · cases q : B.get? b with
      | none =>
        have := r2 b (by rw [q, decide_eq_false hb]; rfl)
        rw [this] at e; cases e
      | some o2 =>
        have z := inB b o2 q
        rw [z] at e; cases e
        exact ⟨fl.1 b _ q, fun _ => rfl⟩
  have J2 : Inv X pins σ H' { s with heap := R, gens := t.gens, drawn := t.drawn, toks := t.toks } := by
    refine J.call (ch := []) ⟨fun b o e n hb _ => inB b o (ub.keep b o e n hb), fun b o e n hb _ => ?_, fun b o e n _ => ub.free b o e n, fun b o e _ => ?_, ub.tups, ub.frzs, ub.tbls⟩ (hk.kept inB) ag fun _ z => nomatch z
    · obtain ⟨sl, q⟩ := ub.slot b o e hb
      exact ⟨sl, (inF b hb).trans q⟩
    · by_cases hb : b ∈ frs X.stack
      · obtain ⟨sl, q⟩ := ub.slot b o e hb
        exact ⟨_, (inF b hb).trans q⟩
      · obtain ⟨o2, q⟩ := ub.there b o e hb
        exact ⟨o2, inB b o2 q⟩
  exact ⟨a, B, _, pins, σ, H', cls, d, eu, J2, fun b o e n => (out b o e).2 n, Heap.UpToSlots.of_keeps fun b o e => (out b o e).1, .inr (.inl fl), na, os, ag, hw⟩
/-- calls and comprehensions may let out what W wishes -/
structure TK (X : Cx) (W : WX) : Prop where
  ex : ∃ L e0 out, X.stack = e0 :: out ∧ e0.frame = some L ∧ X.env.frame = some L ∧ ∀ u t, XL X L W u t → X.xe u t
theorem TK.of {X : Cx} {W : WX} (hs : X.stack = X.env :: X.outer) (hf : X.env.frame = some X.env.locals) (t : Takes X W) : TK X W := ⟨_, _, _, hs, hf, hf, fun u s x => t u s x.to_XE⟩
theorem TK.pass {X : Cx} {W : WX} (k : TK X W) (σ : St) : PassesAt (L2.CX X.prog X.w) X σ (WE W σ) := fun pins H s e t J c => by
  obtain ⟨L, _, _, _, _, _, h⟩ := k.ex
  exact h e t (XL.of_call J c)

/-! ### a comprehension that an exception may leave -/
def cPost (M : Model) (A : Around) (E : Value → Shared → Prop) (use : Option (Value → Sem Unit)) (Q : Value → Shared → Prop) (acc : Value) (ce : Env) (r : Result) (t : Shared) : Prop :=
  match r, use with
  | .ok _, none => ∃ m, t.heap.Ns ce.locals m ∧ ∀ g, Heap.SameBut ce.locals t.heap g → Q acc { t with heap := g }
  | .ok _, some f => wpAny M A (f acc) (fun _ u => ∃ m, u.heap.Ns ce.locals m ∧ ∀ g, Heap.SameBut ce.locals u.heap g → Q .none { u with heap := g }) E t
  | .error x, _ => ∃ m, t.heap.Ns ce.locals m ∧ ∀ g n, g.Ns ce.locals n → Heap.SameBut ce.locals t.heap g → wpAny M A (passOn "comprehension.variables-let-go" x ce : Sem Value) (fun _ _ => False) E { t with heap := g }
section
variable {M : Model} {A : Around} {E : Value → Shared → Prop} {env : Env} {s : Shared}
theorem comp_any {x : Expr} {sc : Scope} {pos : Pos} {mk fst : Sem Value} {g : Comprehension} {gs : List Comprehension} {cl : List (Str × Addr)} {use : Option (Value → Sem Unit)} {Q : Value → Shared → Prop} (hx : clausesOf x = g :: gs)
    (hset : ∀ y, foldedSetIterable g.iter env y = pure y) (hcl : closureFor sc env = pure cl) (hk : sc.kind = .function) (hl : ∀ y ∈ sc.names, y.2 = .local → sc.names.lookup y.1 = some .local)
    (h : wpAny M A fst (fun v t1 => wpAny M A (pyIter v) (fun it t2 => wpAny M A mk (fun acc t3 => wpAny M A (newFunctionEnv sc env.globals cl [] env.qual none .none (some env))
      (fun ce t4 => codeAny M A (.compStart x 0 it acc { ce with scope := relabel sc env }) (cPost M A E use Q acc { ce with scope := relabel sc env }) t4) E t3) E t2) E t1) E s) :
    wpAny M A (comprehension x sc env pos mk false fst use) Q E s := by
  unfold comprehension
  rw [hcl, hx]
  have ok {α : Type} {m : Sem α} {P P' : α → Shared → Prop} {t : Shared} (a : wpAny M A m P E t) (b : ∀ v u, P v u → P' v u) : wpAny M A m P' E t := wpAny_mono a b fun _ _ z => z
  refine wpAny_bind (ok h fun v t1 h1 => ?_)
  refine wpAny_bind (wpAny_standAt (wpAny_bind (wpAny_of_eq (hset v) (wpAny_bind (wpAny_holding (ok h1 fun it t2 h2 => ?_))))))
  refine wpAny_standIf (wpAny_bind (ok h2 fun acc t3 h3 => ?_))
  refine wpAny_bind (wpAny_pure (wpAny_bind (ok h3 fun ce t4 h4 => ?_)))
  dsimp only
  have v1 : ∀ y ∈ (sc.names.filter fun z => (z.2 == .local || z.2 == .cell) && z.1 != (".0" : Str)).reverse, y.2 = .local → Env.kindOf { ce with scope := relabel sc env } y.1 = some .local :=
    fun y hy e => lookup_relabel_local (hl y (List.mem_filter.mp (List.mem_reverse.mp hy)).1 e)
  have v2 : ∀ y ∈ (sc.names.filter fun z => (z.2 == .local || z.2 == .cell) && z.1 != (".0" : Str)).reverse.drop 1 ++ (sc.names.filter fun z => (z.2 == .local || z.2 == .cell) && z.1 != (".0" : Str)).reverse.take 1,
      y.2 = .local → Env.kindOf { ce with scope := relabel sc env } y.1 = some .local := fun y hy e =>
    v1 y ((List.mem_append.mp hy).elim List.mem_of_mem_drop List.mem_of_mem_take) e
  refine wpAny_holding (wpAny_bind (wpAny_attempt (wpAny_holding (wpAny_run (codeAny_mono h4 fun r t h5 => ?_)))))
  cases r with
  | error y =>
    have h6 : ∃ m, t.heap.Ns ce.locals m ∧ ∀ g n, g.Ns ce.locals n → Heap.SameBut ce.locals t.heap g → wpAny M A (passOn "comprehension.variables-let-go" y { ce with scope := relabel sc env } : Sem Value) (fun _ _ => False) E { t with heap := g } := by cases use <;> exact h5
    obtain ⟨m, hn, h7⟩ := h6
    refine wpAny_bind (wpAny_holding (wpAny_comp_letGo (cenv := { ce with scope := relabel sc env }) hk _ t m v1 hn fun g n hg sb => ?_))
    exact ok (h7 g n hg sb) fun _ _ z => z.elim
  | ok f =>
    cases use with
    | some f =>
      refine wpAny_bind (wpAny_rule (wpAny_bind (wpAny_holding (ok h5 fun _ u h6 => ?_))))
      obtain ⟨m, hn, h7⟩ := h6
      exact wpAny_bind (wpAny_comp_letGo (cenv := { ce with scope := relabel sc env }) hk _ u m v2 hn fun g _ _ sb => wpAny_pure (h7 g sb))
    | none =>
      obtain ⟨m, hn, h7⟩ := h5
      exact wpAny_bind (wpAny_holding (wpAny_comp_letGo (cenv := { ce with scope := relabel sc env }) hk _ t m v1 hn fun g _ _ sb => wpAny_pure (h7 g sb)))
theorem note_frame {x : Value} {e1 e2 : Env} (h : e1.frame = e2.frame) : noteFrame x e1 = noteFrame x e2 := by
  unfold noteFrame PySem.frameOf
  rw [h]
/-- it is noted for the frame -/
theorem sky_note {B : Heap} {e0 ce : Env} {out : List Env} {L a : Addr} {Z : Obj → Prop} {Q : Unit → Shared → Prop} (hZ : HandSPX.Steady Z) (hfr : A.frames = some (e0 :: out)) (hf : e0.frame = some L) (hc : ce.frame = some L)
    (x : Sky B (e0 :: out) a Z L s.heap) (hQ : ∀ g, HandSPX.HeldZ B (e0 :: out) a Z L g → s.heap.UpToSlots g → Q () { s with heap := g }) : wpAny M A (noteFrame (.ref a) ce) Q E s := by
  rw [note_frame (hc.trans hf.symm)]
  rcases x with ⟨hB, hn, hl, oe, vs, he, hz, hd, h1⟩ | fl | hh
  · exact HandSPX.look_newZ hZ hfr hl hf he hB hn hd h1 hz hQ
  · exact HandSPX.looks_onZ hZ hfr hf fl hQ
  · exact HandSPX.againZ hf hh.2.2.2 (hQ s.heap hh (Heap.UpToSlots.refl _))
theorem fun_same {g h B : Heap} {C : Addr} {n : Str → Option Value} (sb : Heap.SameBut C h g) (hg : g.Ns C n) : ∀ {l : List Env}, h.FunFrames B l → g.FunFrames B l
  | [], _ => trivial
  | _ :: _, ⟨k, ⟨F, o, f1, f2, f3, f4⟩, r⟩ => by
    refine ⟨k, ?_, fun_same sb hg r⟩
    by_cases q : F = C
    · subst q
      obtain ⟨o2, es, ep, e2, d2, _⟩ := hg
      exact ⟨F, o2, f1, f2, e2, fun vs z => by rw [d2] at z; cases z⟩
    · exact ⟨F, o, f1, f2, (sb.2 F q).trans f3, f4⟩
/-- the comprehension's own names go -/
theorem held_less {B g h : Heap} {l : List Env} {a L C : Addr} {Z : Obj → Prop} {m n : Str → Option Value} (x : HandSPX.HeldZ B l a Z L h) (hC : h.Ns C m) (hg : g.Ns C n) (sb : Heap.SameBut C h g) (hl : ∀ F ∈ frs l, B.get? F = none) :
    HandSPX.HeldZ (PySem.W.hideAll B [C]) l a Z L g := by
  obtain ⟨x1, x2, x3, oe, vs, T, oT, ts, he, hz, hd, h1, hT, hTe, eT, dT, h3⟩ := x
  obtain ⟨oC, es, ep, hoC, hdC, _⟩ := hC
  have ne : ∀ {b : Addr} {o : Obj} {vs : Array Value}, h.get? b = some o → o.data = .fields vs → b ≠ C := fun e1 e2 z => by
    rw [z, hoC] at e1; cases e1
    rw [hdC] at e2; cases e2
  have no : ∀ {b : Addr}, B.get? b = none → (PySem.W.hideAll B [C]).get? b = none := fun {b} e => by
    cases q : (PySem.W.hideAll B [C]).get? b with
    | none => rfl
    | some o => rw [PySem.W.of_hideAll _ q] at e; cases e
  refine ⟨fun b o e => ?_, no x2, ?_, oe, vs, T, oT, ts, (sb.2 a (ne he hd)).trans he, hz, hd, h1, no hT, hTe, (sb.2 T (ne eT dT)).trans eT, dT, h3⟩
  · have hb : b ≠ C := fun z => by
      rw [z, PySem.W.hideAll_none [C] (.head _)] at e; cases e
    exact (sb.2 b hb).trans (x1 b o (PySem.W.of_hideAll _ e))
  · exact fun_same sb hg (funFrames_none x3 fun F hF => no (hl F hF))
end
section
variable {X : Cx} {pins : List (Addr × Obj)} {σ : St} {H3 : Hp} {s3 t : Shared} {W : WX} {L : Addr} {fp : List Addr} {sc : Scope} {ce : Env} {u : Value} {use : Option (Value → Sem Unit)} {Q : Value → Shared → Prop} {acc : Value}
/-- out of the block, into our air -/
theorem comp_out (I3 : Inv X pins σ H3 s3) (cL : ce.locals = s3.heap.objs.size) (k : ∀ u t, XL X L W u t → X.xe u t) {e0 : Env} {out : List Env} (hs : X.stack = e0 :: out) (hf : e0.frame = some L) (hc : ce.frame = some L)
    (hfp : ∀ b ∈ fp, (b ∈ X.ex ∨ X.s_0.heap.objs.size ≤ b) ∧ b ≠ X.env.locals ∧ (∀ x c, X.env.cells.lookup x = some c → c ≠ b) ∧ ∀ p ∈ X.pn ++ pins, p.1 ≠ b)
    (x : XL (X.blk s3 H3 sc ce fp) L (fun cls d _ H => W cls d σ H) u t) : notedBy (model X.prog X.w) X.A ce (fun e t' => cPost (model X.prog X.w) X.A X.xe use Q acc ce (.error e) t') u t := by
  obtain ⟨a, B, r, pins', σ', H', cls, d, rfl, J, nb, up, sky, na, os, ag, w⟩ := x
  have nb : ∀ b o, r.heap.get? b = some o → b ∉ frs X.stack → B.get? b = some o := nb
  have sky : Sky B X.stack a (Zc cls d) L t.heap := sky
  have hfr : X.A.frames = some (e0 :: out) := by rw [I3.ok.frames, hs]
  unfold notedBy
  rw [hs] at sky
  refine sky_note Zc.steady hfr hf hc sky fun h1 held up1 => ?_
  rw [← hs] at held
  -- the comprehension's names stand
  have small : ∀ b ∈ frs X.stack, b < s3.heap.objs.size := fun b hb => by
    obtain ⟨_, o, e, _⟩ := I3.stack.mem hb
    exact Heap.lt_size e
  have nC : ce.locals ∉ frs X.stack := fun z => by
    have := small _ z
    rw [cL] at this
    exact Nat.lt_irrefl _ this
  have nHC : H' ce.locals = none := J.free
  obtain ⟨m, hn, _⟩ := J.loc
  obtain ⟨oC, es, ep, hoC, rest⟩ := hn
  have h1C : h1.get? ce.locals = some oC := held.1 _ _ (nb _ _ hoC nC)
  have n1 : h1.Ns ce.locals m := ⟨oC, es, ep, h1C, rest⟩
  have hB : ∀ F ∈ frs X.stack, B.get? F = none := fun F hF => (held.2.2.1.mem hF).1
  have go : ∀ g n, g.Ns ce.locals n → Heap.SameBut ce.locals h1 g → wpAny (model X.prog X.w) X.A (passOn "comprehension.variables-let-go" (.ref a) ce : Sem Value) (fun _ _ => False) X.xe { t with heap := g } := fun g n hg sb => by
    have held2 := held_less held n1 hg sb hB
    obtain ⟨_, _, _, oe, vs, T, oT, ts, he, hz, hd, hv1, _⟩ := id held2
    unfold PySem.passOn
    refine wpAny_bind (wpAny_field he hd hv1 ?_)
    rw [if_neg (by simp)]
    rw [hc]
    refine wpAny_bind (HandSPX.setFlight_onZ held2 fun g2 held3 up2 => wpAny_throw (k _ _ ?_))
    have keepC : ∀ b o, (PySem.W.hideAll r.heap [ce.locals]).get? b = some o → r.heap.get? b = some o ∧ b ≠ ce.locals := fun b o e => ⟨PySem.W.of_hideAll _ e, fun z => by rw [z, PySem.W.hideAll_none [ce.locals] (.head _)] at e; cases e⟩
    have toC : ∀ {b o}, b ≠ ce.locals → r.heap.get? b = some o → (PySem.W.hideAll r.heap [ce.locals]).get? b = some o := fun hb e => PySem.W.hideAll_get _ e fun z => hb (List.mem_singleton.mp z)
    have old : ∀ b o, s3.heap.get? b = some o → b ≠ ce.locals := fun b o e z => by
      have := Heap.lt_size e
      rw [z, cL] at this
      exact Nat.lt_irrefl _ this
    have J2 : Inv X pins σ H' { r with heap := PySem.W.hideAll r.heap [ce.locals] } := by
      refine I3.call' (ch := ce.locals :: fp) J.os ⟨fun b o e n hb hx => ?_, fun b o e n hb hx => ?_, fun b o e n hx => ?_, fun b o e hx => ?_, J.base.tups, J.base.frzs, J.base.tbls⟩ (fun b o e => ?_) J.bare fun b hb => ?_
      · exact toC (old b o e) (J.base.keep b o e n hb fun z => hx (.tail _ z))
      · obtain ⟨sl, q⟩ := J.base.slot b o e n hb fun z => hx (.tail _ z)
        exact ⟨sl, toC (old b o e) q⟩
      · exact J.base.free b o e n fun z => hx (.tail _ z)
      · obtain ⟨o2, q⟩ := J.base.there b o e fun z => hx (.tail _ z)
        exact ⟨o2, toC (old b o e) q⟩
      · refine (J.hok b o e).stay (fun c v hcv q => toC (fun z => ?_) q) (fun _ q => q) fun _ _ q => q
        rcases hcv with z2 | z2
        · rw [← z2, z, nHC] at e; cases e
        · rw [z, nHC] at z2; cases z2
      · rcases List.mem_cons.mp hb with z | z
        · have f := I3.fpOk (b := b) (H' := H') (by rw [z, cL]; exact Nat.le_refl _) (by rw [z]; exact nHC)
          exact ⟨f.2.2.2.1, f.2.1, f.2.2.2.2.1, f.2.2.2.2.2⟩
        · exact hfp b z
    refine ⟨a, PySem.W.hideAll B [ce.locals], _, pins, σ, H', cls, d, rfl, J2, fun b o e hb => ?_, ?_, .inr (.inr held3), na, os, ag, w⟩
    · obtain ⟨e1, e2⟩ := keepC b o e
      exact PySem.W.hideAll_get _ (nb b o e1 hb) fun z => e2 (List.mem_singleton.mp z)
    · intro b o e hd2
      obtain ⟨e1, e2⟩ := keepC b o e
      obtain ⟨sl1, q1⟩ := up b o e1 hd2
      obtain ⟨sl2, q2⟩ := up1 b _ q1 hd2
      obtain ⟨sl3, q3⟩ := up2 b { o with slots := sl2 } ((sb.2 b e2).trans q2) hd2
      exact ⟨sl3, q3⟩
  cases use <;> exact ⟨m, n1, go⟩
end
section
variable {X : Cx} {W : WX}
/-- the block, with a wish -/
abbrev blkX (X : Cx) (s : Shared) (H : Hp) (scope : Scope) (ce : Env) (fp : List Addr) (xe : Value → Shared → Prop) : Cx := (X.blk s H scope ce fp).wish xe
abbrev TEW := WX → TE
/-- [elt for tg in iter if ..] -/
theorem comp_core {pins : List (Addr × Obj)} {s : Shared} {σ : St} {H : Hp} {Q : VK} {elt tg iter : Expr} {ifs : List Expr} {scope : Scope} {own : List (Str × Nat)} {pos pos' : Pos} {wi : TI} {g : TG} {tt : TT} {te : TEW} {use : Option (Value → Sem Unit)}
    {Qf : Value → Shared → Prop} (hc : X.calm = true) (hN : X.N.Nodup) (I0 : Inv X pins σ H s) (k : TK X W) (hi : PI X tg iter wi) (ok : BlkOk X.N X.env.scope scope own)
    (hg : ∀ (s : Shared) (H : Hp) (C : Addr) (cl : List (Str × Addr)) (fp : List Addr), PG (X.blk s H scope (compEnvC scope cl C X.env) fp) tg g)
    (ht : ∀ (s : Shared) (H : Hp) (C : Addr) (cl : List (Str × Addr)) (fp : List Addr), PTs (X.blk s H scope (compEnvC scope cl C X.env) fp) ifs tt)
    (he : ∀ (s : Shared) (H : Hp) (C : Addr) (cl : List (Str × Addr)) (fp : List Addr) (xe : Value → Shared → Prop) (W' : WX), TK (blkX X s H scope (compEnvC scope cl C X.env) fp xe) W' → PE (blkX X s H scope (compEnvC scope cl C X.env) fp xe) elt (te W'))
    (hs : ∀ x, foldedSetIterable iter X.env x = pure x) (h : tLc wi g tt (te fun cls d _ H => W cls d σ H) (own.map (·.2)) σ H Q)
    (fin : ∀ D ce t m H', Inv X pins σ H' t → Q (.ref D) H' → t.heap.Ns ce.locals m → FpOk X pins H' ce.locals → cPost (model X.prog X.w) X.A X.xe use Qf (.ref D) ce (.ok .next) t) :
    wpAny (model X.prog X.w) X.A (comprehension (.ListComp elt [⟨tg, iter, ifs, 0⟩] scope pos) scope X.env pos' (newList []) false (eval iter X.env) use) Qf X.xe s := by
  obtain ⟨L, e0, out, st1, st2, st3, kx⟩ := k.ex
  have cellOf : ∀ y ∈ scope.names, y.2 = .free → ∃ c, X.env.cells.lookup y.1 = some c := fun y hy e => I0.ok.has _ (ok.free y hy e)
  refine comp_any rfl hs (closure_ok cellOf) ok.kind (fun y hy e => (ok.uniq y hy).trans (congrArg some e)) ?_
  refine thn (hi.run pins s σ H _ I0 h) fun xv s1 q1 => thn q1 fun itv s2 q2 => ?_
  obtain ⟨it, fp, tn, J, H2, rfl, I2, T, t2, f2, q⟩ := q2
  refine wpAny_newObj_type (newEnv_comp ?_) (Nat.zero_le _)
  obtain ⟨D, hD⟩ : ∃ D, D = s2.heap.objs.size := ⟨_, rfl⟩
  rw [← hD]
  have free2 : H2 D = none := I2.hok.fresh (by rw [hD]; exact Nat.le_refl _)
  obtain ⟨Wn, ⟨m0, w0⟩, turn⟩ := q D free2
  have big : ∀ b ∈ fp, b < s2.heap.objs.size := fun b hb => by
    obtain ⟨o, e, _⟩ := T.obj _ _ t2 b hb
    exact Heap.lt_size e
  obtain ⟨s3, es3⟩ : ∃ s3 : Shared, s3 = { s2 with heap := s2.heap.push { cls := .type "list", data := .seq ([] : List Value).toArray } } := ⟨_, rfl⟩
  have I3 : Inv X pins σ (upd H2 D (.lst [])) s3 := by
    rw [es3]
    exact I2.laid (t' := s2.toks) (fun b o e => Heap.get?_push_of_some _ e) (by rw [hD]; exact Nat.le_refl _) ⟨Nat.zero_le _, [], 0, .nil, by rw [hD]; exact Heap.get?_push_size _ rfl⟩
  have sz3 : s3.heap.objs.size = s2.heap.objs.size + 1 := by rw [es3]; exact Heap.size_push ..
  have old3 : ∀ b o, s2.heap.get? b = some o → s3.heap.get? b = some o := fun b o e => by rw [es3]; exact Heap.get?_push_of_some _ e
  have f3 : ∀ b ∈ fp, FpOk X pins (upd H2 D (.lst [])) b ∧ b < s3.heap.objs.size := fun b hb => by
    have hlt := big b hb
    refine ⟨⟨?_, (f2 b hb).2⟩, by rw [sz3]; exact Nat.lt_succ_of_lt hlt⟩
    rw [upd_ne (fun z => by rw [z, hD] at hlt; exact Nat.lt_irrefl _ hlt)]
    exact (f2 b hb).1
  rw [← es3]
  obtain ⟨H3, eH3⟩ : ∃ H3, H3 = upd H2 D (.lst []) := ⟨_, rfl⟩
  rw [← eH3] at I3 f3 w0
  have I4 := block_start I3 ok hN f3
  obtain ⟨cl, ecl⟩ : ∃ cl, cl = cellsFrom (s3.heap.objs.size + 1) scope.names (cloFrom X.env.cells scope.names []) := ⟨_, rfl⟩
  obtain ⟨s4, es4⟩ : ∃ s4 : Shared, s4 = { s3 with heap := pushCells (s3.heap.push { cls := .type "dict", data := .dict #[] }) scope.names } := ⟨_, rfl⟩
  rw [← ecl, ← es4] at I4
  rw [← ecl, ← es4]
  have old4 : ∀ b o, s3.heap.get? b = some o → s4.heap.get? b = some o := fun b o e => by rw [es4]; exact pushCells_keeps _ _ _ _ (Heap.get?_push_of_some _ e)
  have t4 : tn 0 s4.heap := T.keep _ _ _ t2 fun b _ o e => old4 b o (old3 b o e)
  have pg := hg s3 H3 s3.heap.objs.size cl fp
  have pt := ht s3 H3 s3.heap.objs.size cl fp
  have pe := he s3 H3 s3.heap.objs.size cl fp
  show codeAny _ _ (.compStart (.ListComp elt [⟨tg, iter, ifs, 0⟩] scope pos) 0 (.ref it) (.ref D) (compEnvC scope cl s3.heap.objs.size X.env)) (cPost (model X.prog X.w) X.A X.xe use Qf (.ref D) (compEnvC scope cl s3.heap.objs.size X.env)) s4
  obtain ⟨ce, ece⟩ : ∃ ce, ce = compEnvC scope cl s3.heap.objs.size X.env := ⟨_, rfl⟩
  have cL : ce.locals = s3.heap.objs.size := by rw [ece]; rfl
  have cF : ce.frame = some L := by rw [ece]; exact st3
  rw [← ece] at I4 pg pt pe ⊢
  -- an exception out of an element
  have pe := pe (XL (X.blk s3 H3 scope ce fp) L fun cls d _ H => W cls d σ H) (fun cls d _ H => W cls d σ H) ⟨L, e0, out, st1, st2, cF, fun u t ⟨a, B, r, p, ss, HH, cls, d, e, J, rest⟩ => ⟨a, B, r, p, ss, HH, cls, d, e, J.unwish, rest⟩⟩
  have hfp : ∀ b ∈ fp, (b ∈ X.ex ∨ X.s_0.heap.objs.size ≤ b) ∧ b ≠ X.env.locals ∧ (∀ x c, X.env.cells.lookup x = some c → c ≠ b) ∧ ∀ p ∈ X.pn ++ pins, p.1 ≠ b := fun b hb =>
    let f := (f3 b hb).1
    ⟨f.2.2.2.1, f.2.1, f.2.2.2.2.1, f.2.2.2.2.2⟩
  have esc : ∀ u t, XL (X.blk s3 H3 scope ce fp) L (fun cls d _ H => W cls d σ H) u t → notedBy (model X.prog X.w) X.A ce (fun e t' => cPost (model X.prog X.w) X.A X.xe use Qf (.ref D) ce (.error e) t') u t := fun u t x =>
    comp_out I3 cL kx st1 st2 cF hfp x
  have stand : ∀ {σ' : St} {H' : Hp} {s' : Shared}, Inv (X.blk s3 H3 scope ce fp) [] σ' H' s' → (∀ b ∈ fp, H' b = none) → ∀ b ∈ fp, FpOk (X.blk s3 H3 scope ce fp) [] H' b := fun {σ' H' s'} J hn b hb =>
    ⟨hn b hb, (J.ok.exf b hb).1, J.ok.exfs b hb, .inl hb, fun x c e => (J.ok.exf b hb).2 x c e, fun p hp => absurd (show p ∈ ([] : List (Addr × Obj)) from hp) (List.not_mem_nil)⟩
  refine codeAny_compStart_list ?body (T.self X.A 0 _ _ _ t4 ?body)
  refine compLoop_any (fun n u => ∃ i HH, Inv (X.blk s3 H3 scope ce fp) [] (wipe σ (own.map (·.2))) HH u ∧ tn i u.heap ∧ (∀ b ∈ fp, HH b = none) ∧ Wn i n HH) ?_ m0 ⟨0, H3, I4, t4, fun b hb => (f3 b hb).1.1, w0⟩
  intro n u ⟨i, HH, Ju, tu, nu, wu⟩
  rcases turn i n HH wu with ⟨stop, qq⟩ | ⟨go, Nx, hNx, step⟩
  · refine thnF (T.done (X.blk s3 H3 scope ce fp) rfl rfl rfl hc i [] u _ HH (fun _ _ => False) Ju (stand Ju nu) tu stop) fun r v ⟨er, Jv⟩ => ?_
    subst er
    have nC : HH ce.locals = none := Jv.free
    obtain ⟨m, hn, _⟩ := Jv.loc
    refine fin D ce v m HH (I3.call' (ch := fp) Jv.os Jv.base Jv.hok Jv.bare hfp) qq hn ?_
    exact I3.fpOk (by rw [cL]; exact Nat.le_refl _) nC
  · refine thnF (T.item (X.blk s3 H3 scope ce fp) rfl rfl rfl hc i [] u _ HH (fun _ _ => False) Ju (stand Ju nu) tu go) fun r v ⟨x, er, hv⟩ => ?_
    subst er
    refine thnF hv fun _ v2 ⟨y, HY, JY, ry, yl, tY, nY⟩ => ?_
    have JP := JY.pinned (stand JY nY) (T.obj _ _ tY)
    refine thnF (pg.run _ v2 _ HY y x _ JP ry (step y HY yl)) fun _ v3 ⟨σ3, HA, JA, hw, qA⟩ => ?_
    refine thnF (pt.run _ v3 σ3 HA _ JA qA) fun b v4 ⟨HB, JB, qB⟩ => ?_
    have next : ∀ {z : Shared} {HZ : Hp}, Inv (X.blk s3 H3 scope ce fp) ([] ++ pinsAt fp v2.heap) σ3 HZ z → Nx HZ → ∃ m, m < n ∧ ∃ i HH, Inv (X.blk s3 H3 scope ce fp) [] (wipe σ (own.map (·.2))) HH z ∧ tn i z.heap ∧ (∀ b ∈ fp, HH b = none) ∧ Wn i m HH := fun {z HZ} JZ nx => by
      obtain ⟨m2, hm, w2⟩ := hNx HZ nx
      have pin2 : ∀ b ∈ fp, ∀ o, v2.heap.get? b = some o → z.heap.get? b = some o ∧ HZ b = none := fun b hb o e => by
        obtain ⟨z1, z2, _⟩ := JZ.pin (b, o) (List.mem_append_right _ (List.mem_append_right _ (mem_pinsAt hb e)))
        exact ⟨z1, z2⟩
      have len : (wipe σ (own.map (·.2))).length = σ3.length := by rw [← hw, wipe_length]
      have J0 := (JZ.unpinned (pins := [])).weak len fun j v e => by
        rw [← hw] at e
        exact (wipe_some e).1
      refine ⟨m2, hm, i + 1, HZ, J0, T.keep _ _ _ tY fun b hb o e => (pin2 b hb o e).1, fun b hb => ?_, w2⟩
      obtain ⟨o, e, _⟩ := T.obj _ _ tY b hb
      exact (pin2 b hb o e).2
    dsimp only at qB ⊢
    by_cases hb : b = true
    · rw [if_pos hb] at qB ⊢
      refine wpAny_mono (pe.run _ v4 σ3 HB _ (JB.wish _) qB) (fun z v5 ⟨zv, HC, JC, rz, acc, eD, hz, nx⟩ => ?_) fun u t xx => esc u t xx
      exact app_ok (X := X.blk s3 H3 scope ce fp) JC.unwish eD hz rz fun v6 J6 => next J6 nx
    · rw [if_neg hb] at qB ⊢
      exact next JB qB
end
section
variable {X : Cx} {T : List (Addr × Str)} {I : Nat → Bool} {W : WX} {elt tg iter : Expr} {ifs : List Expr} {scope : Scope} {own : List (Str × Nat)} {mi : M (List PV)} {g : MG} {mc : M Bool} {me : M PV} {pos : Pos}
/-- what a comprehension's parts promise -/
structure VL (X : Cx) (T : List (Addr × Str)) (W : WX) (elt tg iter : Expr) (ifs : List Expr) (scope : Scope) (own : List (Str × Nat)) (m : M OV) : Prop where
  ex : ∃ mi g mc me, m = mComp (own.map (·.2)) mi g mc me ∧ VI X T W tg iter mi ∧ BlkOk X.N X.env.scope scope own ∧
    (∀ (s : Shared) (H : Hp) (C : Addr) (cl : List (Str × Addr)) (fp : List Addr), VG (X.blk s H scope (compEnvC scope cl C X.env) fp) T (offs own) tg g) ∧
    (∀ (s : Shared) (H : Hp) (C : Addr) (cl : List (Str × Addr)) (fp : List Addr), VTs (X.blk s H scope (compEnvC scope cl C X.env) fp) T W0 ifs mc) ∧
    (∀ (s : Shared) (H : Hp) (C : Addr) (cl : List (Str × Addr)) (fp : List Addr) (xe : Value → Shared → Prop) (W' : WX), TK (blkX X s H scope (compEnvC scope cl C X.env) fp xe) W' → VE (blkX X s H scope (compEnvC scope cl C X.env) fp xe) T W' elt me) ∧
    ∀ x, foldedSetIterable iter X.env x = pure x
theorem vl_mk (hi : VI X T W tg iter mi) (ok : BlkOk X.N X.env.scope scope own)
    (hg : ∀ (s : Shared) (H : Hp) (C : Addr) (cl : List (Str × Addr)) (fp : List Addr), VG (X.blk s H scope (compEnvC scope cl C X.env) fp) T (offs own) tg g)
    (ht : ∀ (s : Shared) (H : Hp) (C : Addr) (cl : List (Str × Addr)) (fp : List Addr), VTs (X.blk s H scope (compEnvC scope cl C X.env) fp) T W0 ifs mc)
    (he : ∀ (s : Shared) (H : Hp) (C : Addr) (cl : List (Str × Addr)) (fp : List Addr) (xe : Value → Shared → Prop) (W' : WX), TK (blkX X s H scope (compEnvC scope cl C X.env) fp xe) W' → VE (blkX X s H scope (compEnvC scope cl C X.env) fp xe) T W' elt me)
    (hs : ∀ x, foldedSetIterable iter X.env x = pure x := by intro _; rfl) : VL X T W elt tg iter ifs scope own (mComp (own.map (·.2)) mi g mc me) := ⟨mi, g, mc, me, rfl, hi, ok, hg, ht, he, hs⟩
theorem vo_comp {m : M OV} (hc : X.calm = true) (hN : X.N.Nodup) (tk : TK X W) (l : VL X T W elt tg iter ifs scope own m) : VO X T W (.ListComp elt [⟨tg, iter, ifs, 0⟩] scope pos) m := by
  obtain ⟨mi, g, mc, me, rfl, hi, ok, hg, ht, he, hs⟩ := l.ex
  refine ⟨⟨fun pins s σ H Q J q => ?_⟩⟩
  rw [eval_ListComp]
  refine comp_core (te := fun W' => tG X.K X.mg T (RV X.K X.mg) W' me) hc hN J tk hi.pi ok (fun s H C cl fp => (hg s H C cl fp).pg) (fun s H C cl fp => (ht s H C cl fp).pt)
    (fun s H C cl fp xe W' k => (he s H C cl fp xe W' k).pe) hs (comp_imp q) fun D ce t m H' J2 qq hn f => ⟨m, hn, fun g2 sb => ?_⟩
  obtain ⟨f0, f1, f2, f3, f4, f5⟩ := f
  exact ⟨.ref D, H', J2.turned (t' := t.toks) (fun b o hb e => (sb.2 b hb).trans e) f0 f1 f3 f4 f5, rfl, qq⟩
/-- name = [..], on one line -/
theorem vs_setLcO {m : M OV} {i : Nat} {y : Str} {py spos : Pos} (hc : X.calm = true) (hN : X.N.Nodup) (tk : TK X W) (l : VL X T W elt tg iter ifs scope own m) (hy : X.N[i]? = some y) (hyl : X.env.scope.names.lookup y = some .local) (hI : I i = false)
    (hsw : swapsWith (.ListComp elt [⟨tg, iter, ifs, 0⟩] scope pos) (some (.Name y py)) spos.line X.env = pure true) :
    VS X T I W (.Assign [.Name y py] (.ListComp elt [⟨tg, iter, ifs, 0⟩] scope pos) spos) (mSetO i m) := by
  obtain ⟨mi, g, mc, me, em, hi, ok, hg, ht, he, hs⟩ := l.ex
  refine ⟨⟨fun pins s σ H D J q => ?_⟩⟩
  rw [exec_Assign_Name_used _ _ _ _ hsw]
  refine wpAny_bind (wpAny_standAt (wpAny_bind ?_))
  show wpAny _ X.A (do let _ ← comprehension (.ListComp elt [⟨tg, iter, ifs, 0⟩] scope pos) scope X.env (firstIterPos [⟨tg, iter, ifs, 0⟩] pos) (newList []) false (eval iter X.env) (some (assign (.Name y py) X.env))) _ _ s
  have h : tLc (tG X.K X.mg T (RI X.K X.mg) W mi) (tGt X.K X.mg T (offs own) g) (tG X.K X.mg T RB W0 mc) (tG X.K X.mg T (RV X.K X.mg) (fun cls d _ H => W cls d σ H) me) (own.map (·.2)) σ H (fun x H1 => gName i x σ H1 D.nx) := by
    refine comp_imp (W := W) (mi := mi) (g := g) (mc := mc) (me := me) ?_
    rw [em] at q
    obtain ⟨ρ, w, rfl, E, q⟩ := q
    refine ⟨ρ, w, rfl, E, ?_⟩
    unfold mSetO sThen at q
    cases e : mComp (own.map (·.2)) mi g mc me ρ with
    | bad => rw [e] at q; exact q
    | err x ρ' => rw [e] at q; exact fun cls d w' x' E' r => q cls d σ w' x' E' (Keep.refl _) r
    | ok o ρ' =>
      rw [e] at q
      intro a S w' x E' r d f
      obtain ⟨S', E2, hS⟩ := E'.setOw' i r d
      refine q _ ⟨w'.G, w'.H, S'⟩ ⟨x.g, x.h, x.dom, x.ng, fun y hy => ?_⟩ E2 (Keep.set hI)
      rcases hS y hy with z | z
      · exact .inr (f y z)
      · exact x.ns y z
  refine wpAny_bind (thn (comp_core (te := fun W' => tG X.K X.mg T (RV X.K X.mg) W' me) (Qf := fun _ t => SP X pins D .next t) hc hN J tk hi.pi ok (fun s H C cl fp => (hg s H C cl fp).pg) (fun s H C cl fp => (ht s H C cl fp).pt)
    (fun s H C cl fp xe W' k => (he s H C cl fp xe W' k).pe) hs h fun L ce t m H' J2 qq hn f => ?_) fun _ t z => wpAny_pure (wpAny_pure z))
  show wpAny _ _ (assign (.Name y py) X.env (.ref L)) _ _ _
  obtain ⟨f0, f1, f2, f3, f4, f5⟩ := f
  refine wpAny_assign_Name (store_ok2 (v := V.ref L) J2 hN hy (.inl hyl) rfl (fun t2 J3 ⟨a, sb, ha⟩ => ?_) (.inr hyl))
  have ne : ce.locals ≠ a := fun z => ha.elim (fun z2 => f1 (z.trans z2)) fun z2 => f4 y a z2 z.symm
  refine ⟨m, hn.sameBut sb ne, fun g2 sb2 => ?_⟩
  exact ⟨_, H', J3.turned (t' := t2.toks) (fun b o hb e => (sb2.2 b hb).trans e) f0 f1 f3 f4 f5, qq⟩
end
end VS

set_option Elab.async false
set_option linter.all false
set_option maxRecDepth 100000
set_option maxHeartbeats 1000000
namespace VS
open PySem PySem.Spec PyProof.Rows L2

/-! ### a caught exception in hand -/
/-- the exception's object at a stands: its own dict, its class's name -/
structure ExAt (X : Cx) (a : Addr) (d : Option Addr) (C : Str) : Prop where
  ex : ∃ oe c, (a, oe) ∈ X.pn ∧ Zc (.ref c) d oe ∧ X.mg C = some (.ref c) ∧ ∃ vs, oe.data = .fields vs
/-- what the class at c must say -/
structure ExK (K : Frag) (c : Addr) : Prop where
  cl : (PySem.W.clsIn K c).isSome = true
  ga : PySem.W.findIn K (.ref c) "__getattribute__" = some (some (.builtin "BaseException.__getattribute__"))
  gt : PySem.W.findIn K (.ref c) "__getattr__" = some none
  sb : PySem.W.subIn K (.ref c) (.type "BaseException") = some true
  hd : PySem.W.hasDictIn K c = true
  ha : PySem.W.findIn K (.ref c) "__class__" = some (some (.builtin "object.__class__"))
  hn : PySem.W.specialIn K (.builtin "object.__class__") "__get__" = some (some (.builtin "getset_descriptor.__get__"))
  tk : PySem.W.takesIn K (.builtin "object.__class__") = some true
  hm : PySem.W.mroIn K c (.type "object") = some true
def exkB (K : Frag) (c : Addr) : Bool :=
  (PySem.W.clsIn K c).isSome && decide (PySem.W.findIn K (.ref c) "__getattribute__" = some (some (.builtin "BaseException.__getattribute__"))) && decide (PySem.W.findIn K (.ref c) "__getattr__" = some none) &&
  decide (PySem.W.subIn K (.ref c) (.type "BaseException") = some true) && PySem.W.hasDictIn K c && decide (PySem.W.findIn K (.ref c) "__class__" = some (some (.builtin "object.__class__"))) &&
  decide (PySem.W.specialIn K (.builtin "object.__class__") "__get__" = some (some (.builtin "getset_descriptor.__get__"))) && decide (PySem.W.takesIn K (.builtin "object.__class__") = some true) && decide (PySem.W.mroIn K c (.type "object") = some true)
theorem exk_by {K : Frag} {c : Addr} (h : exkB K c = true) : ExK K c := by
  unfold exkB at h
  simp only [Bool.and_eq_true, decide_eq_true_eq] at h
  obtain ⟨⟨⟨⟨⟨⟨⟨⟨h1, h2⟩, h3⟩, h4⟩, h5⟩, h6⟩, h7⟩, h8⟩, h9⟩ := h
  exact ⟨h1, h2, h3, h4, h5, h6, h7, h8, h9⟩
def pIsX (a : Addr) (d : Option Addr) (C : Str) (sub : PV → Option Bool) : List PV → Option PV
  | [.exc a' d' C' _ _, D] => if a' = a ∧ d' = d ∧ C' = C then (sub D).map .bl else none
  | _ => none
/-- what sub must be -/
def SubOk (K : Frag) (mg : Str → Option Value) (C : Str) (sub : PV → Option Bool) : Prop := ∀ c, mg C = some (.ref c) → ∀ D b, sub D = some b → ExK K c ∧
  ((∃ x g, D = .glob x ∧ mg x = some (.ref g) ∧ PySem.W.kitOne K (.ref c) (.ref g) = some b) ∨ ∃ n, D = .ty n ∧ PySem.W.kitOne K (.ref c) (.type n) = some b)
section
variable {X : Cx} {a : Addr} {d : Option Addr} {C : Str}
theorem inst_at {pins : List (Addr × Obj)} {σ : St} {H : Hp} {s : Shared} (J : Inv X pins σ H s) {oe : Obj} {c : Addr} (hp : (a, oe) ∈ X.pn) (hz : Zc (.ref c) d oe) (hf : ∃ vs, oe.data = .fields vs) (hd : ∀ dd, d = some dd → ∃ fs, H dd = some (.xd fs)) :
    ∃ od, PySem.W.InstAt s.heap a oe c od := by
  obtain ⟨hget, _⟩ := J.pin (a, oe) (List.mem_append_left _ hp)
  obtain ⟨vs, hv⟩ := hf
  cases d with
  | none =>
    refine ⟨none, ?_⟩
    obtain ⟨oc, od, oda, osl⟩ := oe
    obtain ⟨h1, h2⟩ := hz
    dsimp only at h1 h2 hv
    subst h1 h2 hv
    exact ⟨hget, rfl, rfl, trivial⟩
  | some dd =>
    obtain ⟨fs, e⟩ := hd dd rfl
    obtain ⟨mA, hns, hr⟩ := (show ObjOk X.prog X.w H s.heap dd (.xd fs) from J.hok dd _ e)
    obtain ⟨od, ho, hl⟩ := lookIn_ns hns
    exact ⟨some od, hget, hz.1, by unfold PySem.W.notCls; rw [hv] <;> rfl, by rw [hz.2]; exact ho⟩
theorem c_isX {sub : PV → Option Bool} (hE : ExAt X a d C) (hs : SubOk X.K X.mg C sub) : CallR X (.builtin "isinstance") (rPL X.K X.mg (pIsX a d C sub)) := by
  intro pins s σ H xs us Q J r h
  obtain ⟨G, ps, pz, f, hx, e, k⟩ := h
  obtain ⟨oe, c, hp, hz, hm, hf⟩ := hE.ex
  unfold pIsX at e
  split at e
  · rename_i a' d' C' ks vs' D
    split at e
    · rename_i heq
      obtain ⟨h1, h2, h3⟩ := heq
      subst h1 h2 h3
      obtain ⟨v, rr, rfl, r1, v2, rr2, rfl, r2, r3⟩ := hx
      cases r3
      cases e1 : sub D with
      | none => rw [e1] at e; cases e
      | some b =>
        rw [e1] at e
        cases e
        obtain ⟨TK, hs2⟩ := hs c hm D b e1
        obtain ⟨rfl, c2, hm2, rest⟩ := r1
        obtain ⟨od, IA⟩ := inst_at J hp hz hf fun dd ed => by
          rcases rest with ⟨_, z⟩ | ⟨dd2, fs, z, hG, _⟩
          · rw [ed] at z; cases z
          · rw [ed] at z; cases z
            exact ⟨fs, f.sub _ _ hG⟩
        obtain ⟨u1, u2, rfl, q1, q2⟩ := vals2 r
        cases (show u1 = Value.ref a' from q1)
        have Z := PySem.W.kitx_exc (x := a') (ox := oe) (od := od) TK.cl TK.ga TK.gt TK.sb TK.ha TK.hn TK.tk TK.hm
        rcases hs2 with ⟨x, g, rfl, hg, hk⟩ | ⟨n, rfl, hk⟩
        · obtain ⟨g2, hg2, rfl⟩ := r2
          rw [hg] at hg2
          cases hg2
          cases (show u2 = Value.ref g from q2)
          exact PySem.W.kia_one Z J.kIn IA hk (fun z => nomatch z) fun tk => ⟨.bl b, H, J.kept (t' := tk) fun _ _ z => z, rfl, k.here f rfl⟩
        · cases r2
          cases (show u2 = Value.type n from q2)
          exact PySem.W.kia_one Z J.kIn IA hk (fun z => nomatch z) fun tk => ⟨.bl b, H, J.kept (t' := tk) fun _ _ z => z, rfl, k.here f rfl⟩
    · cases e
  · cases e
/-- e.f -/
def lookP (ks : List Str) (vs : List PV) (f : Str) : Option PV := (ks.zip vs).lookup f
def pFldX (a : Addr) (d : Option Addr) (C C0 f : Str) : PV → Option PV
  | .exc a' d' C' ks vs => if a' = a ∧ d' = d ∧ C' = C ∧ ks ≠ [] ∧ C = C0 then lookP ks vs f else none
  | _ => none
theorem look_rep {K : Frag} {mg : Str → Option Value} {G : Hp} {f : Str} {p : PV} : ∀ {fs : List (Str × V)} {ks : List Str} {vs : List PV}, fs.map (·.1) = ks → Reps K mg G vs (fs.map (·.2)) → lookP ks vs f = some p → ∃ v, fs.lookup f = some v ∧ Rep K mg G p v
  | [], _, _, rfl, r, e => by simp [lookP] at e
  | (k, v) :: fs, _, [], rfl, r, e => by simp [lookP] at e
  | (k, v) :: fs, _, q :: vs, rfl, ⟨v', rr, e1, r1, r2⟩, e => by
    simp only [List.map_cons, List.cons.injEq] at e1
    obtain ⟨rfl, rfl⟩ := e1
    unfold lookP at e
    simp only [List.map_cons, List.zip_cons_cons, List.lookup_cons] at e ⊢
    cases hb : f == k with
    | true => rw [hb] at e; cases e; exact ⟨v, rfl, r1⟩
    | false => rw [hb] at e; exact look_rep rfl r2 e
theorem ve_fldX {T : List (Addr × Str)} {W : WX} {e : Expr} {n : Str} {pos : Pos} {me : M PV} {C0 : Str} (hE : ExAt X a d C) (hC : ∀ c, X.mg C0 = some (.ref c) → XfC X.K c ∧ PySem.W.findIn X.K (.ref c) n = some none) (he : VE X T W e me)
    (hb : attributeBase e n X.env (eval e X.env) = eval e X.env := by rfl) : VE X T W (.Attribute e n pos) (mOp1 (pFldX a d C C0 n) me) := by
  refine ⟨⟨fun pins s σ H Q J h => ?_⟩⟩
  obtain ⟨oe, c, hp, hz, hm, hf⟩ := hE.ex
  have q := tG_step (P := fun v H1 => ∃ G px pz, Fz G H1 ∧ Rep X.K X.mg G px v ∧ pFldX a d C C0 n px = some pz ∧ Done X.K X.mg G H1 pz Q) h fun pa ρ1 x w1 E1 r1 q1 => by
    obtain ⟨z, e, q2⟩ := tK_lift q1
    exact ⟨w1.G, pa, z, E1.fz, r1, e, E1.done q2⟩
  refine attr_of hb (thn (he.pe.run pins s σ H _ J q) fun u s1 ⟨v, H1, J1, rv, G, px, pz, f, rp, e, k⟩ => ?_)
  unfold pFldX at e
  split at e
  · rename_i a' d' C' ks vs
    split at e
    · rename_i heq
      obtain ⟨h1, h2, h3, h4, h5⟩ := heq
      obtain ⟨TK, hno⟩ := hC c (by rw [← h5]; exact hm)
      subst h1 h2 h3
      obtain ⟨rfl, c2, hm2, rest⟩ := rp
      rcases rest with ⟨z, _⟩ | ⟨dd, fs, rfl, hG, ek, rs⟩
      · exact (h4 z).elim
      · obtain ⟨w, hw, rw'⟩ := look_rep ek rs e
        obtain ⟨ha, _⟩ := J1.pin (a', oe) (List.mem_append_left _ hp)
        obtain ⟨dv, hd⟩ := hf
        obtain ⟨mA, hns, hr⟩ := (show ObjOk X.prog X.w H1 s1.heap dd (.xd fs) from J1.hok dd _ (f.sub _ _ hG))
        obtain ⟨od, ho, hl⟩ := lookIn_ns hns
        obtain ⟨uu, hu, ru⟩ := RelO.some_of (v := w) (o := mA n) (by rw [← hw]; exact hr n)
        cases (show u = Value.ref a' from rv)
        have IA : PySem.W.InstAt s1.heap a' oe c (some od) := ⟨ha, hz.1, by unfold PySem.W.notCls; rw [hd] <;> rfl, by rw [hz.2]; exact ho⟩
        exact PySem.HandSPX.exc_get J1.kIn IA TK.ga TK.gg TK.exC (PySem.W.findObj_own TK.hdC hno rfl (by rw [hl, hu])) (handed_of ru) ⟨w, H1, J1.tok _, ru, k.here f rw'⟩
    · cases e
  · cases e
end

/-! ### a def that gets the caught exception -/
structure FnE (P : Program) (w : World) (K : Frag) (mg : Str → Option Value) (base : Heap) (CX : CXT) (k : Nat) (f : Addr) (fd : FuncData) (ps : List Str) (sp : Addr × Obj → Sp) : Prop where
  len : ∀ p vs H Q E, sp p vs H Q E → vs.length = ps.length
  run : ∀ (A : Around) (outer : List Env) (s : Shared) (H : Hp) (args : Args) (us : List Value) (vs : List V) (Q : VK) (E : XK) (p : Addr × Obj), L2H.RoomH k A → L2H.PinOk outer H s p → Env0 P w K mg base A outer s H → BindsTo s fd args (ps.zip us) → Vals vs us → sp p vs H Q E →
    codeAny (model P w) A (.call (.ref f) args) (CR CX outer P w H s Q E) s
theorem fnE_of {CX : CXT} {P : Program} {w : World} {K : Frag} {mg : Str → Option Value} {base : Heap} {x qual : Str} {st : Stmt} {f : Addr} {fd : FuncData} {N ps : List Str} {k : Nat} {sp : Addr × Obj → Sp} (F : L2.Fun K x qual st f fd) (S : FnScope N ps (defScope st))
    (len : ∀ p vs H Q E, sp p vs H Q E → vs.length = ps.length)
    (hb : ∀ (cdv : Value) (A : Around) (outer : List Env) (s : Shared) (H : Hp) (vs : List V) (Q : VK) (E : XK) (p : Addr × Obj), L2H.RoomH k (A.deeper (envOfC qual (defScope st) s.heap.objs.size f cdv)) → sp p vs H Q E →
      ∃ t, PSs (L2H.cxH CX P w K mg base N qual (defScope st) f cdv A outer s H E p) (defBody st) t ∧ t { nx := fun _ H' => Q .non H', rt := Q } (L2.start N vs) H) : FnE P w K mg base CX (k + 1) f fd ps sp := by
  obtain ⟨oc, od, kV, doc, pm, an, cdv, ct, osl, rfl, lk, hcd⟩ := F.ex
  refine ⟨len, fun A outer s H args us vs Q E p hr hp e0 bd r h => ?_⟩
  have inK : K.In s.heap := e0.mod.kin.keeps fun b o e => (e0.bs b o e).1
  have nolim : s.heap.NoLimit := e0.mod.nolimit.keeps fun b o e => (e0.bs b o e).1
  have kinds : ∀ y ∈ ps.zip us, (defScope st).names.lookup y.1 = some .local ∨ ((defScope st).names.lookup y.1 = some .cell ∧ ((cellsFrom (s.heap.objs.size + 1) (defScope st).names []).lookup y.1).isSome = true) := fun ⟨n, v⟩ hy =>
    (S.par n (List.of_mem_zip hy).1).imp id fun q => ⟨q, PySem.W.cellsFrom_some _ _ _ (.inl q)⟩
  refine codeAny_call_function hr.depth (inK _ _ lk) rfl S.co S.gen rfl (PySem.W.codeRec_of inK hcd) (bd _ _ _ _ ?_)
  refine wpAny_newFunctionEnv_cells S.kind kinds fun env he s1 x => ?_
  subst he
  refine ⟨nolim.keeps x.toInCall.keep, codeAny_func ?_⟩
  obtain ⟨t, ht, hq⟩ := hb cdv A outer s H vs Q E p (hr.deeper _) h
  have J := L2H.inv_startH (CX := CX) (E := E) (K := K) (mg := mg) (base := base) S hp e0 (len _ _ _ _ _ h) r x
  refine wpAny_mono (ht.run [] s1 (L2.start N vs) H _ J hq) (fun fl s' hs => ?_) fun e s' hs => hs
  have done : ∀ {σ' : St} {H' : Hp} {v : V} {u : Value}, Inv (L2H.cxH CX P w K mg base N qual (defScope st) f cdv A outer s H E p) [] σ' H' s' → L2.RelV v u → Q v H' → CE outer P w H s Q u s' := fun {σ' H' v u} JJ rv q =>
    ⟨v, H', JJ.os, JJ.bare, JJ.base, JJ.hok, rv, q⟩
  cases fl with
  | ret u => obtain ⟨v, σ', H', JJ, rv, q⟩ := hs; exact done JJ rv q
  | next => obtain ⟨σ', H', JJ, q⟩ := hs; exact done (v := V.non) (u := Value.none) JJ rfl q
  | brk => obtain ⟨_, _, _, q⟩ := hs; exact q.elim
  | cont => obtain ⟨_, _, _, q⟩ := hs; exact q.elim
/-- by a mirror that is told the exception -/
def spE (K : Frag) (mg : Str → Option Value) (T : List (Addr × Str)) (n : Nat) (mf : Addr → Option Addr → Str → M PV) (p : Addr × Obj) : Sp := fun vs H Q E =>
  ∃ d C c, Zc (.ref c) d p.2 ∧ mg C = some (.ref c) ∧ (∃ vs, p.2.data = .fields vs) ∧ spV K mg T n (mf p.1 d C) vs H Q E
theorem fn_okE {P : Program} {w : World} {K : Frag} {mg : Str → Option Value} {base : Heap} {T : List (Addr × Str)} {x qual : Str} {st : Stmt} {f : Addr} {fd : FuncData} {N ps : List Str} {k : Nat} {I : Nat → Bool} {mb : Addr → Option Addr → Str → MS} (F : L2.Fun K x qual st f fd) (S : FnScope N ps (defScope st))
    (hb : ∀ (cdv : Value) (A : Around) (outer : List Env) (s : Shared) (H : Hp) (E : XK) (p : Addr × Obj) (d : Option Addr) (C : Str), L2H.RoomH k (A.deeper (envOfC qual (defScope st) s.heap.objs.size f cdv)) → ExAt (L2H.cxH (L2.CX P w) P w K mg base N qual (defScope st) f cdv A outer s H E p) p.1 d C →
      VSs (L2H.cxH (L2.CX P w) P w K mg base N qual (defScope st) f cdv A outer s H E p) T I (WF E) (defBody st) (mb p.1 d C)) :
    FnE P w K mg base (L2.CX P w) (k + 1) f fd ps (spE K mg T ps.length fun a d C => fnM N.length ps.length I (mb a d C)) := by
  refine fnE_of F S (fun p vs H Q E ⟨d, C, c, _, _, _, h⟩ => h.1) fun cdv A outer s H vs Q E p hr ⟨d, C, c, hz, hm, hf, h⟩ => ?_
  exact ⟨_, (hb cdv A outer s H E p d C hr ⟨p.2, c, List.mem_cons_self, hz, hm, hf⟩).ps, body_ok h⟩
section
variable {X : Cx} {T : List (Addr × Str)} {W : WX} {a : Addr} {d : Option Addr} {C : Str} {e : Expr} {es : List Expr} {ms : M (List Arg)} {pos : Pos}
theorem ve_callE {k n : Nat} {f : Addr} {fd : FuncData} {ps : List Str} {x : Str} {p : Pos} {mf : Addr → Option Addr → Str → M PV} (hE : ExAt X a d C) (F : FnE X.prog X.w X.K X.mg X.base (L2.CX X.prog X.w) k f fd ps (spE X.K X.mg T n mf)) (hr : L2H.RoomH k X.A) (hg : Gl X x) (hm : X.mg x = some (.ref f))
    (hk : PySem.W.keepIn X.K (.ref f) = true) (hb : Binds X.K fd ps []) (tk : ∀ σ, PassesAt (L2.CX X.prog X.w) X σ (WE W σ)) (ha : VAs X T W (e :: es) ms) (hn : (e :: es).length = n := by rfl) (hdb : (x == ("__debug__" : Str)) = false := by decide)
    (he : starEach (e :: es) X.env = (false, eval e X.env) :: starEach es X.env := by rfl) (hpl : (backTo pos (starEach es X.env)).any (·.1) = false := by rfl) : VE X T W (.Call (.Name x p) (e :: es) [] pos) (mCall (mf a d C) ms) := by
  refine ⟨⟨fun pins s σ H Q J q => ?_⟩⟩
  obtain ⟨oe, c, hp, hz, hmC, hf⟩ := hE.ex
  have q2 : tG X.K X.mg T (RArgs X.K X.mg σ) W ms σ H fun vs H1 => spV X.K X.mg T n (mf a d C) vs H1 Q (WE W σ) := by
    obtain ⟨ρ, w, rfl, E, q⟩ := q
    refine ⟨ρ, w, rfl, E, ?_⟩
    unfold mCall M.bind at q
    cases em : ms ρ with
    | bad => rw [em] at q; exact q
    | err x ρ' => rw [em] at q; exact q
    | ok as ρ' =>
      rw [em] at q
      intro vs w1 x1 E1 ra
      exact sp_of E1 ra ((ha.len _ _ _ em).trans hn) (q.mono x1)
  refine wpAny_Call_Name_kw (ld_glob J hg hm ?_ hdb)
  refine PySem.W.callWith_K (h₀ := X.base) J.ok.mod.kin hk (thn (ha.pa.run pos pins s σ H _ J q2) fun us s1 ⟨vs, H1, J1, r, q3⟩ => ⟨J1.kIn, ?_⟩) he hpl
  have sp : spE X.K X.mg T n mf (a, oe) vs H1 Q (WE W σ) := ⟨d, C, c, hz, hmC, hf, q3⟩
  have hl : us.length = ps.length := by rw [← r.length]; exact F.len _ _ _ _ _ sp
  have bd := hb s1 us J1.kIn (by rw [List.append_nil]; exact hl)
  rw [List.append_nil] at bd
  obtain ⟨p1, p2, p3, p4, p5⟩ := J1.pin (a, oe) (List.mem_append_left _ hp)
  have pk : L2H.PinOk X.stack H1 s1 (a, oe) := ⟨p1, p2, fun z => (List.mem_cons.mp (J1.stkSub a z)).elim p3 p4, p5⟩
  refine wpAny_call (codeAny_mono (F.run X.A X.stack s1 H1 ⟨us, []⟩ us vs Q (WE W σ) (a, oe) hr pk J1.env0 bd r sp) fun r2 s2 hq => ?_)
  cases r2 with
  | error x => exact tk σ pins H1 s1 x s2 J1 hq
  | ok fl =>
    cases fl with
    | ret u => exact J1.after hq
    | next => exact hq.elim
    | brk => exact hq.elim
    | cont => exact hq.elim
theorem pass0x {X : Cx} (σ : St) : PassesAt (L2.CX X.prog X.w) X σ (WE W0 σ) := fun pins H s e t J c => by
  obtain ⟨_, _, _, _, _, _, _, _, _, _, _, _, z⟩ := c
  exact z.elim
end
end VS

set_option Elab.async false
set_option linter.all false
set_option maxRecDepth 100000
set_option maxHeartbeats 1000000
namespace VS
open PySem PySem.Spec PyProof.Rows L2 LamX

/-! ### told(lambda: body): the lambda is called, an exception is told -/
section
variable {K : Frag} {mg : Str → Option Value} {T : List (Addr × Str)} {w : Wo} {σ : St} {ρ : PEnv}
/-- the tables' own growth -/
theorem Ev.tables (E : Ev K mg T w σ ρ) {H1 : Hp} (e : ExtN w.H H1) (t : Tabs T H1) (hd : ∀ a o, w.H a = some o → ∃ o', H1 a = some o') : Ev K mg T ⟨w.G, H1, w.S⟩ σ ρ ∧ Ext w ⟨w.G, H1, w.S⟩ := by
  obtain ⟨F, f1, f2, f3, f4⟩ := E.ex
  refine ⟨⟨fun a o h => e a o (E.sub a o h) (E.nt a o h), E.nt, fun a h => ?_, t, E.len, E.fr, F, f1, fun i o h => ?_, f3, f4⟩, Sub.refl _, fun a o h _ n => e a o h n, hd, fun _ _ h => .inl h, fun _ h => .inl h⟩
  · obtain ⟨o, h1, h2⟩ := E.sn a h
    exact ⟨o, e a o h1 h2, h2⟩
  · obtain ⟨a, hv, r⟩ := f2 i o h
    refine ⟨a, hv, r.mono (Sub.refl _) (fun x hx => (r.free.2 x hx).1) fun x u hx hu => ?_⟩
    obtain ⟨_, o2, h2, h3⟩ := r.free.2 x hx
    rw [hu] at h2; cases h2
    exact e x u hu h3
/-- no slot is owned: another frame's slots, of frozen values -/
theorem Ev.frame {σ2 : St} {ρ2 : PEnv} (E : Ev K mg T w [] []) (hl : σ2.length = ρ2.length) (hf : ∀ (i : Nat) p, ρ2[i]? = some (.fr p) → ∃ v, σ2[i]? = some (some v) ∧ Rep K mg w.G p v) (ho : ∀ (i : Nat) o, ρ2[i]? ≠ some (.ow o)) : Ev K mg T w σ2 ρ2 := by
  obtain ⟨F, f1, f2, f3, f4⟩ := E.ex
  have nF : ∀ i x, ¬ F i x := fun i x h => by
    obtain ⟨o, z⟩ := f4 i x h
    simp at z
  exact ⟨E.sub, E.nt, E.sn, E.tab, hl, hf, F, f1, fun i o z => (ho i o z).elim, f3, fun i x h => (nF i x h).elim⟩
theorem Ev.bare (E : Ev K mg T w σ ρ) : Ev K mg T ⟨w.G, w.H, fun _ => False⟩ [] [] :=
  ⟨E.sub, E.nt, fun _ h => h.elim, E.tab, rfl, fun i p h => by simp at h, fun _ _ => False, fun x => ⟨fun h => h.elim, fun ⟨_, h⟩ => h⟩, fun i o h => by simp at h, fun _ _ _ h => h.elim, fun _ _ h => h.elim⟩
end
theorem tS_ends {K : Frag} {mg : Str → Option Value} {T : List (Addr × Str)} {I : Nat → Bool} {W : WX} {m : MS} {D D' : Ends} {σ : St} {H : Hp} (h : tS K mg T I W m D σ H) (h1 : ∀ s t, D.nx s t → D'.nx s t) (h2 : ∀ s t, D.rt s t → D'.rt s t) (h3 : ∀ s t, D.bk s t → D'.bk s t) (h4 : ∀ s t, D.ct s t → D'.ct s t) : tS K mg T I W m D' σ H := by
  obtain ⟨ρ, w, e, E, q⟩ := h
  refine ⟨ρ, w, e, E, ?_⟩
  cases hm : m ρ with
  | nx ρ' => rw [hm] at q; exact fun s w' x E' k => h1 _ _ (q s w' x E' k)
  | rt p ρ' => rw [hm] at q; exact fun v s w' x E' k r => h2 _ _ (q v s w' x E' k r)
  | bk ρ' => rw [hm] at q; exact fun s w' x E' k => h3 _ _ (q s w' x E' k)
  | ct ρ' => rw [hm] at q; exact fun s w' x E' k => h4 _ _ (q s w' x E' k)
  | err x ρ' => rw [hm] at q; exact q
  | bad => rw [hm] at q; exact q
section
variable {X : Cx} {pins : List (Addr × Obj)} {σ : L2.St} {H : Hp} {s : Shared}
/-- a lambda is made; every tracked place stays tracked -/
theorem lam_new {T : List (Addr × Str)} {c P : Addr} {params : Arguments} {body : Expr} {scope : Scope} {pos : Pos} {E : Value → Shared → Prop} {Q : Value → Shared → Prop} (I : Inv X pins σ H s) (TB : TabB X.base X.mg c P) (hcode : X.env.code = .ref c)
    (hm : (P, X.env.qual ++ "<lambda>") ∈ T) (hu : ∀ p ∈ T, p.1 = P → p.2 = X.env.qual ++ "<lambda>") (hT : Tabs T H) (hdef : defaultsOf params X.env = ([], [])) (free : ∀ y ∈ scope.names, y.2 = .free → ∃ c, X.env.cells.lookup y.1 = some c)
    (h : ∀ (f c' : Addr) (pm ctv : Value) (H1 : Hp) (t : Shared), Inv X pins σ H1 t → ExtN H H1 → (∀ a o, H a = some o → ∃ o', H1 a = some o') → Tabs T H1 →
      t.heap.get? f = some (PySem.W.kla_obj "<lambda>" (X.env.qual ++ "<lambda>") params body scope (cloFrom X.env.cells scope.names []) pm c' ctv) → H1 f = none → f ∉ frs X.stack → H1 c' = some (CodeO c' (X.env.qual ++ "<lambda>")) → Q (.ref f) t) :
    wpAny (model X.prog X.w) X.A (eval (.Lambda params body scope pos) X.env) Q E s := by
  obtain ⟨ps, e1, e2, e3⟩ := hT _ hm
  have inP : s.heap.BuiltinsAt X.mg P := TB.bm.keeps I.bk
  have atP : s.heap.get? P = some { cls := .none, data := .fields ps } := I.hok P _ e1
  have young : ∀ f, s.heap.objs.size ≤ f → f ∉ frs X.stack := fun f hf z => (List.mem_cons.mp (I.stkSub _ z)).elim (fun e => Nat.lt_irrefl _ (Nat.lt_of_lt_of_le I.lt (e ▸ hf))) fun e => I.nofs hf e
  refine PySem.W.kla_eval hdef ?_
  cases hc : codeAmong pos ps.toList with
  | some cv =>
    obtain ⟨c', rfl, hco⟩ := e3 pos cv hc
    refine PySem.W.kla_makeFunctionHit (mg := X.mg) (c := c) (P := P) (ps := ps) (closure_ok free) I.ok.glob (I.mod.glob.keeps I.bk) hcode (TB.code.keeps I.bk) atP e2 hc inP fun ctv g tk hx hsz => ?_
    refine h g.objs.size c' _ ctv H _ (I.kept (t' := tk) fun b o e => Heap.get?_push_of_some _ (hx b o e)) (ExtN.refl H) (fun a o e => ⟨o, e⟩) hT (Heap.get?_push_size _ rfl) (I.hok.fresh hsz) (young _ hsz) hco
  | none =>
    refine PySem.W.kla_makeFunction (mg := X.mg) (c := c) (P := P) (ps := ps) (closure_ok free) I.ok.glob (I.mod.glob.keeps I.bk) hcode (TB.code.keeps I.bk) atP e2 hc TB.gP inP fun c' ctv g tk hx hge hlt hrec htb => ?_
    obtain ⟨_, oc, vs, t, ec, hoc, hd, hv⟩ := hrec
    cases ec
    have big : s.heap.objs.size ≤ g.objs.size := Nat.le_trans hge (Nat.le_of_lt hlt)
    have nC : H c' = none := I.hok.fresh hge
    have nPc : P ≠ c' := ne_of_none e1 nC
    generalize hps : ps ++ #[rawInt pos.line, rawInt pos.col, .ref c'] = ps2
    have hpsL : ps2.toList = ps.toList ++ [rawInt pos.line, rawInt pos.col, .ref c'] := by rw [← hps]; simp
    have J := inv_table (t' := tk) (more := #[rawInt pos.line, rawInt pos.col, .ref c']) (h' := g.push (PySem.W.kla_obj "<lambda>" (X.env.qual ++ "<lambda>") params body scope (cloFrom X.env.cells scope.names []) ((X.mg "__name__").getD .none) c' ctv)) I e1
      (fun b o hb e => Heap.get?_push_of_some _ (hx b o hb e)) (Heap.get?_push_of_some _ htb) hge ⟨oc, vs, t, Heap.get?_push_of_some _ hoc, hd, hv⟩
    rw [hps] at J
    have stay : ExtN H (upd (upd H P (.tbl ps2)) c' (CodeO c' (X.env.qual ++ "<lambda>"))) := fun b o e n => by
      have hb : b ≠ P := fun z => n ps (Option.some.inj (e.symm.trans (by rw [z]; exact e1)))
      rw [upd_ne (ne_of_none e nC), upd_ne hb]; exact e
    refine h g.objs.size c' _ ctv _ _ J stay (fun b o e => ?_) (fun p hp => ?_) (Heap.get?_push_size _ rfl) ?_ (young _ big) upd_same
    · by_cases hb : b = P
      · rw [hb]; exact ⟨.tbl ps2, by rw [upd_ne nPc, upd_same]⟩
      · exact ⟨o, by rw [upd_ne (ne_of_none e nC), upd_ne hb]; exact e⟩
    · by_cases hb : p.1 = P
      · rw [hu p hp hb, hb]
        refine ⟨ps2, by rw [upd_ne nPc, upd_same], by rw [hpsL]; exact PySem.TriplesOk_snoc _ _ _ _ e2, fun p' cv hcv => ?_⟩
        rw [hpsL] at hcv
        rcases among_app _ e2 hcv with z | z
        · obtain ⟨c0, q1, q2⟩ := e3 p' cv z
          exact ⟨c0, q1, stay _ _ q2 codeO_ne⟩
        · exact ⟨c', z, upd_same⟩
      · obtain ⟨qs, a1, a2, a3⟩ := hT p hp
        refine ⟨qs, by rw [upd_ne (ne_of_none a1 nC), upd_ne hb]; exact a1, a2, fun p' cv hcv => ?_⟩
        obtain ⟨c0, q1, q2⟩ := a3 p' cv hcv
        exact ⟨c0, q1, stay _ _ q2 codeO_ne⟩
    · have n1 : g.objs.size ≠ c' := Nat.ne_of_gt hlt
      have n2 : g.objs.size ≠ P := Nat.ne_of_gt (Nat.lt_of_lt_of_le (Heap.lt_size atP) big)
      rw [upd_ne n1, upd_ne n2]
      exact I.hok.fresh big
end
/-- what the suite makes of an exception -/
structure Told (X : Cx) (CS : Addr) (mk : Exn → Option PV) (ms : Addr → Option Addr → Str → MS) : Prop where
  ex : ∀ x p, mk x = some p → ∀ c, X.mg x.C = some (.ref c) → PySem.W.exmOne X.K (.ref c) (.ref CS) = some true ∧ ∀ a d, ∃ ρ2, ms a d x.C [.no, .fr .non, .fr (.exc a d x.C x.ks x.vs)] = .nx ρ2 ∧ ρ2[1]? = some (.fr p)
def mTold (mk : Exn → Option PV) (m : M PV) : M PV := fun ρ => match m ρ with
  | .ok _ ρ' => .ok .non ρ'
  | .err x ρ' => (match mk x with
    | some p => .ok p ρ'
    | none => .bad)
  | .bad => .bad
section
variable {X : Cx} {pins : List (Addr × Obj)} {σ : L2.St} {H : Hp} {s : Shared}
/-- a(), in the def that got the lambda; the exceptions at that def's slots -/
theorem lam_act {CXg : CXT} {Eg : XK} {Ng : List Str} {qg : Str} {sg : Scope} {g f c' : Addr} {cdg pm ctv : Value} {params : Arguments} {body : Expr} {scope : Scope} {k i : Nat} {a : Str} {pn : List (Addr × Obj)} {xe : Value → Shared → Prop} {W : WX} {tb : XK → TE} {p1 p2 : Pos} (I : Inv X pins σ H s) (L : LamS X.env.scope scope)
    (of : s.heap.get? f = some (PySem.W.kla_obj "<lambda>" (X.env.qual ++ "<lambda>") params body scope (cloFrom X.env.cells scope.names []) pm c' ctv)) (nf : H f = none) (ff : f ∉ frs X.stack)
    (bd : bindArgs (PySem.W.kla_fn "<lambda>" (X.env.qual ++ "<lambda>") params body scope (cloFrom X.env.cells scope.names []) pm (.ref c') ctv) ⟨[], []⟩ = pure [])
    (tk : Takes ((cxOf CXg X.prog X.w X.K X.mg X.base Ng qg sg g cdg X.A X.stack s H Eg).tr pn xe) W) (hr : Room (k + 1) (X.A.deeper (envOfC qg sg s.heap.objs.size g cdg)))
    (hb : ∀ (A : Around) (outer : List Env) (s : Shared) (H : Hp) (E : XK), Room k (A.deeper (lamEnv X scope s.heap.objs.size f c')) → PE (lamCx X A outer s H E scope f c') body (tb E)) (hN : Ng[i]? = some a) (hv : Vis sg a) (hd : (a == ("__debug__" : Str)) = false) (hcd : (a == ("__classdict__" : Str)) = false) :
    PE ((cxOf CXg X.prog X.w X.K X.mg X.base Ng qg sg g cdg X.A X.stack s H Eg).tr pn xe) (.Call (.Name a p1) [] [] p2) fun σZ HZ Q => σZ[i]? = some (some (.ref f)) ∧ HZ c' = some (CodeO c' (X.env.qual ++ "<lambda>")) ∧ tb (WE W σZ) σ HZ Q := by
  refine ⟨fun pz sz σz Hz Q Iz ⟨hs, hc, ht⟩ => ?_⟩
  refine wpAny_Call_Name_kw (thn ((pe_var (pos := p1) hN hv hd hcd).run pz sz σz Hz (fun v H1 => v = .ref f ∧ H1 = Hz) Iz ⟨.ref f, hs, rfl, rfl⟩) fun u s1 ⟨v, H1, I1, r1, ev, eH⟩ => ?_)
  subst ev eH
  cases (show u = Value.ref f from r1)
  have of1 := I1.base.keep f _ of nf ff (fun z => nomatch (show f ∈ ([] : List Addr) from z))
  refine PySem.W.callWith_F0 ⟨_, _, _, _, of1⟩ ?_
  have un : Un (frs X.stack) [] H H1 s.heap s1.heap := I1.base
  obtain ⟨⟨oc, vs, t, hoc, hdc, hvc⟩, _, _⟩ := I1.hok c' _ hc
  have go : codeAny (model X.prog X.w) (X.A.deeper (envOfC qg sg s.heap.objs.size g cdg)) (.call (.ref f) ⟨[], []⟩) (CR (L2.CX X.prog X.w) (envOfC qg sg s.heap.objs.size g cdg :: X.stack) X.prog X.w H1 s1 Q (WE W σz)) s1 := by
    refine PySem.W.kla_callFunE hr.depth of1 rfl L.co L.gen rfl ⟨c', oc, vs, t, rfl, hoc, hdc, hvc⟩ ?_
    rw [bd]
    refine wpAny_pure (wpAny_newFunctionEnv (fun y hy => (L.own y hy).2) (fun y hy => nomatch hy) (fun h2 hns hsb => ⟨I1.nolimit.fresh _ hsb, ?_⟩) L.kind)
    show codeAny _ _ (.expr body (lamEnv X scope s1.heap.objs.size f c')) _ _
    have kp : ∀ b o, s1.heap.get? b = some o → h2.get? b = some o := fun b o e => hsb.extBut b o (Nat.ne_of_lt (Heap.lt_size e)) (Heap.get?_push_of_some _ e)
    have J := lam_start2 (A := X.A.deeper (envOfC qg sg s.heap.objs.size g cdg)) (outer := envOfC qg sg s.heap.objs.size g cdg :: X.stack) (E := WE W σz) (f := f) (c' := c') (h₁ := h2) (tk := s1.toks + ([] : List (Str × Value)).length) I L I1.env0 hr.hd un hns kp
    refine PySem.W.kla_codeExpr (wpAny_mono ((hb _ _ s1 H1 (WE W σz) (hr.deeper _)).run [] _ _ H1 Q J ht) (fun v s2 ⟨w', H2, J2, rv, q⟩ => ?_) fun e s2 hq => hq)
    exact ⟨w', H2, J2.os, J2.bare, J2.base, J2.hok, rv, q⟩
  refine wpAny_call (codeAny_mono go fun r s2 hq => ?_)
  cases r with
  | error e => exact passAt tk σz pz H1 s1 e s2 I1 hq
  | ok fl =>
    cases fl with
    | ret u => exact I1.after hq
    | next => exact hq.elim
    | brk => exact hq.elim
    | cont => exact hq.elim
/-- what the def that got the lambda makes of it -/
def Gets (X : Cx) (Ng : List Str) (x : Str) (sg : Scope) (g : Addr) (cdg : Value) (bg : List Stmt) (a q : Str) (TT : (XK → Hp → VK → Prop) → Hp → VK → Prop) : Prop :=
  ∀ (f c' : Addr) (s : Shared) (H : Hp) (Q : VK) (tl : XK → Hp → VK → Prop), Room 3 (X.A.deeper (envOfC x sg s.heap.objs.size g cdg)) →
    (∀ (W : WX) (pn : List (Addr × Obj)) (xe : Value → Shared → Prop) (p1 p2 : Pos), Takes ((cxOf C8.CX0 X.prog X.w X.K X.mg X.base Ng x sg g cdg X.A X.stack s H C8.E0).tr pn xe) W →
      PE ((cxOf C8.CX0 X.prog X.w X.K X.mg X.base Ng x sg g cdg X.A X.stack s H C8.E0).tr pn xe) (.Call (.Name a p1) [] [] p2) fun σz Hz Q => σz[0]? = some (some (.ref f)) ∧ Hz c' = some (CodeO c' q) ∧ tl (WE W σz) Hz Q) →
    H c' = some (CodeO c' q) → TT tl H Q → ∃ t, PSs (cxOf C8.CX0 X.prog X.w X.K X.mg X.base Ng x sg g cdg X.A X.stack s H C8.E0).nox bg t ∧ t { nx := fun _ H' => Q .non H', rt := Q } (L2.start Ng [.ref f]) H
theorem lam_call {X : Cx} {T : List (Addr × Str)} {TT : (XK → Hp → VK → Prop) → Hp → VK → Prop} {x a : Str} {g c P : Addr} {k : Nat} {pg : Arguments} {bg : List Stmt} {sg : Scope} {dV kV doc pm cdv ct oc : Value} {an od : Option Addr} {osl : Array (Option Value)} {Ng : List Str} {params : Arguments} {body : Expr} {scope : Scope} {t : XK → TE} {p lpos pos : Pos}
    (hg : Gl X x) (hm : X.mg x = some (.ref g)) (hk : PySem.W.keepIn X.K (.ref g) = true) (lk : X.K.lookup g = some ⟨oc, od, .func (PySem.W.fnOf x x pg bg sg dV kV doc pm an cdv ct), osl⟩) (hcg : PySem.W.codeIn X.K cdv x = true) (hb : L2.Binds X.K (PySem.W.fnOf x x pg bg sg dV kV doc pm an cdv ct) [a] [])
    (Sg : FnScope Ng [a] sg) (hNg : Ng[0]? = some a) (hva : Vis sg a) (hG : Gets X Ng x sg g cdv bg a (X.env.qual ++ "<lambda>") TT) (TB : TabB X.base X.mg c P) (hcode : X.env.code = .ref c) (hmT : (P, X.env.qual ++ "<lambda>") ∈ T) (hu : ∀ p ∈ T, p.1 = P → p.2 = X.env.qual ++ "<lambda>") (hr : Room (k + 2) X.A) (hk2 : 2 ≤ k)
    (L : LamS X.env.scope scope) (hdef : defaultsOf params X.env = ([], [])) (bd : ∀ (q : Str) (cl : List (Str × Addr)) (pm cv ctv : Value), bindArgs (PySem.W.kla_fn "<lambda>" q params body scope cl pm cv ctv) ⟨[], []⟩ = pure [])
    (body_ : ∀ (A : Around) (outer : List Env) (s : Shared) (H : Hp) (E : XK) (f c' : Addr), Room k (A.deeper (lamEnv X scope s.heap.objs.size f c')) → PE (lamCx X A outer s H E scope f c') body (t E)) (hdb : (x == ("__debug__" : Str)) = false) (hd : (a == ("__debug__" : Str)) = false) (hcd : (a == ("__classdict__" : Str)) = false) :
    PE X (.Call (.Name x p) [.Lambda params body scope lpos] [] pos) fun σ H Q => Tabs T H ∧ ∀ H1, ExtN H H1 → (∀ a o, H a = some o → ∃ o', H1 a = some o') → Tabs T H1 → TT (fun E H' Q' => t E σ H' Q') H1 Q := by
  refine ⟨fun pins s σ H Q I ⟨hT, h⟩ => ?_⟩
  refine wpAny_Call_Name_kw (ld_glob I hg hm ?_ hdb)
  refine PySem.W.callWith_K (h₀ := X.base) I.ok.mod.kin hk ?_ (by rfl) (by rfl)
  show wpAny _ _ (spliced ((false, eval (.Lambda params body scope lpos) X.env) :: backTo pos (starEach [] X.env))) _ _ s
  refine Calls.spliced_cons (lam_new I TB hcode hmT hu hT hdef (L.has I.ok) fun f c' pm' ctv H1 s1 I1 eN hdm T1 of nf ff hco => ?_)
  refine Calls.spliced_nil ⟨I1.kIn, ?_⟩
  have go : codeAny (model X.prog X.w) X.A (.call (.ref g) ⟨[.ref f], []⟩) (CR C8.CX0 X.stack X.prog X.w H1 s1 Q C8.E0) s1 := by
    refine run_ofS (N := Ng) (ps := [a]) (us := [.ref f]) (vs := [.ref f]) lk hcg Sg hr I1.env0 (hb s1 [.ref f] I1.kIn rfl) (.cons rfl .nil) rfl fun hr2 => ?_
    obtain ⟨t2, ht2, hq2⟩ := hG f c' s1 H1 Q (fun E H' Q' => t E σ H' Q') (hr2.mono (by omega)) (fun W pn xe p1 p2 tk => lam_act (i := 0) I1 L of nf ff (bd _ _ _ _ _) tk hr2 (fun A outer s H E hr3 => body_ A outer s H E f c' hr3) hNg hva hd hcd) hco (h H1 eN hdm T1)
    exact ⟨t2, ht2.nox, hq2⟩
  refine wpAny_call (codeAny_mono go fun r s2 hq => ?_)
  cases r with
  | error e => exact (show False from hq).elim
  | ok fl =>
    cases fl with
    | ret u => exact I1.after hq
    | next => exact hq.elim
    | brk => exact hq.elim
    | cont => exact hq.elim
end
section
variable {X : Cx} {T : List (Addr × Str)} {I : Nat → Bool}
/-- the wish about the lambda's exceptions -/
def ExcW (X : Cx) (T : List (Addr × Str)) (I : Nat → Bool) (CS f : Addr) (ms : Addr → Option Addr → Str → MS) (Q : VK) : XK := fun cls d H => PySem.W.exmOne X.K cls (.ref CS) = some true ∧ ∀ a, H a = none → ∃ C c, cls = .ref c ∧ X.mg C = some (.ref c) ∧
  tS X.K X.mg T I W0 (ms a d C) { nx := fun σ' H' => tVar 1 (σ'.set 2 none) H' Q, rt := fun _ _ => False } [some (.ref f), some .non, some (.ref a)] H
def TTt (X : Cx) (T : List (Addr × Str)) (I : Nat → Bool) (CS : Addr) (ms : Addr → Option Addr → Str → MS) : (XK → Hp → VK → Prop) → Hp → VK → Prop := fun tl H Q => ∀ (f : Addr) (E : XK), (∀ cls d H', ExcW X T I CS f ms Q cls d H' → E cls d H') → tl E H fun _ H' => tVar 1 [some (.ref f), some .non, none] H' Q
theorem told_to {Ng : List Str} {x a y n e q : Str} {sg : Scope} {g CS : Addr} {cdg : Value} {j : Nat} {b₀ : Stmt} {suite : List Stmt} {ms : Addr → Option Addr → Str → MS} {p1 p2 p3 p4 p4' p5 p6 p7 p8 p9 p10 : Pos} (hN : Ng = [a, y, n]) (hnd : Ng.Nodup)
    (hy : sg.names.lookup y = some .local) (hn : sg.names.lookup n = some .local) (hge : sg.names.lookup e = some .globalImplicit) (hme : X.mg e = some (.ref CS)) (hde : (e == ("__debug__" : Str)) = false) (hdy : (y == ("__debug__" : Str)) = false) (hcy : (y == ("__classdict__" : Str)) = false)
    (hsu : ∀ (s : Shared) (H : Hp) (a d C oe c) (pn : List (Addr × Obj)), Room 3 (X.A.deeper (envOfC x sg s.heap.objs.size g cdg)) → Zc (.ref c) d oe → X.mg C = some (.ref c) → (∃ vs, oe.data = .fields vs) →
      VSs (((cxOf C8.CX0 X.prog X.w X.K X.mg X.base Ng x sg g cdg X.A X.stack s H C8.E0).nox).suite a ((a, oe) :: pn)) T I W0 (b₀ :: suite) (ms a d C)) :
    Gets X Ng x sg g cdg [.Assign [.Name y p1] (.Constant .none j p2) p3, .Try [.Expr (.Call (.Name a p4) [] [] p4') p5] [.ExceptHandler (some (.Name e p6)) (some n) (b₀ :: suite) p7] [] [] p8, .Return (some (.Name y p9)) p10] a q (TTt X T I CS ms) := by
  intro f c' s H Q tl hr act hc h
  subst hN
  have hgl : Gl (cxOf C8.CX0 X.prog X.w X.K X.mg X.base [a, y, n] x sg g cdg X.A X.stack s H C8.E0).nox e := hge
  have S := fun a d C oe c pn hz hm hf => hsu s H a d C oe c pn hr hz hm hf
  generalize hZ : (cxOf C8.CX0 X.prog X.w X.K X.mg X.base [a, y, n] x sg g cdg X.A X.stack s H C8.E0).nox = Z at hgl S ⊢
  have zN : Z.N = [a, y, n] := by rw [← hZ]; rfl
  have zK : Z.K = X.K := by rw [← hZ]; rfl
  have zm : Z.mg = X.mg := by rw [← hZ]; rfl
  have zs : Z.env.scope = sg := by rw [← hZ]; rfl
  refine ⟨_, pss_cons (ps_asg pe_non (pg_name (i := 1) (by rw [zN]; exact hnd) (by rw [zN]; rfl) (.inl (by rw [zs]; exact hy)) (.inr (by rw [zs]; exact hy)))) (pss_cons (ps_try_as (X := Z) (i := 2) (c := .ref CS) (Wout := fun _ _ _ _ => False)
    (tb := fun W D σ HH => σ[0]? = some (some (.ref f)) ∧ HH c' = some (CodeO c' q) ∧ tl (WE W σ) HH fun _ H' => D.nx σ H')
    (ts := fun a cls d D σ HH => ∃ C c, cls = .ref c ∧ X.mg C = some (.ref c) ∧ tS X.K X.mg T I W0 (ms a d C) D σ HH)
    (by rw [← hZ]; rfl) (by rw [← hZ]; rfl) (by rw [zN]; exact hnd) (by rw [zN]; rfl) (by show Z.env.scope.names.lookup n = _; rw [zs]; exact hn) ⟨hgl, hde, .inl (by rw [zm]; exact hme)⟩ LamX.takes0 (fun W pn xe tk _ => ?_) (fun aa oe cls d pn hz hf => ?_))
      (pss_one (ps_ret (pe_var (i := 1) (by rw [zN]; rfl) (.inl (by rw [zs]; exact hy)) hdy hcy)))), ?_⟩
  · refine ⟨fun pins s' σ H' D J h' => ?_⟩
    subst hZ
    have hp := act W pn xe p4 p4' tk
    exact (pss_one (ps_expr (pos := p5) hp)).run pins s' σ H' D J h'
  · refine ⟨fun pins s' σ H' D J h' => ?_⟩
    obtain ⟨C, c, rfl, hm, h3⟩ := h'
    have SS := S aa d C oe c pn hz hm hf
    subst hZ
    exact SS.ps.run pins s' σ H' D J h3
  · refine ⟨rfl, hc, h f _ fun cls d H' hw => ?_⟩
    obtain ⟨h1, h2⟩ := hw
    refine ⟨true, by rw [zK]; exact h1, fun _ aa na => ?_, fun z => by cases z⟩
    obtain ⟨C, c, e1, e2, e3⟩ := h2 aa na
    exact ⟨C, c, e1, e2, tS_ends e3 (fun σ2 H2 z => z) (fun _ _ z => z.elim) (fun _ _ z => z) fun _ _ z => z⟩
/-- told(lambda: body), by its mirror -/
theorem told_in {CS : Addr} {ms : Addr → Option Addr → Str → MS} {mk : Exn → Option PV} {mb : M PV} {W : WX} {σ : L2.St} {H : Hp} {Q : VK} (hk : Told X CS mk ms) (q : tG X.K X.mg T (RV X.K X.mg) W (mTold mk mb) σ H Q) :
    Tabs T H ∧ ∀ H1, ExtN H H1 → (∀ a o, H a = some o → ∃ o', H1 a = some o') → Tabs T H1 → TTt X T I CS ms (fun E H' Q' => tG X.K X.mg T (RV X.K X.mg) (WF E) mb σ H' Q') H1 Q := by
  obtain ⟨ρ, w, rfl, E, q⟩ := q
  refine ⟨E.tab, fun H1 eN hd T1 f EX hE => ?_⟩
  obtain ⟨E1, x1⟩ := E.tables eN T1 hd
  refine ⟨ρ, ⟨w.G, H1, w.S⟩, rfl, E1, ?_⟩
  have q := q.mono x1
  unfold mTold at q
  cases em : mb ρ with
  | bad => rw [em] at q; exact q
  | ok p ρ' =>
    rw [em] at q
    exact fun v w2 x2 E2 r2 => ⟨.non, rfl, q .non w2 x2 E2 rfl⟩
  | err x ρ' =>
    rw [em] at q
    dsimp only at q
    cases ek : mk x with
    | none => rw [ek] at q; exact q.elim
    | some p =>
      rw [ek] at q
      intro cls d w2 x2 E2 r2
      obtain ⟨c, hm, rfl, rx⟩ := r2
      obtain ⟨h1, h2⟩ := hk.ex x p ek c hm
      refine hE _ _ _ ⟨h1, fun a na => ⟨x.C, c, rfl, hm, ?_⟩⟩
      obtain ⟨ρ2, e2, e3⟩ := h2 a d
      obtain ⟨Sa, EA, mrg⟩ := call_sm E2 (as := []) (vs := []) .nil (List.nodup_nil) rfl
      have EF : Ev X.K X.mg T ⟨w2.G, w2.H, Sa⟩ [some (.ref f), some .non, some (.ref a)] [.no, .fr .non, .fr (.exc a d x.C x.ks x.vs)] := by
        refine EA.frame rfl (fun i p e => ?_) fun i o e => ?_
        · match i, e with
          | 0, e => cases e
          | 1, e => cases e; exact ⟨.non, rfl, rfl⟩
          | 2, e =>
            cases e
            refine ⟨.ref a, rfl, rfl, c, hm, ?_⟩
            rcases rx with ⟨h1, _, h2⟩ | ⟨dd, fs, h1, h2, h3, h4⟩
            · exact .inl ⟨h1, h2⟩
            · exact .inr ⟨dd, fs, h1, h2, h3, h4⟩
          | i + 3, e => simp at e
        · match i, e with
          | 0, e => cases e
          | 1, e => cases e
          | 2, e => cases e
          | i + 3, e => simp at e
      refine ⟨_, ⟨w2.G, w2.H, Sa⟩, rfl, EF, ?_⟩
      rw [e2]
      intro σ3 w3 x3 E3 k3
      obtain ⟨v, hv, rv⟩ := E3.fr 1 p e3
      refine ⟨v, by rw [List.getElem?_set_ne (by omega)]; exact hv, ?_⟩
      obtain ⟨S', E4, x4⟩ := mrg ⟨w3.G, w3.H, fun _ => False⟩ [] (x3.less fun _ z => z.elim) E3.bare
      have E5 : Ev X.K X.mg T ⟨w3.G, w3.H, S'⟩ σ ρ' := by
        have : putBack [] [] 0 ρ' = ρ' := by
          apply List.ext_getElem?
          intro i
          rw [putBack_get]
          cases ρ'[i]? <;> rfl
        rw [this] at E4; exact E4
      exact q v ⟨w3.G, w3.H, S'⟩ (x2.trans x4) E5 rv
end
end VS

set_option Elab.async false
set_option linter.all false
set_option maxRecDepth 100000
set_option maxHeartbeats 1000000
namespace VS
open PySem PySem.Spec PyProof.Rows L2

/-! ### name += e, of ints -/
def mAug (f : Int → Int → Int) (i : Nat) (m : M PV) : MS := fun ρ => match ρ[i]? with
  | some (.fr (.int a)) => sThen m (fun p ρ' => match p with
    | .int b => .nx (ρ'.set i (.fr (.int (f a b))))
    | _ => .bad) ρ
  | _ => .bad
section
variable {X : Cx} {T : List (Addr × Str)} {I : Nat → Bool} {W : WX} {e a b : Expr} {es : List Expr} {ma mb me : M PV} {pos : Pos}
theorem vs_aug {f : Int → Int → Int} {i : Nat} {x : Str} {op : Operator} {pos' : Pos} (hN : X.N.Nodup) (hi : X.N[i]? = some x) (hx : Loc X.env.scope x) (he : VE X T W e me) (ho : PIp X op (ipI f)) (hI : I i = false) (hf : X.fn x = true ∨ X.env.scope.names.lookup x = some .local := by first | exact .inl rfl | exact .inr rfl | assumption) :
    VS X T I W (.AugAssign (.Name x pos') op e pos) (mAug f i me) := ⟨(ps_aug hN hi hx he.pe ho hf).imV fun D σ H q => by
  obtain ⟨ρ, w, rfl, E, q⟩ := q
  unfold mAug at q
  split at q
  · rename_i n e1
    obtain ⟨v, hv, r⟩ := E.fr i _ e1
    cases r
    refine ⟨.int n, hv, ρ, w, rfl, E, ?_⟩
    unfold sThen at q
    cases em : me ρ with
    | bad => rw [em] at q; exact q
    | err x ρ' => rw [em] at q; exact fun cls d w' x' E' r => q cls d σ w' x' E' (Keep.refl _) r
    | ok p ρ' =>
      rw [em] at q
      dsimp only at q
      split at q
      · rename_i j
        intro y w1 x1 E1 r1
        cases r1
        refine ⟨n, j, rfl, rfl, ?_⟩
        obtain ⟨S', E2, x2, _⟩ := E1.setFr i (p := .int (f n j)) (v := .int (f n j)) rfl
        exact q _ ⟨w1.G, w1.H, S'⟩ (x1.trans x2) E2 (Keep.set hI)
      · exact q.elim
  · exact q.elim⟩

/-! ### values of either kind: frozen, or owned -/
def RepSl (K : Frag) (mg : Str → Option Value) (G H : Hp) : Sl → V → (Addr → Prop) → Prop
  | .no, _, _ => False
  | .fr p, v, S => Rep K mg G p v ∧ ∀ x, ¬ S x
  | .ow o, v, S => ∃ a, v = .ref a ∧ Own K mg G H o a S
def tSl (K : Frag) (mg : Str → Option Value) (T : List (Addr × Str)) (W : WX) (m : M Sl) : TE := fun σ H Q => ∃ ρ w, w.H = H ∧ Ev K mg T w σ ρ ∧ match m ρ with
  | .ok s ρ' => ∀ v S w', Ext w w' → Ev K mg T w' σ ρ' → RepSl K mg w'.G w'.H s v S → (∀ x, S x → ¬ w'.S x) → (∀ x, S x → w.H x = none) → Q v w'.H
  | .err x ρ' => ∀ cls d w', Ext w w' → Ev K mg T w' σ ρ' → RepX K mg w'.G x cls d → W cls d σ w'.H
  | .bad => False
structure VSl (X : Cx) (T : List (Addr × Str)) (W : WX) (e : Expr) (m : M Sl) : Prop where
  pe : PE X e (tSl X.K X.mg T W m)
def mFr (m : M PV) : M Sl := m.bind fun p => .pure (.fr p)
def mOw (m : M OV) : M Sl := m.bind fun o => .pure (.ow o)
theorem vsl_fr {m : M PV} (h : VE X T W e m) : VSl X T W e (mFr m) := ⟨h.pe.imV fun σ H Q q => by
  obtain ⟨ρ, w, rfl, E, q⟩ := q
  refine ⟨ρ, w, rfl, E, ?_⟩
  unfold mFr M.bind at q
  cases em : m ρ with
  | bad => rw [em] at q; exact q
  | err x ρ' => rw [em] at q; exact q
  | ok p ρ' => rw [em] at q; exact fun v w' x E' r => q v (fun _ => False) w' x E' ⟨r, fun _ h => h⟩ (fun _ h => h.elim) fun _ h => h.elim⟩
theorem vsl_ow {m : M OV} (h : VO X T W e m) : VSl X T W e (mOw m) := ⟨h.pe.imV fun σ H Q q => by
  obtain ⟨ρ, w, rfl, E, q⟩ := q
  refine ⟨ρ, w, rfl, E, ?_⟩
  unfold mOw M.bind at q
  cases em : m ρ with
  | bad => rw [em] at q; exact q
  | err x ρ' => rw [em] at q; exact q
  | ok o ρ' => rw [em] at q; exact fun a S w' x E' r d f => q (.ref a) S w' x E' ⟨a, rfl, r⟩ d f⟩
/-- a floating value stays while the rest is reckoned -/
theorem RepSl.stay {K : Frag} {mg : Str → Option Value} {w w' : Wo} {s : Sl} {v : V} {S : Addr → Prop} (r : RepSl K mg w.G w.H s v S) (x : Ext w w') (d : ∀ y, S y → ¬ w.S y) : RepSl K mg w'.G w'.H s v S ∧ ∀ y, S y → ¬ w'.S y := by
  cases s with
  | no => exact r.elim
  | fr p => exact ⟨⟨r.1.mono x.g, r.2⟩, fun y h => (r.2 y h).elim⟩
  | ow o =>
    obtain ⟨a, e, ro⟩ := r
    have hn : ∀ y, S y → ∃ u, w.H y = some u ∧ NT u := fun y h => (ro.free.2 y h).2
    refine ⟨⟨a, e, ro.mono x.g (fun y h => ?_) fun y u h hu => ?_⟩, fun y h z => ?_⟩
    · cases q : w'.G y with
      | none => rfl
      | some u =>
        obtain ⟨o2, h2, _⟩ := hn y h
        rcases x.ng y u q with z | z | z
        · rw [(ro.free.2 y h).1] at z; cases z
        · exact (d y h z).elim
        · rw [h2] at z; cases z
    · obtain ⟨o2, h2, n2⟩ := hn y h
      rw [hu] at h2; cases h2
      exact x.h y u hu (d y h) n2
    · obtain ⟨o2, h2, _⟩ := hn y h
      rcases x.ns y z with z | z
      · exact d y h z
      · rw [h2] at z; cases z
/-- a slot gets a value of either kind -/
theorem Ev.setSl {K : Frag} {mg : Str → Option Value} {w : Wo} {σ : St} {ρ : PEnv} {s : Sl} {v : V} {S : Addr → Prop} (E : Ev K mg T w σ ρ) (i : Nat) (r : RepSl K mg w.G w.H s v S) (d : ∀ y, S y → ¬ w.S y) :
    ∃ S', Ev K mg T ⟨w.G, w.H, S'⟩ (σ.set i (some v)) (ρ.set i s) ∧ ∀ y, S' y → S y ∨ w.S y := by
  cases s with
  | no => exact r.elim
  | fr p =>
    obtain ⟨S', E2, _, h⟩ := E.setFr i r.1
    exact ⟨S', E2, fun y z => .inr (h y z)⟩
  | ow o =>
    obtain ⟨a, rfl, ro⟩ := r
    exact E.setOw' i ro d
/-- a, b = (x, y) -/
def mPairS (i j : Nat) (ma mb : M Sl) : MS := sThen ma fun p => sThen mb fun q ρ => .nx ((ρ.set i p).set j q)
def tPair2 (ta tb : TE) : TA := fun σ H Q => ta σ H fun x H1 => tb σ H1 fun y H2 => Q [x, y] H2
theorem vs_pair {i j : Nat} {x y : Str} {msa msb : M Sl} {px py pt : Pos} {kt k2 pt2} (hc : X.calm = true) (hN : X.N.Nodup) (hi : X.N[i]? = some x) (hj : X.N[j]? = some y) (hij : i ≠ j) (hx : X.env.scope.names.lookup x = some .local) (hy : X.env.scope.names.lookup y = some .local)
    (ha : VSl X T W a msa) (hb : VSl X T W b msb) (hI : I i = false) (hJ : I j = false) (hw : swappedStores [.Tuple [.Name x px, .Name y py] kt pt] (.Tuple [a, b] k2 pt2) X.env = pure (some [x, y]))
    (hs1 : starEach [a, b] X.env = (false, eval a X.env) :: starEach [b] X.env := by rfl) (hs2 : starEach [b] X.env = (false, eval b X.env) :: starEach [] X.env := by rfl)
    (hs : swapsWithSole [.Tuple [.Name x px, .Name y py] kt pt] (.Tuple [a, b] k2 pt2) pos.line X.env = pure false := by rfl) : VS X T I W (.Assign [.Tuple [.Name x px, .Name y py] kt pt] (.Tuple [a, b] k2 pt2) pos) (mPairS i j msa msb) :=
  ⟨(ps_par hc hN hi hj hij hx hy (pa_cons ha.pe (pa_cons hb.pe pa_nil hs2) hs1) hw hs).imV fun D σ H q => by
    obtain ⟨ρ, w, rfl, E, q⟩ := q
    refine ⟨ρ, w, rfl, E, ?_⟩
    unfold mPairS sThen at q
    cases e1 : msa ρ with
    | bad => rw [e1] at q; exact q
    | err x ρ' => rw [e1] at q; exact fun cls d w' x' E' r => q cls d σ w' x' E' (Keep.refl _) r
    | ok s1 ρ1 =>
      rw [e1] at q
      dsimp only at q
      intro v S w1 x1 E1 r1 d1 f1
      show tSl X.K X.mg T W msb σ w1.H _
      refine ⟨ρ1, w1, rfl, E1, ?_⟩
      cases e2 : msb ρ1 with
      | bad => rw [e2] at q; exact q
      | err x ρ' => rw [e2] at q; exact fun cls d w' x' E' r => q cls d σ w' (x1.trans x') E' (Keep.refl _) r
      | ok s2 ρ2 =>
        rw [e2] at q
        dsimp only at q
        intro v2 S2 w2 x2 E2 r2 d2 f2
        obtain ⟨r3, d3⟩ := r1.stay x2 d1
        obtain ⟨Sa, E3, ha⟩ := E2.setSl i r3 d3
        have d4 : ∀ y, S2 y → ¬ Sa y := fun y h z => by
          rcases ha y z with z | z
          · cases s1 with
            | no => exact r1
            | fr p => exact r1.2 y z
            | ow o =>
              obtain ⟨_, _, ro⟩ := r1
              obtain ⟨_, u, hu, _⟩ := ro.free.2 y z
              rw [f2 y h] at hu; cases hu
          · exact d2 y h z
        obtain ⟨Sb, E4, hb2⟩ := E3.setSl (s := s2) (v := v2) (S := S2) j r2 d4
        refine ⟨v, v2, rfl, q _ ⟨w2.G, w2.H, Sb⟩ ⟨(x1.trans x2).g, (x1.trans x2).h, (x1.trans x2).dom, (x1.trans x2).ng, fun y hy => ?_⟩ E4 ((Keep.set hI).trans (Keep.set hJ))⟩
        rcases hb2 y hy with z | z
        · exact .inr (none_of (x1.dom y) (f2 y z))
        · rcases ha y z with z | z
          · exact .inr (f1 y z)
          · exact (x1.trans x2).ns y z⟩
end

/-! ### a def that gives an object of its own -/
def tBo (K : Frag) (mg : Str → Option Value) (T : List (Addr × Str)) (I : Nat → Bool) (W : WX) (m : M OV) : TS := fun D σ H => ∃ ρ w, w.H = H ∧ Ev K mg T w σ ρ ∧ match m ρ with
  | .ok o ρ' => ∀ a S σ' w', Ext w w' → Ev K mg T w' σ' ρ' → Keep I σ σ' → Own K mg w'.G w'.H o a S → (∀ x, S x → ¬ w'.S x) → (∀ x, S x → w.H x = none ∨ w.S x) → D.rt (.ref a) w'.H
  | .err x ρ' => ∀ cls d σ' w', Ext w w' → Ev K mg T w' σ' ρ' → Keep I σ σ' → RepX K mg w'.G x cls d → W cls d σ' w'.H
  | .bad => False
structure VRO (X : Cx) (T : List (Addr × Str)) (I : Nat → Bool) (W : WX) (st : List Stmt) (m : M OV) : Prop where
  ps : PSs X st (tBo X.K X.mg T I W m)
def mThenO (a : MS) (b : M OV) : M OV := fun ρ => match a ρ with
  | .nx ρ' => b ρ'
  | .err x ρ' => .err x ρ'
  | _ => .bad
section
variable {X : Cx} {T : List (Addr × Str)} {I : Nat → Bool} {W : WX} {e : Expr} {st : Stmt} {rest : List Stmt} {ms : MS} {mo : M OV} {pos : Pos}
theorem vb_ret (h : VO X T W e mo) : VRO X T I W [.Return (some e) pos] mo := ⟨(pss_one (ps_ret h.pe)).imV fun D σ H q => by
  obtain ⟨ρ, w, rfl, E, q⟩ := q
  refine ⟨ρ, w, rfl, E, ?_⟩
  cases em : mo ρ with
  | bad => rw [em] at q; exact q
  | err x ρ' => rw [em] at q; exact fun cls d w' x' E' r => q cls d σ w' x' E' (Keep.refl _) r
  | ok o ρ' => rw [em] at q; exact fun a S w' x E' r d f => q a S σ w' x E' (Keep.refl _) r d fun y hy => .inl (f y hy)⟩
theorem vb_cons (h : VS X T I W st ms) (h2 : VRO X T I W rest mo) : VRO X T I W (st :: rest) (mThenO ms mo) := ⟨(pss_cons h.ps h2.ps).imV fun D σ H q => by
  obtain ⟨ρ, w, rfl, E, q⟩ := q
  refine ⟨ρ, w, rfl, E, ?_⟩
  unfold mThenO at q
  cases em : ms ρ with
  | bad => rw [em] at q; exact q
  | rt p ρ' => rw [em] at q; exact q.elim
  | bk ρ' => rw [em] at q; exact q.elim
  | ct ρ' => rw [em] at q; exact q.elim
  | err x ρ' => rw [em] at q; exact q
  | nx ρ1 =>
    rw [em] at q
    intro σ1 w1 x1 E1 k1
    refine ⟨ρ1, w1, rfl, E1, ?_⟩
    cases e2 : mo ρ1 with
    | bad => dsimp only at q; rw [e2] at q; exact q
    | err x ρ' =>
      dsimp only at q
      rw [e2] at q
      exact fun cls d σ' w' x' E' k r => q cls d σ' w' (x1.trans x') E' (k1.trans k) r
    | ok o ρ' =>
      dsimp only at q
      rw [e2] at q
      refine fun a S σ' w' x E' k r d f => q a S σ' w' (x1.trans x) E' (k1.trans k) r d fun y hy => ?_
      rcases f y hy with z | z
      · exact .inl (none_of (x1.dom y) z)
      · exact (x1.ns y z).symm⟩
/-- name = [..]; return name: what a slot owns is given -/
def mGive (i : Nat) : M OV := fun ρ => match ρ[i]? with
  | some (.ow o) => .ok o (ρ.set i .no)
  | _ => .bad
theorem vb_give {i : Nat} {x : Str} {p : Pos} (h : PE X (.Name x p) (tVar i)) : VRO X T I W [.Return (some (.Name x p)) pos] (mGive i) := ⟨(pss_one (ps_ret h)).imV fun D σ H q => by
  obtain ⟨ρ, w, rfl, E, q⟩ := q
  unfold mGive at q
  split at q
  · rename_i o ρ' e1
    split at e1
    · rename_i o2 e2
      cases e1
      obtain ⟨F, f1, f2, f3, f4⟩ := E.ex
      obtain ⟨a, hv, r⟩ := f2 i _ e2
      refine ⟨.ref a, hv, ?_⟩
      have E2 : Ev X.K X.mg T ⟨w.G, w.H, fun x => ∃ j, j ≠ i ∧ F j x⟩ σ (ρ.set i .no) := by
        refine ⟨E.sub, E.nt, fun x ⟨j, _, h⟩ => E.sn x ((f1 x).mpr ⟨j, h⟩), E.tab, by rw [List.length_set]; exact E.len, fun j p e => ?_, fun j x => j ≠ i ∧ F j x, fun x => Iff.rfl, fun j o e => ?_, fun j k x h1 h2 => f3 j k x h1.2 h2.2, fun j x h => ?_⟩
        · by_cases hj : i = j
          · subst hj
            rw [List.getElem?_set_self (by exact (List.getElem?_eq_some_iff.mp e2).1)] at e; cases e
          · rw [List.getElem?_set_ne hj] at e
            exact E.fr j p e
        · by_cases hj : i = j
          · subst hj
            rw [List.getElem?_set_self (by exact (List.getElem?_eq_some_iff.mp e2).1)] at e; cases e
          · rw [List.getElem?_set_ne hj] at e
            obtain ⟨b, hb, rb⟩ := f2 j o e
            refine ⟨b, hb, ?_⟩
            have : (fun x => j ≠ i ∧ F j x) = F j := funext fun x => propext ⟨fun h => h.2, fun h => ⟨Ne.symm hj, h⟩⟩
            exact Eq.mpr (congrArg (Own X.K X.mg w.G w.H _ b) this) rb
        · obtain ⟨o, ho⟩ := f4 j x h.2
          exact ⟨o, by rw [List.getElem?_set_ne (Ne.symm h.1)]; exact ho⟩
      refine q a (F i) σ ⟨w.G, w.H, fun x => ∃ j, j ≠ i ∧ F j x⟩ ((Ext.refl w).less fun x ⟨j, _, h⟩ => (f1 x).mpr ⟨j, h⟩) E2 (Keep.refl _) r (fun x hx ⟨j, hj, hx2⟩ => hj (f3 j i x hx2 hx)) fun x hx => .inr ((f1 x).mpr ⟨i, hx⟩)
    · cases e1
  · rename_i e1
    split at e1 <;> cases e1
  · exact q.elim⟩
end
/-- the promise -/
def spO (K : Frag) (mg : Str → Option Value) (T : List (Addr × Str)) (n : Nat) (m : M OV) : Sp := fun vs H Q E => vs.length = n ∧ ∃ ρ w, w.H = H ∧ Ev K mg T w (vs.map some) ρ ∧ match m ρ with
  | .ok o ρ' => ∀ a S w', Ext w w' → Ev K mg T w' (vs.map some) ρ' → Own K mg w'.G w'.H o a S → (∀ x, S x → ¬ w'.S x) → (∀ x, S x → w.H x = none ∨ w.S x) → Q (.ref a) w'.H
  | .err x ρ' => ∀ cls d w', Ext w w' → Ev K mg T w' (vs.map some) ρ' → RepX K mg w'.G x cls d → E cls d w'.H
  | .bad => False
def fnMO (N n : Nat) (I : Nat → Bool) (mb : M OV) : M OV := fun args => match mb (args ++ List.replicate (N - n) .no) with
  | .ok o ρ' => .ok o (argsBack I 0 args ρ')
  | .err x ρ' => .err x (argsBack I 0 args ρ')
  | .bad => .bad
theorem body_okO {K : Frag} {mg : Str → Option Value} {T : List (Addr × Str)} {I : Nat → Bool} {N : List Str} {n : Nat} {mb : M OV} {vs : List V} {H : Hp} {Q : VK} {E : XK} (h : spO K mg T n (fnMO N.length n I mb) vs H Q E) :
    tBo K mg T I (WF E) mb { nx := fun _ H' => Q .non H', rt := Q } (L2.start N vs) H := by
  obtain ⟨hl, args, w, rfl, Ev0, q⟩ := h
  rw [start_eq]
  rw [hl]
  refine ⟨_, w, rfl, Ev0.pad _, ?_⟩
  unfold fnMO at q
  cases e : mb (args ++ List.replicate (N.length - n) .no) with
  | ok o ρ' =>
    rw [e] at q
    intro a S σ' w' x E' k r d f
    obtain ⟨S', E2, hS⟩ := Ev0.back x E' k
    exact q a S ⟨w'.G, w'.H, S'⟩ ⟨x.g, x.h, x.dom, x.ng, fun a h => x.ns a (hS a h)⟩ E2 r (fun y h z => d y h (hS y z)) f
  | err z ρ' =>
    rw [e] at q
    intro cls d σ' w' x E' k r
    obtain ⟨S', E2, hS⟩ := Ev0.back x E' k
    exact q cls d ⟨w'.G, w'.H, S'⟩ ⟨x.g, x.h, x.dom, x.ng, fun a h => x.ns a (hS a h)⟩ E2 r
  | bad => rw [e] at q; exact q.elim
theorem fn_okO {P : Program} {w : World} {K : Frag} {mg : Str → Option Value} {base : Heap} {T : List (Addr × Str)} {x qual : Str} {st : Stmt} {f : Addr} {fd : FuncData} {N ps : List Str} {k : Nat} {I : Nat → Bool} {mb : M OV} (F : Fun K x qual st f fd) (S : FnScope N ps (defScope st))
    (hb : ∀ (cdv : Value) (A : Around) (outer : List Env) (s : Shared) (H : Hp) (E : XK), Room k (A.deeper (envOfC qual (defScope st) s.heap.objs.size f cdv)) →
      VRO (cxOf (L2.CX P w) P w K mg base N qual (defScope st) f cdv A outer s H E) T I (WF E) (defBody st) mb) :
    FnOk P w K mg base (L2.CX P w) (k + 1) f fd ps (spO K mg T ps.length (fnMO N.length ps.length I mb)) := by
  refine F.okX S (fun vs H Q E h => h.1) fun cdv A outer s H vs Q E hr h => ?_
  exact ⟨_, (hb cdv A outer s H E hr).ps, body_okO h⟩
def noSlots (as : List Arg) : Bool := (as.filterMap slotOf).isEmpty
def callRO (mf : M OV) (as : List Arg) : M OV := fun ρ => if noSlots as then (match argSl ρ as with
  | none => .bad
  | some ss => match mf ss with
    | .ok p _ => .ok p ρ
    | .err x _ => .err x ρ
    | .bad => .bad) else .bad
def mCallO (mf : M OV) (ma : M (List Arg)) : M OV := ma.bind (callRO mf)
section
variable {K : Frag} {mg : Str → Option Value} {T : List (Addr × Str)} {w w2 : Wo} {σ : St} {ρ : PEnv} {S0 : Addr → Prop}
/-- a call that got nothing of ours -/
theorem Ev.over (E : Ev K mg T w σ ρ) (x : Ext ⟨w.G, w.H, S0⟩ w2) (h0 : ∀ y, ¬ S0 y) (sub : Sub w2.G w2.H) (nt : ∀ a o, w2.G a = some o → NT o) (tab : LamX.Tabs T w2.H) : Ev K mg T ⟨w2.G, w2.H, w.S⟩ σ ρ ∧ Ext w ⟨w2.G, w2.H, w.S⟩ := by
  obtain ⟨F, f1, f2, f3, f4⟩ := E.ex
  have keep : ∀ y u, w.H y = some u → NT u → w2.H y = some u := fun y u h n => x.h y u h (h0 y) n
  refine ⟨⟨sub, nt, fun y h => ?_, tab, E.len, fun i p e => ?_, F, f1, fun i o e => ?_, f3, f4⟩, x.g, fun a o h _ n => keep a o h n, x.dom, fun a o h => ?_, fun a h => .inl h⟩
  · obtain ⟨o, h1, h2⟩ := E.sn y h
    exact ⟨o, keep y o h1 h2, h2⟩
  · obtain ⟨v, hv, r⟩ := E.fr i p e
    exact ⟨v, hv, r.mono x.g⟩
  · obtain ⟨a, hv, r⟩ := f2 i o e
    refine ⟨a, hv, r.mono x.g (fun y hy => ?_) fun y u hy hu => ?_⟩
    · cases z : w2.G y with
      | none => rfl
      | some u =>
        rcases x.ng y u z with z1 | z1 | z1
        · rw [(r.free.2 y hy).1] at z1; cases z1
        · exact (h0 y z1).elim
        · obtain ⟨_, u2, h2, _⟩ := r.free.2 y hy
          rw [show w.H y = none from z1] at h2; cases h2
    · obtain ⟨_, u2, h2, n2⟩ := r.free.2 y hy
      rw [hu] at h2; cases h2
      exact keep y u hu n2
  · rcases x.ng a o h with z | z | z
    · exact .inl z
    · exact (h0 a z).elim
    · exact .inr (.inr z)
theorem no_slot {as : List Arg} {ss : List Sl} {vs : List V} (E : Ev K mg T w σ ρ) (ra : RArgs K mg σ w.G as vs) (hn : noSlots as = true) (hs : argSl ρ as = some ss) : ∃ Sa : Addr → Prop, Ev K mg T ⟨w.G, w.H, Sa⟩ (vs.map some) ss ∧ ∀ y, ¬ Sa y := by
  unfold noSlots at hn
  rw [List.isEmpty_iff] at hn
  obtain ⟨Sa, E2, _⟩ := call_sm E ra (by rw [hn]; exact List.nodup_nil) hs
  refine ⟨Sa, E2, fun y hy => ?_⟩
  obtain ⟨F2, g1, g2, g3, g4⟩ := E2.ex
  obtain ⟨i, hi⟩ := (g1 y).mp hy
  obtain ⟨o, ho⟩ := g4 i y hi
  rcases argSl_get hs ho with ⟨q2, _, h2⟩ | ⟨j, o2, h1, _, _⟩
  · cases h2
  · have hmem : j ∈ as.filterMap slotOf := List.mem_filterMap.mpr ⟨.slot j, List.mem_of_getElem? h1, rfl⟩
    rw [hn] at hmem; cases hmem
end
section
variable {X : Cx} {T : List (Addr × Str)} {W : WX} {e : Expr} {es : List Expr} {ms : M (List Arg)} {pos : Pos}
theorem vo_call {k n : Nat} {f : Addr} {fd : FuncData} {ps : List Str} {x : Str} {p : Pos} {mf : M OV} (F : FnOk X.prog X.w X.K X.mg X.base (L2.CX X.prog X.w) k f fd ps (spO X.K X.mg T n mf)) (hr : Room k X.A) (hg : Gl X x) (hm : X.mg x = some (.ref f)) (hk : PySem.W.keepIn X.K (.ref f) = true) (hb : Binds X.K fd ps [])
    (tk : ∀ σ, PassesAt (L2.CX X.prog X.w) X σ (WE W σ)) (ha : VAs X T W (e :: es) ms) (hn : (e :: es).length = n := by rfl) (hdb : (x == ("__debug__" : Str)) = false := by decide) (he : starEach (e :: es) X.env = (false, eval e X.env) :: starEach es X.env := by rfl) (hpl : (backTo pos (starEach es X.env)).any (·.1) = false := by rfl) :
    VO X T W (.Call (.Name x p) (e :: es) [] pos) (mCallO mf ms) := by
  refine ⟨(pe_callSD (dvs := []) F hr hg hm hk hb .nil tk ha.pa hdb he hpl).imV fun σ H Q q => ?_⟩
  obtain ⟨ρ, w, rfl, E, q⟩ := q
  show tG X.K X.mg T (RArgs X.K X.mg σ) W ms σ w.H _
  refine ⟨ρ, w, rfl, E, ?_⟩
  unfold mCallO M.bind at q
  cases em : ms ρ with
  | bad => rw [em] at q; exact q
  | err x ρ' => rw [em] at q; exact q
  | ok as ρ' =>
    rw [em] at q
    intro vs w1 x1 E1 ra
    rw [List.append_nil]
    dsimp only at q
    unfold callRO at q
    by_cases hns : noSlots as = true
    · rw [if_pos hns] at q
      cases hs : argSl ρ' as with
      | none => rw [hs] at q; exact q.elim
      | some ss =>
        rw [hs] at q
        obtain ⟨Sa, E2, nSa⟩ := no_slot E1 ra hns hs
        refine ⟨by rw [← ra.length, ha.len _ _ _ em]; exact hn, ss, ⟨w1.G, w1.H, Sa⟩, rfl, E2, ?_⟩
        cases e2 : mf ss with
        | bad => dsimp only at q; rw [e2] at q; exact q.elim
        | err x ss' =>
          dsimp only at q
          rw [e2] at q
          intro cls d w2 x2 E3 r2
          obtain ⟨E4, x4⟩ := E1.over x2 nSa E3.sub E3.nt E3.tab
          exact q cls d ⟨w2.G, w2.H, w1.S⟩ (x1.trans x4) E4 r2
        | ok o ss' =>
          dsimp only at q
          rw [e2] at q
          intro a S w2 x2 E3 r2 d2 f2
          obtain ⟨E4, x4⟩ := E1.over x2 nSa E3.sub E3.nt E3.tab
          have fr : ∀ y, S y → w1.H y = none := fun y hy => (f2 y hy).resolve_right (nSa y)
          refine q a S ⟨w2.G, w2.H, w1.S⟩ (x1.trans x4) E4 r2 (fun y hy z => ?_) fun y hy => none_of (x1.dom y) (fr y hy)
          obtain ⟨u, hu, _⟩ := E1.sn y z
          rw [fr y hy] at hu; cases hu
    · rw [if_neg hns] at q
      exact q.elim

/-! ### a local name that holds a def -/
def callG (tbl : Str → Option (M PV)) (i : Nat) (ms : M (List Arg)) : M PV := fun ρ => match ρ[i]? with
  | some (.fr (.glob x)) => (match tbl x with
    | some mf => mCall mf ms ρ
    | none => .bad)
  | _ => .bad
structure Defs (X : Cx) (T : List (Addr × Str)) (n : Nat) (tbl : Str → Option (M PV)) : Prop where
  ex : ∀ x mf, tbl x = some mf → ∃ k f fd ps, FnOk X.prog X.w X.K X.mg X.base (L2.CX X.prog X.w) k f fd ps (spV X.K X.mg T n mf) ∧ Room k X.A ∧ X.mg x = some (.ref f) ∧ PySem.W.keepIn X.K (.ref f) = true ∧ Binds X.K fd ps []
theorem ve_callG {n i : Nat} {x : Str} {p : Pos} {tbl : Str → Option (M PV)} (hd : Defs X T n tbl) (hx : PE X (.Name x p) (tVar i)) (tk : ∀ σ, PassesAt (L2.CX X.prog X.w) X σ (WE W σ)) (ha : VAs X T W (e :: es) ms) (hn : (e :: es).length = n := by rfl)
    (he : starEach (e :: es) X.env = (false, eval e X.env) :: starEach es X.env := by rfl) (hpl : (backTo pos (starEach es X.env)).any (·.1) = false := by rfl) : VE X T W (.Call (.Name x p) (e :: es) [] pos) (callG tbl i ms) := by
  refine ⟨⟨fun pins s σ H Q J q => ?_⟩⟩
  obtain ⟨ρ, w, rfl, E, q⟩ := q
  unfold callG at q
  split at q
  · rename_i y e1
    split at q
    · rename_i mf e2
      obtain ⟨v, hv, g, hg, rfl⟩ := E.fr i _ e1
      obtain ⟨k, f, fd, ps, F, hr, hm, hk, hb⟩ := hd.ex y mf e2
      rw [hg] at hm
      cases hm
      refine wpAny_Call_Name_kw (thn (hx.run pins s σ w.H (fun v H1 => v = .ref g ∧ H1 = w.H) J ⟨.ref g, hv, rfl, rfl⟩) fun u s1 ⟨v, H1, J1, r1, ev, eH⟩ => ?_)
      subst ev eH
      cases (show u = Value.ref g from r1)
      have q2 : tG X.K X.mg T (RArgs X.K X.mg σ) W ms σ w.H fun vs H1 => spV X.K X.mg T n mf vs H1 Q (WE W σ) := by
        refine ⟨ρ, w, rfl, E, ?_⟩
        unfold mCall M.bind at q
        cases em : ms ρ with
        | bad => rw [em] at q; exact q
        | err x ρ' => rw [em] at q; exact q
        | ok as ρ' =>
          rw [em] at q
          intro vs w1 x1 E1 ra
          exact sp_of E1 ra ((ha.len _ _ _ em).trans hn) (q.mono x1)
      refine PySem.W.callWith_K (h₀ := X.base) J.ok.mod.kin hk (thn (ha.pa.run pos pins s1 σ _ _ J1 q2) fun us s2 ⟨vs, H2, J2, r, q3⟩ => ⟨J2.kIn, ?_⟩) he hpl
      exact run_fnS F hr hb (tk σ) J2 r q3
    · exact q.elim
  · exact q.elim
end
end VS

set_option Elab.async false
set_option linter.all false
set_option maxRecDepth 100000
set_option maxHeartbeats 1000000
namespace VS
open PySem PySem.Spec PyProof.Rows L2 LamX

/-! ### where a token is out: replace -/
structure VET (X : Cx) (T : List (Addr × Str)) (W : WX) (e : Expr) (m : M PV) : Prop where
  pe : PET X e (tG X.K X.mg T (RV X.K X.mg) W m)
structure VAT (X : Cx) (T : List (Addr × Str)) (W : WX) (es : List Expr) (m : M (List PV)) : Prop where
  pa : PAT X es (tG X.K X.mg T (RVs X.K X.mg) W m)
structure VSsT (X : Cx) (T : List (Addr × Str)) (I : Nat → Bool) (W : WX) (st : List Stmt) (m : MS) : Prop where
  ps : PSsT X st (tS X.K X.mg T I W m)
section
variable {X : Cx} {T : List (Addr × Str)} {I : Nat → Bool} {W : WX} {e o a b : Expr} {es : List Expr} {st : Stmt} {rest : List Stmt} {me mo ma mb : M PV} {ml : M (List PV)} {m1 m2 : MS} {pos : Pos}
theorem vet_of (h : VE X T W e me) : VET X T W e me := ⟨fun pins s σ H Q _ J q => h.pe.run pins s σ H Q J q⟩
def pRepl (y z : Str) : PV → Option PV
  | .str x => if x.length + (x.length + 1) * z.length ≤ 16777216 then some (.str (Txt.replace x y z)) else none
  | _ => none
theorem vet_repl {y z : Str} {j k : Nat} {c0 c1 apos : Pos} (ho : VE X T W o mo) (hyz : (y == z) = false := by decide)
    (hst : starEach [.Constant (.str y) j c0, .Constant (.str z) k c1] X.env = [(false, eval (.Constant (.str y) j c0) X.env), (false, eval (.Constant (.str z) k c1) X.env)] := by rfl)
    (hbase : attributeBase o "replace" X.env (eval o X.env) = eval o X.env := by rfl) (hline : (apos.endLine == pos.line) = true := by rfl) :
    VET X T W (.Call (.Attribute o "replace" apos) [.Constant (.str y) j c0, .Constant (.str z) k c1] [] pos) (mOp1 (pRepl y z) mo) := ⟨fun pins s σ H Q h0 J q => by
  refine CwR.pet_replC ho.pe hyz hst hbase hline pins s σ H Q h0 J ?_
  refine tG_step q fun pa ρ1 x w1 E1 r1 q1 => ?_
  obtain ⟨p, e, q2⟩ := tK_lift q1
  unfold pRepl at e
  split at e
  · rename_i x
    split at e
    · rename_i hz
      cases e
      exact ⟨x, r1, hz, q2 _ w1 (Ext.refl _) E1 rfl⟩
    · cases e
  · cases e⟩
theorem vat_nil : VAT X T W [] (M.pure []) := ⟨fun pos pins s σ H Q _ J q => (va_nil (W := W) (T := T)).pa.run pos pins s σ H Q J q⟩
theorem vat_cons (h1 : VET X T W a ma) (h2 : VAT X T W es ml) (hs : starEach (a :: es) X.env = (false, eval a X.env) :: starEach es X.env := by rfl) : VAT X T W (a :: es) (mCons ma ml) := ⟨fun pos pins s σ H Q h0 J q => by
  refine pat_cons h1.pe h2.pa hs pos pins s σ H Q h0 J ?_
  refine tG_step q fun pa ρ1 x w1 E1 r1 q1 => ?_
  refine tK_step E1 q1 fun pb ρ2 y w2 x2 E2 r2 q2 => ?_
  exact q2 _ w2 (Ext.refl _) E2 (.cons (r1.mono x2.g) r2)⟩
theorem vet_tup {x1} (h : VAT X T W es ml) : VET X T W (.Tuple es x1 pos) (mCallP (pSz .tup) ml) := ⟨fun pins s σ H Q h0 J q => by
  have q2 : tG X.K X.mg T (RVs X.K X.mg) W ml σ H fun xs H1 => xs.length ≤ sizeLine ∧ ∀ p, H1 p = none → Q (.ref p) (upd H1 p (.tup xs)) := by
    refine tG_step q fun pa ρ1 x w1 E1 r1 q1 => ?_
    obtain ⟨z, e, q2⟩ := tK_lift q1
    unfold pSz at e
    split at e
    · cases e
      rename_i hz
      exact ⟨by rw [← r1.length]; exact hz, (E1.done q2).tup E1.fz r1⟩
    · cases e
  refine wpAny_Tuple_spliced (thn (h.pa pos pins s σ H _ h0 J q2) fun us s1 ⟨xs, H1, J1, r, z, q3⟩ => ⟨by rw [← r.length]; exact z, ?_⟩)
  have hf : H1 s1.heap.objs.size = none := J1.hok.fresh (Nat.le_refl _)
  exact ⟨.ref s1.heap.objs.size, upd H1 s1.heap.objs.size (.tup xs), J1.laid (t' := s1.toks) (fun b u e => Heap.get?_push_of_some _ e) (Nat.le_refl _) ⟨z, us, r, ⟨_, Heap.get?_push_size _ rfl, rfl, _, rfl⟩⟩, rfl, q3 _ hf⟩⟩
theorem vsst_of (h : VSs X T I W rest m1) : VSsT X T I W rest m1 := ⟨PSsT.of h.ps⟩
theorem sq_in {D : Ends} {σ : St} {H : Hp} (q : tS X.K X.mg T I W (mSeq m1 m2) D σ H) : tSeq (tS X.K X.mg T I W m1) (tS X.K X.mg T I W m2) D σ H := by
  obtain ⟨ρ, w, rfl, E, q⟩ := q
  refine ⟨ρ, w, rfl, E, ?_⟩
  unfold mSeq at q
  cases e : m1 ρ with
  | nx ρ' =>
    rw [e] at q
    exact fun σ' w' x' E' k' => ⟨ρ', w', rfl, E', q.mono x' k'⟩
  | rt p ρ' => rw [e] at q; exact q
  | bk ρ' => rw [e] at q; exact q
  | ct ρ' => rw [e] at q; exact q
  | err x ρ' => rw [e] at q; exact q
  | bad => rw [e] at q; exact q
theorem vsst_cons (h1 : VS X T I W st m1) (h2 : VSsT X T I W rest m2) : VSsT X T I W (st :: rest) (mSeq m1 m2) := ⟨fun pins s σ H D h0 J q => psst_cons (PST.of h1.ps) h2.ps pins s σ H D h0 J (sq_in q)⟩
theorem vsst_ret (h : VET X T W e me) : VSsT X T I W [.Return (some e) pos] (mRet me) := ⟨fun pins s σ H D h0 J q => by
  refine CwR.psst_one (CwR.pst_ret h.pe) pins s σ H D h0 J ?_
  obtain ⟨ρ, w, rfl, E, q⟩ := q
  refine ⟨ρ, w, rfl, E, ?_⟩
  unfold mRet sThen at q
  cases em : me ρ with
  | bad => rw [em] at q; exact q
  | err x ρ' => rw [em] at q; exact fun cls d w' x' E' r => q cls d σ w' x' E' (Keep.refl _) r
  | ok p ρ' => rw [em] at q; exact fun v w' x' E' r => q v σ w' x' E' (Keep.refl _) r⟩
/-- an expression that gives a token out -/
structure Gives1 (X : Cx) (e : Expr) (t : TE) : Prop where
  run : ∀ (pins : List (Addr × Obj)) (s : Shared) (σ : St) (H : Hp) (Q : VK), Inv X pins σ H s → t σ H Q → wpAny (model X.prog X.w) X.A (eval e X.env) (fun v s1 => 1 ≤ s1.toks ∧ EP X pins σ Q v s1) X.xe s
structure VE1 (X : Cx) (T : List (Addr × Str)) (W : WX) (e : Expr) (m : M PV) : Prop where
  pe : Gives1 X e (tG X.K X.mg T (RV X.K X.mg) W m)
theorem ve1_str {x : Str} {j : Nat} {p : Pos} : VE1 X T W (.Constant (.str x) j p) (M.pure (.str x)) := ⟨⟨fun pins s σ H Q J q => by
  obtain ⟨ρ, w, rfl, E, q⟩ := q
  exact Calls.Constant_str ⟨by show 1 ≤ s.toks + 1; omega, .str x, w.H, J.tok _, ⟨_, rfl⟩, q _ w (Ext.refl _) E rfl⟩⟩⟩
theorem ve1_tup {z0 : Str} {j : Nat} {p : Pos} {x1} (h : VA X T W es ml) (hs : starEach (.Constant (.str z0) j p :: es) X.env = (false, eval (.Constant (.str z0) j p) X.env) :: starEach es X.env := by rfl) :
    VE1 X T W (.Tuple (.Constant (.str z0) j p :: es) x1 pos) (mCallP (pSz .tup) (mCons (M.pure (.str z0)) ml)) := ⟨⟨fun pins s σ H Q J q => by
  have q2 : tG X.K X.mg T (RVs X.K X.mg) W ml σ H fun xs H1 => (V.str z0 :: xs).length ≤ sizeLine ∧ ∀ p, H1 p = none → Q (.ref p) (upd H1 p (.tup (V.str z0 :: xs))) := by
    obtain ⟨ρ, w, rfl, E, q⟩ := q
    have q' : tK X.K X.mg T (RV X.K X.mg) W σ w Q ((M.bind ml fun xs => M.lift (pSz .tup (.str z0 :: xs))) ρ) := by
      have : (mCallP (pSz PV.tup) (mCons (M.pure (.str z0)) ml)) ρ = (M.bind ml fun xs => M.lift (pSz .tup (.str z0 :: xs))) ρ := by
        unfold mCallP mCons M.bind M.pure
        dsimp only
        cases ml ρ <;> rfl
      rw [this] at q; exact q
    refine tK_step E q' fun pa ρ1 x w1 x1 E1 r1 q1 => ?_
    obtain ⟨z, e, q2⟩ := tK_lift q1
    unfold pSz at e
    split at e
    · cases e
      rename_i hz
      have r2 : Reps X.K X.mg w1.G (PV.str z0 :: pa) (V.str z0 :: x) := .cons (show Rep X.K X.mg w1.G (.str z0) (.str z0) from rfl) r1
      refine ⟨by rw [← r2.length]; exact hz, (E1.done q2).tup E1.fz r2⟩
    · cases e
  refine wpAny_Tuple_spliced ?_
  rw [hs]
  show wpAny _ _ (spliced ((false, eval (.Constant (.str z0) j p) X.env) :: backTo pos (starEach es X.env))) _ _ s
  refine Calls.spliced_cons (Calls.Constant_str ?_)
  refine wpAny_mono (PySem.wpAny_toks (h.pa.run pos pins _ σ H _ (J.tok (s.toks + 1)) q2)) (fun us s1 hq => ?_) fun _ _ z => z.2
  obtain ⟨hk, xs, H1, J1, r, z, q3⟩ := hq
  have hk : s.toks + 1 ≤ s1.toks := hk
  have r2 : Vals (V.str z0 :: xs) (Value.str z0 s.toks :: us) := .cons ⟨_, rfl⟩ r
  refine ⟨by rw [← r2.length]; exact z, ?_⟩
  have hf : H1 s1.heap.objs.size = none := J1.hok.fresh (Nat.le_refl _)
  exact ⟨by show 1 ≤ s1.toks; omega, .ref s1.heap.objs.size, upd H1 s1.heap.objs.size (.tup (V.str z0 :: xs)), J1.laid (t' := s1.toks) (fun b u e => Heap.get?_push_of_some _ e) (Nat.le_refl _) ⟨z, _, r2, ⟨_, Heap.get?_push_size _ rfl, rfl, _, rfl⟩⟩, rfl, q3 _ hf⟩⟩⟩
/-- if a op b: .., a token out behind it -/
theorem vss_if1 {op : CmpOp} {f : PV → PV → Option PV} {sa : List Stmt} {ma' mb' : MS} {p2 : Pos} (ho : OpR X (compareOp op) (rP2 X.K X.mg f)) (ha : VE X T W a ma) (hb : VE1 X T W b mb) (hm : behindInMarks op b = false) (h1 : VSsT X T I W sa ma') (h2 : VSsT X T I W rest mb') :
    VSs X T I W (.If (.Compare a [op] [b] pos) sa [] p2 :: rest) (mSeq (mIfS (mTest (mOp2 f ma mb)) ma' mNext) mb') := ⟨⟨fun pins s σ H D J q => by
  have q := sq_in q
  refine wpAny_execs_cons (wpAny_If ?_)
  have q2 : tG X.K X.mg T (RV X.K X.mg) W (mOp2 f ma mb) σ H fun x H1 => ∃ k, x = .bl k ∧ tS X.K X.mg T I W (if k then ma' else mNext) { D with nx := tS X.K X.mg T I W mb' D } σ H1 := by
    obtain ⟨ρ, w, rfl, E, q⟩ := q
    refine ⟨ρ, w, rfl, E, ?_⟩
    unfold mIfS mTest sThen M.bind at q
    cases em : mOp2 f ma mb ρ with
    | bad => rw [em] at q; exact q
    | err x ρ' => rw [em] at q; exact fun cls d w' x' E' r => q cls d σ w' x' E' (Keep.refl _) r
    | ok p ρ1 =>
      rw [em] at q
      intro v w1 x1 E1 r1
      dsimp only [M.lift] at q
      cases p with
      | bl k =>
        cases r1
        refine ⟨k, rfl, ρ1, w1, rfl, E1, ?_⟩
        exact tKS.mono x1 (Keep.refl _) q
      | _ => exact q.elim
  have q3 := two q2
  refine wpAny_isTrue_Compare1 (thn (ha.pe.run pins s σ H _ J q3) fun v s1 ⟨x, H1, J1, rx, qx⟩ => thn (hb.pe.run pins s1 σ H1 _ J1 qx) fun u s2 ⟨hk, y, H2, J2, ry, qy⟩ => ?_) hm
  refine wpAny_mono (PySem.wpAny_toks (ho pins s2 σ H2 x y v u _ J2 rx ry qy)) (fun c s3 hq => ?_) fun _ _ z => z.2
  obtain ⟨hk2, z, H3, J3, rz, k, ez, qz⟩ := hq
  subst ez
  cases rz
  refine wpAny_truthy_bool ?_
  have ht : 1 ≤ s3.toks := Nat.le_trans hk hk2
  have fin : ∀ {fl : Flow} {s4 : Shared}, s3.toks ≤ s4.toks → SP X pins { D with nx := tS X.K X.mg T I W mb' D } fl s4 → (match fl with | .next => wpAny (model X.prog X.w) X.A (execs rest X.env) (SP X pins D) X.xe s4 | fl => SP X pins D fl s4) := fun {fl s4} hle h => by
    cases fl with
    | next => obtain ⟨σ', H', J', q'⟩ := h; exact h2.ps pins s4 σ' H' D (Nat.le_trans ht hle) J' q'
    | ret v => exact h
    | brk => exact h
    | cont => exact h
  cases k with
  | true => exact wpAny_mono (PySem.wpAny_toks (h1.ps pins s3 σ H3 _ ht J3 qz)) (fun fl s4 h => by have := fin h.1 h.2; cases fl <;> exact this) fun _ _ z => z.2
  | false =>
    refine wpAny_execs_nil ?_
    obtain ⟨ρ, w, rfl, E, qn⟩ := qz
    exact h2.ps pins s3 σ _ D ht J3 (qn σ w (Ext.refl _) E (Keep.refl _))⟩⟩
end
end VS

set_option Elab.async false
set_option linter.all false
set_option maxRecDepth 100000
set_option maxHeartbeats 1000000
namespace VS
open PySem PySem.Spec PyProof.Rows L2 LamX

/-! ### what is walked: a list, a tuple, a text -/
def anyP : PV → Option (List PV)
  | .str x => some (chrP x)
  | p => seqP p
def mAnyI (m : M PV) : M (List PV) := m.bind fun p => .lift (anyP p)
section
variable {X : Cx} {T : List (Addr × Str)} {I : Nat → Bool} {W : WX} {e tg : Expr} {ma : M PV}
theorem vi_any (he : VE X T W e ma) : VI X T W tg e (mAnyI ma) := ⟨((vi_seq (tg := tg) he).pi.orV (vi_str (tg := tg) he).pi).imV fun σ H R q => by
  obtain ⟨ρ, w, rfl, E, q⟩ := q
  cases em : ma ρ with
  | bad => unfold mAnyI M.bind at q; rw [em] at q; exact q.elim
  | err x ρ' =>
    refine .inl ⟨ρ, w, rfl, E, ?_⟩
    unfold mAnyI M.bind at q
    unfold mSeqI M.bind
    rw [em] at q ⊢
    exact q
  | ok p ρ' =>
    unfold mAnyI M.bind at q
    rw [em] at q
    cases p with
    | str x =>
      refine .inr ⟨ρ, w, rfl, E, ?_⟩
      unfold mStrI M.bind
      rw [em]
      exact q
    | _ =>
      refine .inl ⟨ρ, w, rfl, E, ?_⟩
      unfold mSeqI M.bind
      rw [em]
      exact q⟩
end

/-! ### defs, with what their bodies lean on -/
section
variable {P : Program} {w : World} {K : Frag} {mg : Str → Option Value} {base : Heap} {T : List (Addr × Str)} {x qual : Str} {st : Stmt} {f : Addr} {fd : FuncData} {N ps : List Str} {k : Nat} {I : Nat → Bool}
theorem units_of {A : Around} (hr : Room k A) : A.units + 64 < cLine := by have := hr.un; omega
theorem units1 {A : Around} (hr : Room k A) : A.units + 1 < cLine := by have := hr.un; omega
theorem unitsH {A : Around} (hr : L2H.RoomH k A) : A.units + 64 < cLine := by have := hr.un; omega
theorem fn_okT {mb : MS} (F : L2.Fun K x qual st f fd) (S : FnScope N ps (defScope st))
    (hb : ∀ (cdv : Value) (A : Around) (outer : List Env) (s : Shared) (H : Hp) (E : XK), Room k (A.deeper (envOfC qual (defScope st) s.heap.objs.size f cdv)) → Takes (cxOf (L2.CX P w) P w K mg base N qual (defScope st) f cdv A outer s H E) (WF E) →
      TK (cxOf (L2.CX P w) P w K mg base N qual (defScope st) f cdv A outer s H E) (WF E) →
      PassesOwn (model P w) (A.deeper (envOfC qual (defScope st) s.heap.objs.size f cdv)) (envOfC qual (defScope st) s.heap.objs.size f cdv) (cxOf (L2.CX P w) P w K mg base N qual (defScope st) f cdv A outer s H E).xe →
      VSs (cxOf (L2.CX P w) P w K mg base N qual (defScope st) f cdv A outer s H E) T I (WF E) (defBody st) mb) :
    FnOk P w K mg base (L2.CX P w) (k + 1) f fd ps (spV K mg T ps.length (fnM N.length ps.length I mb)) :=
  fn_ok F S fun cdv A outer s H E hr => hb cdv A outer s H E hr (takes_of rfl rfl rfl rfl) (TK.of rfl rfl (takes_of rfl rfl rfl rfl)) (passes_of (X := cxOf (L2.CX P w) P w K mg base N qual (defScope st) f cdv A outer s H E) (K := fun e s2 => L2.CX P w outer H s E e s2) rfl)
/-- .. the maker's code object known -/
theorem fn_okC {mb : MS} (F : L2.Fun K x qual st f fd) (S : FnScope N ps (defScope st))
    (hb : ∀ (cdv : Value) (A : Around) (outer : List Env) (s : Shared) (H : Hp) (E : XK), fd.code = cdv → Room k (A.deeper (envOfC qual (defScope st) s.heap.objs.size f cdv)) → Takes (cxOf (L2.CX P w) P w K mg base N qual (defScope st) f cdv A outer s H E) (WF E) →
      TK (cxOf (L2.CX P w) P w K mg base N qual (defScope st) f cdv A outer s H E) (WF E) →
      PassesOwn (model P w) (A.deeper (envOfC qual (defScope st) s.heap.objs.size f cdv)) (envOfC qual (defScope st) s.heap.objs.size f cdv) (cxOf (L2.CX P w) P w K mg base N qual (defScope st) f cdv A outer s H E).xe →
      VSs (cxOf (L2.CX P w) P w K mg base N qual (defScope st) f cdv A outer s H E) T I (WF E) (defBody st) mb) :
    FnOk P w K mg base (L2.CX P w) (k + 1) f fd ps (spV K mg T ps.length (fnM N.length ps.length I mb)) := by
  obtain ⟨oc, od, kV, doc, pm, an, cdv, ct, osl, rfl, lk, hcd⟩ := F.ex
  exact fn_of lk hcd S (fun vs H Q E h => h.1) fun A outer s H vs Q E hr h =>
    ⟨_, (hb cdv A outer s H E rfl hr (takes_of rfl rfl rfl rfl) (TK.of rfl rfl (takes_of rfl rfl rfl rfl)) (passes_of (X := cxOf (L2.CX P w) P w K mg base N qual (defScope st) f cdv A outer s H E) (K := fun e s2 => L2.CX P w outer H s E e s2) rfl)).ps, body_ok h⟩
theorem fn_okET {mb : Addr → Option Addr → Str → MS} (F : L2.Fun K x qual st f fd) (S : FnScope N ps (defScope st))
    (hb : ∀ (cdv : Value) (A : Around) (outer : List Env) (s : Shared) (H : Hp) (E : XK) (p : Addr × Obj) (d : Option Addr) (C : Str), L2H.RoomH k (A.deeper (envOfC qual (defScope st) s.heap.objs.size f cdv)) → ExAt (L2H.cxH (L2.CX P w) P w K mg base N qual (defScope st) f cdv A outer s H E p) p.1 d C →
      TK (L2H.cxH (L2.CX P w) P w K mg base N qual (defScope st) f cdv A outer s H E p) (WF E) → VSs (L2H.cxH (L2.CX P w) P w K mg base N qual (defScope st) f cdv A outer s H E p) T I (WF E) (defBody st) (mb p.1 d C)) :
    FnE P w K mg base (L2.CX P w) (k + 1) f fd ps (spE K mg T ps.length fun a d C => fnM N.length ps.length I (mb a d C)) :=
  fn_okE F S fun cdv A outer s H E p d C hr hE => hb cdv A outer s H E p d C hr hE (TK.of rfl rfl (takes_of rfl rfl rfl rfl))
theorem fn_okOT {mb : M OV} (F : L2.Fun K x qual st f fd) (S : FnScope N ps (defScope st))
    (hb : ∀ (cdv : Value) (A : Around) (outer : List Env) (s : Shared) (H : Hp) (E : XK), Room k (A.deeper (envOfC qual (defScope st) s.heap.objs.size f cdv)) → Takes (cxOf (L2.CX P w) P w K mg base N qual (defScope st) f cdv A outer s H E) (WF E) →
      TK (cxOf (L2.CX P w) P w K mg base N qual (defScope st) f cdv A outer s H E) (WF E) →
      PassesOwn (model P w) (A.deeper (envOfC qual (defScope st) s.heap.objs.size f cdv)) (envOfC qual (defScope st) s.heap.objs.size f cdv) (cxOf (L2.CX P w) P w K mg base N qual (defScope st) f cdv A outer s H E).xe →
      VRO (cxOf (L2.CX P w) P w K mg base N qual (defScope st) f cdv A outer s H E) T I (WF E) (defBody st) mb) :
    FnOk P w K mg base (L2.CX P w) (k + 1) f fd ps (spO K mg T ps.length (fnMO N.length ps.length I mb)) :=
  fn_okO F S fun cdv A outer s H E hr => hb cdv A outer s H E hr (takes_of rfl rfl rfl rfl) (TK.of rfl rfl (takes_of rfl rfl rfl rfl)) (passes_of (X := cxOf (L2.CX P w) P w K mg base N qual (defScope st) f cdv A outer s H E) (K := fun e s2 => L2.CX P w outer H s E e s2) rfl)
/-- of a mirror that says nothing -/
theorem fn_bad {n : Nat} (hn : n = ps.length) : FnOk P w K mg base (L2.CX P w) k f fd ps (spV K mg T n fun _ => .bad) :=
  ⟨fun vs H Q E h => h.1.trans hn, fun A outer s H args us vs Q E hr e0 b r h => by
    obtain ⟨_, _, _, _, _, z⟩ := h
    exact z.elim⟩

/-! ### an own exception's __init__: its fields are stored one by one -/
def tFlds (K : Frag) : List (Str × Nat) → TS
  | [] => tNext
  | (f, i) :: r => tSeq (tOst K f (tVar 0) (tVar i)) (tFlds K r)
theorem flds_ok {C a d : Addr} {D : Ends} {σ : St} (T : OexC K C) (h0 : σ[0]? = some (some (.ref a))) : ∀ (r : List (Str × Nat)) (ws : List V) (fs : List (Str × V)) (H : Hp), H a = some (exo a C (some d)) → H d = some (exd d fs) → a ≠ d → fs.length + r.length ≤ 900 → ws.length = r.length →
    (∀ (j : Nat) f i v, r[j]? = some (f, i) → ws[j]? = some v → σ[i]? = some (some v) ∧ PySem.W.findIn K (.ref C) f = some none) → D.nx σ (upd H d (exd d (((r.map (·.1)).zip ws).reverse ++ fs))) → tFlds K r D σ H
  | [], ws, fs, H, ha, hd, ne, hl, hw, hs, q => by
    have : upd H d (exd d fs) = H := by
      funext b
      by_cases hb : b = d
      · rw [hb, upd_same, hd]
      · rw [upd_ne hb]
    have q : D.nx σ (upd H d (exd d fs)) := q
    rw [this] at q
    exact q
  | (f, i) :: r, [], fs, H, ha, hd, ne, hl, hw, hs, q => by cases hw
  | (f, i) :: r, v :: ws, fs, H, ha, hd, ne, hl, hw, hs, q => by
    obtain ⟨h1, h2⟩ := hs 0 f i v rfl rfl
    refine ⟨v, h1, .ref a, h0, a, C, rfl, T, h2, .inr ⟨d, fs, ha, hd, by simp at hl; omega, ?_⟩⟩
    refine flds_ok T h0 r ws ((f, v) :: fs) _ (by rw [upd_ne ne]; exact ha) upd_same ne (by simp at hl ⊢; omega) (by simpa using hw) (fun j f i v e1 e2 => hs (j + 1) f i v (by simpa using e1) (by simpa using e2)) ?_
    have e : upd (upd H d (exd d ((f, v) :: fs))) d (exd d (((r.map (·.1)).zip ws).reverse ++ (f, v) :: fs)) = upd H d (exd d (((((f, i) :: r).map (·.1)).zip (v :: ws)).reverse ++ fs)) := by
      funext b
      by_cases hb : b = d
      · rw [hb, upd_same, upd_same]; simp
      · rw [upd_ne hb, upd_ne hb, upd_ne hb]
    rw [e]; exact q
theorem flds_new {C : Addr} {vs : List V} {H : Hp} {Q : VK} {E : XK} {f : Str} {r : List Str} (T : OexC K C) (hno : ∀ g ∈ f :: r, PySem.W.findIn K (.ref C) g = some none) (hr : r.length ≤ 800) (hN : N.length = r.length + 2) (h : spXI C (f :: r) vs H Q E) :
    tSeq (tOst K f (tVar 0) (tVar 1)) (tFlds K (r.zipIdx 2)) { nx := fun _ H' => Q .non H', rt := Q } (L2.start N vs) H := by
  obtain ⟨a, ws, rfl, hl, _, ha, q⟩ := h
  cases ws with
  | nil => cases hl
  | cons v ws =>
    have hl : ws.length = r.length := by simpa using hl
    have st : L2.start N (.ref a :: v :: ws) = (V.ref a :: v :: ws).map some := by
      unfold L2.start
      have : N.length - (V.ref a :: v :: ws).length = 0 := by simp; omega
      rw [this]; simp
    rw [st]
    refine ⟨v, rfl, .ref a, rfl, a, C, rfl, T, hno f List.mem_cons_self, .inl ⟨ha, fun d hd ne => ?_⟩⟩
    have ne2 : a ≠ d := Ne.symm ne
    refine flds_ok (d := d) T rfl _ ws [(f, v)] _ upd_same (by rw [upd_ne ne]; exact upd_same) ne2 (by simp; omega) (by rw [hl]; simp) (fun j g i u e1 e2 => ?_) ?_
    · rw [List.getElem?_zipIdx] at e1
      cases e3 : r[j]? with
      | none => rw [e3] at e1; cases e1
      | some g2 =>
        rw [e3] at e1
        cases e1
        refine ⟨?_, hno _ (List.mem_cons_of_mem _ (List.mem_of_getElem? e3))⟩
        rw [show 2 + j = (j + 1) + 1 by omega, List.map_cons, List.getElem?_cons_succ, List.map_cons, List.getElem?_cons_succ, List.getElem?_map, e2]
        rfl
    · have e1 : (r.zipIdx 2).map (·.1) = r := by simp
      rw [e1]
      have e2 : upd (upd (upd H d (exd d [(f, v)])) a (exo a C (some d))) d (exd d ((r.zip ws).reverse ++ [(f, v)])) = upd (upd H a (exo a C (some d))) d (exd d ((f :: r).zip (v :: ws)).reverse) := by
        funext b
        by_cases hb : b = d
        · rw [hb, upd_same, upd_same]; simp
        · rw [upd_ne hb, upd_ne hb]
          by_cases hb2 : b = a
          · rw [hb2, upd_same, upd_same]
          · rw [upd_ne hb2, upd_ne hb2, upd_ne hb]
      rw [e2]; exact q d hd
/-- .. as a def's promise -/
theorem init_ok {C : Addr} {g : Str} {r : List Str} (F : L2.Fun K x qual st f fd) (S : FnScope N ps (defScope st)) (T : OexC K C) (hno : ∀ h ∈ g :: r, PySem.W.findIn K (.ref C) h = some none) (hr : r.length ≤ 800) (hN : N.length = r.length + 2) (hp : ps.length = r.length + 2)
    (hb : ∀ (cdv : Value) (A : Around) (outer : List Env) (s : Shared) (H : Hp) (E : XK), PSs (cxOf (L2.CX P w) P w K mg base N qual (defScope st) f cdv A outer s H E) (defBody st) (tSeq (tOst K g (tVar 0) (tVar 1)) (tFlds K (r.zipIdx 2)))) :
    FnOk P w K mg base (L2.CX P w) (k + 1) f fd ps (spXI C (g :: r)) := by
  refine F.okX S (fun vs H Q E ⟨a, ws, e, hl, _⟩ => ?_) fun cdv A outer s H vs Q E _ h => ⟨_, hb cdv A outer s H E, flds_new T hno hr hN h⟩
  rw [e, hp]; simp at hl ⊢; exact hl
end
end VS

set_option Elab.async false
set_option linter.all false
set_option maxRecDepth 100000
set_option maxHeartbeats 1000000
namespace VS
open PySem PySem.Spec PyProof.Rows L2 LamX

/-! ### names of the module, of the builtins -/
/-- a global name's value, frozen -/
structure GlV (K : Frag) (mg : Str → Option Value) (x : Str) (p : PV) : Prop where
  ex : ∃ u v, mg x = some u ∧ RelV v u ∧ ∀ G, Rep K mg G p v
section
variable {X : Cx} {T : List (Addr × Str)} {I : Nat → Bool} {W : WX} {e o ke : Expr} {ma mk : M PV} {pos : Pos}
theorem ve_gl {x : Str} {p : PV} (hg : Gl X x) (h : GlV X.K X.mg x p) (hd : (x == ("__debug__" : Str)) = false := by decide) : VE X T W (.Name x pos) (M.pure p) := by
  obtain ⟨u, v, hm, r, hr⟩ := h.ex
  exact ve_const (pe_glob hg hm r hd) hr
theorem ve_fn {x : Str} {f : Addr} (hg : Gl X x) (hm : X.mg x = some (.ref f)) (hd : (x == ("__debug__" : Str)) = false := by decide) : VE X T W (.Name x pos) (M.pure (.glob x)) := ve_const (pe_glob (v := .ref f) hg hm rfl hd) fun _ => ⟨f, hm, rfl⟩
theorem ve_ty {x : Str} {n : String} (hg : Gl X x) (hm : X.mg x = none) (hv : bootBuiltins x = some (.type n)) (hn : x ≠ "__name__" := by decide) (hd : (x == ("__debug__" : Str)) = false := by decide) : VE X T W (.Name x pos) (M.pure (.ty n)) :=
  ve_const (pe_bltn (v := .ty n) hg hm hv rfl hn hd) fun _ => rfl
end
/-! ### told(lambda: body) in one word -/
/-- what the def that is told, and the table of the lambda's maker, must say -/
structure ToldBy (X : Cx) (T : List (Addr × Str)) (I : Nat → Bool) (x a y n e : Str) (st : Stmt) (g : Addr) (fd : FuncData) (CS : Addr) (ms : Addr → Option Addr → Str → MS) : Prop where
  F : L2.Fun X.K x x st g fd
  hm : X.mg x = some (.ref g)
  hb : L2.Binds X.K fd [a] []
  S : FnScope [a, y, n] [a] (defScope st)
  G : ∀ cdv, Gets X [a, y, n] x (defScope st) g cdv (defBody st) a (X.env.qual ++ "<lambda>") (TTt X T I CS ms)
theorem ve_told {X : Cx} {T : List (Addr × Str)} {I : Nat → Bool} {W : WX} {x a y n e : Str} {st : Stmt} {g c P : Addr} {fd : FuncData} {CS : Addr} {ms : Addr → Option Addr → Str → MS} {k : Nat} {params : Arguments} {body : Expr} {scope : Scope} {p lpos pos : Pos} {mk : Exn → Option PV} {mb : M PV} (B : ToldBy X T I x a y n e st g fd CS ms) (hk : Told X CS mk ms)
    (hg : Gl X x) (hva : Vis (defScope st) a) (TB : TabB X.base X.mg c P) (hcode : X.env.code = .ref c) (hmT : (P, X.env.qual ++ "<lambda>") ∈ T) (hu : ∀ p ∈ T, p.1 = P → p.2 = X.env.qual ++ "<lambda>") (hr : Room (k + 2) X.A) (hk2 : 2 ≤ k) (L : LamS X.env.scope scope) (hdef : defaultsOf params X.env = ([], []))
    (bd : ∀ (q : Str) (cl : List (Str × Addr)) (pm cv ctv : Value), bindArgs (PySem.W.kla_fn "<lambda>" q params body scope cl pm cv ctv) ⟨[], []⟩ = pure [])
    (hbody : ∀ (A : Around) (outer : List Env) (s : Shared) (H : Hp) (E : XK) (f c' : Addr), Room k (A.deeper (lamEnv X scope s.heap.objs.size f c')) → TK (lamCx X A outer s H E scope f c') (WF E) → VE (lamCx X A outer s H E scope f c') T (WF E) body mb)
    (hdb : (x == ("__debug__" : Str)) = false := by decide) (hd : (a == ("__debug__" : Str)) = false := by decide) (hcd : (a == ("__classdict__" : Str)) = false := by decide) : VE X T W (.Call (.Name x p) [.Lambda params body scope lpos] [] pos) (mTold mk mb) := by
  obtain ⟨F, hm, hb, S, G⟩ := B
  obtain ⟨oc, od, kV, doc, pm, an, cdv, ct, osl, rfl, lk, hcg⟩ := F.ex
  refine ⟨(lam_call (t := fun E => tG X.K X.mg T (RV X.K X.mg) (WF E) mb) hg hm F.kp lk hcg hb S rfl hva (G cdv) TB hcode hmT hu hr hk2 L hdef bd (fun A outer s H E f c' hr2 => (hbody A outer s H E f c' hr2 (TK.of rfl rfl (takes_of rfl rfl rfl rfl))).pe) hdb hd hcd).imV fun σ H Q q => ?_⟩
  exact told_in hk q
/-! ### a call without arguments -/
theorem ve_call0 {X : Cx} {T : List (Addr × Str)} {W : WX} {k : Nat} {f : Addr} {fd : FuncData} {ps : List Str} {x : Str} {p pos : Pos} {mf : M PV} (F : FnOk X.prog X.w X.K X.mg X.base (L2.CX X.prog X.w) k f fd ps (spV X.K X.mg T 0 mf)) (hr : Room k X.A) (hg : Gl X x) (hm : X.mg x = some (.ref f)) (hk : PySem.W.keepIn X.K (.ref f) = true)
    (hb : Binds X.K fd ps []) (tk : ∀ σ, PassesAt (L2.CX X.prog X.w) X σ (WE W σ)) (hdb : (x == ("__debug__" : Str)) = false := by decide) : VE X T W (.Call (.Name x p) [] [] pos) (mCall mf (M.pure [])) := by
  refine ⟨⟨fun pins s σ H Q J q => ?_⟩⟩
  refine wpAny_Call_Name_kw (ld_glob J hg hm ?_ hdb)
  refine PySem.W.callWith_K0 J.kIn hk ?_
  obtain ⟨ρ, w, rfl, E, q⟩ := q
  exact run_fnS (us := []) (vs := []) F hr hb (tk σ) J .nil (sp_of E .nil rfl q)
end VS

set_option Elab.async false
set_option linter.all false
set_option maxRecDepth 100000
set_option maxHeartbeats 1000000
namespace VS
open PySem PySem.Spec PyProof.Rows L2

/-! ### mirrors, evaluated -/
def Res.bnd {α β : Type} (r : Res α) (k : α → M β) : Res β := match r with
  | .ok a ρ => k a ρ
  | .err x ρ => .err x ρ
  | .bad => .bad
def Res.bndS {α : Type} (r : Res α) (k : α → MS) : SR := match r with
  | .ok a ρ => k a ρ
  | .err x ρ => .err x ρ
  | .bad => .bad
def SR.thn (r : SR) (k : MS) : SR := match r with
  | .nx ρ => k ρ
  | r => r
section
variable {α β : Type} {a : α} {ρ ρ' : PEnv} {x : Exn} {p : PV} {s : Sl}
theorem e_ok {k : α → M β} : Res.bnd (.ok a ρ) k = k a ρ := rfl
theorem e_err {k : α → M β} : Res.bnd (.err x ρ : Res α) k = .err x ρ := rfl
theorem e_bad {k : α → M β} : Res.bnd (.bad : Res α) k = .bad := rfl
theorem e_okS {k : α → MS} : Res.bndS (.ok a ρ) k = k a ρ := rfl
theorem e_errS {k : α → MS} : Res.bndS (.err x ρ : Res α) k = .err x ρ := rfl
theorem e_badS {k : α → MS} : Res.bndS (.bad : Res α) k = .bad := rfl
theorem e_nx {k : MS} : SR.thn (.nx ρ) k = k ρ := rfl
theorem e_rt {k : MS} : SR.thn (.rt p ρ) k = .rt p ρ := rfl
theorem e_bk {k : MS} : SR.thn (.bk ρ) k = .bk ρ := rfl
theorem e_ct {k : MS} : SR.thn (.ct ρ) k = .ct ρ := rfl
theorem e_ex {k : MS} : SR.thn (.err x ρ) k = .err x ρ := rfl
theorem e_bd {k : MS} : SR.thn .bad k = .bad := rfl
theorem e_bind {m : M α} {k : α → M β} : M.bind m k ρ = Res.bnd (m ρ) k := by unfold M.bind Res.bnd; cases m ρ <;> rfl
theorem e_pure : M.pure a ρ = .ok a ρ := rfl
theorem e_some : M.lift (some a) ρ = .ok a ρ := rfl
theorem e_none : M.lift (none : Option α) ρ = .bad := rfl
theorem e_op1 {f : PV → Option PV} {m : M PV} : mOp1 f m ρ = Res.bnd (m ρ) fun y => M.lift (f y) := e_bind
theorem e_op2 {f : PV → PV → Option PV} {m n : M PV} : mOp2 f m n ρ = Res.bnd (m ρ) fun y => M.bind n fun z => M.lift (f y z) := e_bind
theorem e_cons {m : M PV} {n : M (List PV)} : mCons m n ρ = Res.bnd (m ρ) fun y => M.bind n fun ys => M.pure (y :: ys) := e_bind
def boolP : PV → Option Bool
  | .bl b => some b
  | _ => none
theorem e_test {m : M PV} : mTest m ρ = Res.bnd (m ρ) fun y => M.lift (boolP y) := by
  unfold mTest
  rw [e_bind]
  congr
theorem e_callP {f : List PV → Option PV} {m : M (List PV)} : mCallP f m ρ = Res.bnd (m ρ) fun ys => M.lift (f ys) := e_bind
theorem e_if {c : M Bool} {m n : M PV} : mIf c m n ρ = Res.bnd (c ρ) fun t => if t then m else n := e_bind
theorem e_and {m n : M Bool} : mAnd m n ρ = Res.bnd (m ρ) fun t => if t then n else M.pure false := e_bind
theorem e_or {m n : M Bool} : mOr m n ρ = Res.bnd (m ρ) fun t => if t then M.pure true else n := e_bind
theorem e_not {m : M Bool} : mNot m ρ = Res.bnd (m ρ) fun t => M.pure (!t) := e_bind
def andK (n : M PV) : PV → M PV
  | .bl true => n
  | .bl false => M.pure (.bl false)
  | _ => fun _ => .bad
def orK (n : M PV) : PV → M PV
  | .bl true => M.pure (.bl true)
  | .bl false => n
  | _ => fun _ => .bad
theorem e_andV {m n : M PV} : mAndV m n ρ = Res.bnd (m ρ) (andK n) := by
  unfold mAndV
  rw [e_bind]
  congr
theorem e_orV {m n : M PV} : mOrV m n ρ = Res.bnd (m ρ) (orK n) := by
  unfold mOrV
  rw [e_bind]
  congr
theorem e_andT {n : M PV} : andK n (.bl true) = n := rfl
theorem e_andF {n : M PV} : andK n (.bl false) = M.pure (.bl false) := rfl
theorem e_orT {n : M PV} : orK n (.bl true) = M.pure (.bl true) := rfl
theorem e_orF {n : M PV} : orK n (.bl false) = n := rfl
def chK (g : PV → PV → Option PV) (c : M PV) (y : PV) : PV → M PV
  | .bl true => M.bind c fun z => M.lift (g y z)
  | .bl false => M.pure (.bl false)
  | _ => fun _ => .bad
theorem e_chain {f g : PV → PV → Option PV} {a b c : M PV} : mChain f g a b c ρ = Res.bnd (a ρ) fun y => M.bind b fun z => M.bind (M.lift (f y z)) (chK g c z) := by
  unfold mChain
  rw [e_bind]
  congr
theorem e_chT {g : PV → PV → Option PV} {c : M PV} {y : PV} : chK g c y (.bl true) = M.bind c fun z => M.lift (g y z) := rfl
theorem e_chF {g : PV → PV → Option PV} {c : M PV} {y : PV} : chK g c y (.bl false) = M.pure (.bl false) := rfl
def partP : PV → Option (Option Int)
  | .int i => some (some i)
  | _ => none
theorem e_part {m : M PV} : mPart m ρ = Res.bnd (m ρ) fun y => M.lift (partP y) := by
  unfold mPart
  rw [e_bind]
  congr
theorem e_sl {f : PV → Option Int → Option Int → Option PV} {a : M PV} {lo hi : M (Option Int)} : mSl f a lo hi ρ = Res.bnd (a ρ) fun y => M.bind lo fun l => M.bind hi fun u => M.lift (f y l u) := e_bind
def varS (i : Nat) (ρ : PEnv) : Option Sl → Res PV
  | some (.fr p) => .ok p ρ
  | some (.ow o) => .ok (frzO o) (ρ.set i (.fr (frzO o)))
  | _ => .bad
theorem e_var {i : Nat} : mVar i ρ = varS i ρ ρ[i]? := rfl
theorem e_varF {i : Nat} : varS i ρ (some (.fr p)) = .ok p ρ := rfl
theorem e_varO {i : Nat} {o : OV} : varS i ρ (some (.ow o)) = .ok (frzO o) (ρ.set i (.fr (frzO o))) := rfl
def lookS (ρ : PEnv) : Option Sl → Res PV
  | some (.fr p) => .ok p ρ
  | some (.ow o) => .ok (frzO o) ρ
  | _ => .bad
theorem e_look {i : Nat} : mLook i ρ = lookS ρ ρ[i]? := rfl
theorem e_lookF : lookS ρ (some (.fr p)) = .ok p ρ := rfl
theorem e_lookO {o : OV} : lookS ρ (some (.ow o)) = .ok (frzO o) ρ := rfl
theorem e_look1 {f : PV → Option PV} {m : M PV} : mLook1 f m ρ = Res.bnd (m ρ) fun y => M.lift (pl1 f y) := e_bind
theorem e_argV {m : M PV} {n : M (List Arg)} : mArgV m n ρ = Res.bnd (m ρ) fun y => M.bind n fun ys => M.pure (.val y :: ys) := e_bind
theorem e_argS {i : Nat} {n : M (List Arg)} : mArgS i n ρ = Res.bnd (mSlot i ρ) fun y => M.bind n fun ys => M.pure (y :: ys) := e_bind
def slotS (i : Nat) (ρ : PEnv) : Option Sl → Res Arg
  | some (.fr p) => .ok (.val p) ρ
  | some (.ow _) => .ok (.slot i) ρ
  | _ => .bad
theorem e_slot {i : Nat} : mSlot i ρ = slotS i ρ ρ[i]? := rfl
theorem e_slotF {i : Nat} : slotS i ρ (some (.fr p)) = .ok (.val p) ρ := rfl
theorem e_slotO {i : Nat} {o : OV} : slotS i ρ (some (.ow o)) = .ok (.slot i) ρ := rfl
theorem e_call {mf : M PV} {ms : M (List Arg)} : mCall mf ms ρ = Res.bnd (ms ρ) (callR mf) := e_bind
theorem e_frz {m : M OV} : mFrzM m ρ = Res.bnd (m ρ) fun o => M.pure (frzO o) := e_bind
theorem e_lstO {m : M (List PV)} : mLstO m ρ = Res.bnd (m ρ) fun ps => M.lift (if ps.length ≤ sizeLine then some (.lst ps) else none) := e_bind
theorem e_listO {m : M PV} : mListO m ρ = Res.bnd (m ρ) fun p => M.lift ((seqP p).map .lst) := e_bind
theorem e_anyI {m : M PV} : mAnyI m ρ = Res.bnd (m ρ) fun p => M.lift (anyP p) := e_bind
theorem e_sThen {m : M α} {k : α → MS} : sThen m k ρ = Res.bndS (m ρ) k := by unfold sThen Res.bndS; cases m ρ <;> rfl
theorem e_seq {m n : MS} : mSeq m n ρ = SR.thn (m ρ) n := by unfold mSeq SR.thn; cases m ρ <;> rfl
theorem e_next : mNext ρ = .nx ρ := rfl
theorem e_brk : mBrk ρ = .bk ρ := rfl
theorem e_cnt : mCnt ρ = .ct ρ := rfl
theorem e_ret {m : M PV} : mRet m ρ = Res.bndS (m ρ) fun p ρ => .rt p ρ := e_sThen
theorem e_drop {m : M α} : mDrop m ρ = Res.bndS (m ρ) fun _ ρ => .nx ρ := e_sThen
theorem e_set {i : Nat} {m : M PV} : mSet i m ρ = Res.bndS (m ρ) fun p ρ => .nx (ρ.set i (.fr p)) := e_sThen
theorem e_setO {i : Nat} {m : M OV} : mSetO i m ρ = Res.bndS (m ρ) fun o ρ => .nx (ρ.set i (.ow o)) := e_sThen
theorem e_ifS {c : M Bool} {m n : MS} : mIfS c m n ρ = Res.bndS (c ρ) fun t => if t then m else n := e_sThen
theorem e_raise {m : M Exn} : mRaise m ρ = Res.bndS (m ρ) fun x ρ => .err x ρ := e_sThen
theorem e_exn {C : Str} {ks : List Str} {m : M (List PV)} : mExn C ks m ρ = Res.bnd (m ρ) fun ps => M.lift (if ps.length = ks.length ∧ ps.length ≤ 900 then some ⟨C, ks.reverse, ps.reverse⟩ else none) := e_bind
theorem e_m1 {f : PV → List PV → Option PV} {o e : M PV} {z : Str} (h : o ρ = .ok (.str z) ρ') : mM1 f o e ρ = Res.bnd (e ρ') fun y => M.lift (f (.str z) [y]) := by
  unfold mM1
  rw [e_bind, h]
  exact e_bind
theorem e_for {mi : M (List PV)} {g : MG} {b : MS} : mFor mi g b ρ = Res.bndS (mi ρ) fun ps => forM (bodyM g b) ps := e_sThen
theorem e_told {mk : Exn → Option PV} {m : M PV} : mTold mk m ρ = (match m ρ with
  | .ok _ ρ' => .ok .non ρ'
  | .err x ρ' => (match mk x with
    | some p => .ok p ρ'
    | none => .bad)
  | .bad => .bad) := rfl

def appK (i : Nat) (p : PV) (ρ : PEnv) : Option Sl → SR
  | some (.ow (.lst ps)) => if ps.length < sizeLine then .nx (ρ.set i (.ow (.lst (ps ++ [p])))) else .bad
  | _ => .bad
def appS (i : Nat) (m : M PV) (ρ : PEnv) : Option Sl → SR
  | some (.ow (.lst _)) => Res.bndS (m ρ) fun p ρ' => appK i p ρ' ρ'[i]?
  | _ => .bad
theorem e_append {i : Nat} {m : M PV} : mAppend i m ρ = appS i m ρ ρ[i]? := by
  unfold mAppend appS
  cases h : ρ[i]? with
  | none => rfl
  | some sl => cases sl with
    | no => rfl
    | fr p => rfl
    | ow o => cases o with
      | lst ps => exact e_sThen
      | rows rs => rfl
      | dic ks ps => rfl
      | ins C ks ps => rfl
theorem e_appS {i : Nat} {m : M PV} {ps : List PV} : appS i m ρ (some (.ow (.lst ps))) = Res.bndS (m ρ) fun p ρ' => appK i p ρ' ρ'[i]? := rfl
theorem e_appK {i : Nat} {ps : List PV} : appK i p ρ (some (.ow (.lst ps))) = if ps.length < sizeLine then .nx (ρ.set i (.ow (.lst (ps ++ [p])))) else .bad := rfl
def extK (i : Nat) (p : PV) (ρ : PEnv) : Option Sl → SR
  | some (.ow (.lst ps)) => (match p with
    | .lst qs => if ps.length + qs.length ≤ sizeLine then .nx (ρ.set i (.ow (.lst (ps ++ qs)))) else .bad
    | _ => .bad)
  | _ => .bad
def augK (f : Int → Int → Int) (i : Nat) (a : Int) (p : PV) (ρ : PEnv) : SR := match p with
  | .int b => .nx (ρ.set i (.fr (.int (f a b))))
  | _ => .bad
def augS (f : Int → Int → Int) (i : Nat) (m : M PV) (ρ : PEnv) : Option Sl → SR
  | some (.fr (.int a)) => Res.bndS (m ρ) (augK f i a)
  | _ => .bad
theorem e_aug {f : Int → Int → Int} {i : Nat} {m : M PV} : mAug f i m ρ = augS f i m ρ ρ[i]? := by
  unfold mAug augS
  cases h : ρ[i]? with
  | none => rfl
  | some sl => cases sl with
    | no => rfl
    | ow o => rfl
    | fr p => cases p with
      | int a => exact e_sThen
      | _ => rfl
theorem e_augS {f : Int → Int → Int} {i : Nat} {m : M PV} {a : Int} : augS f i m ρ (some (.fr (.int a))) = Res.bndS (m ρ) (augK f i a) := rfl
theorem e_augK {f : Int → Int → Int} {i : Nat} {a b : Int} : augK f i a (.int b) ρ = .nx (ρ.set i (.fr (.int (f a b)))) := rfl
theorem e_pair {i j : Nat} {m n : M Sl} : mPairS i j m n ρ = Res.bndS (m ρ) fun p => sThen n fun q ρ => .nx ((ρ.set i p).set j q) := e_sThen
theorem e_fr {m : M PV} : mFr m ρ = Res.bnd (m ρ) fun p => M.pure (.fr p) := e_bind
theorem e_ow {m : M OV} : mOw m ρ = Res.bnd (m ρ) fun p => M.pure (.ow p) := e_bind

/-! ### calls -/
theorem idx_vals : ∀ {as : List Arg} {j : Nat}, as.filterMap slotOf = [] → idx j as = none
  | [], _, _ => rfl
  | .val _ :: r, j, h => by
    unfold idx
    rw [idx_vals (as := r) (j := j) (by simpa [slotOf] using h)]
    rfl
  | .slot _ :: r, _, h => by simp [slotOf] at h
theorem putBack_vals {as : List Arg} {ss : List Sl} (h : as.filterMap slotOf = []) : ∀ (j : Nat) (ρ : PEnv), putBack as ss j ρ = ρ
  | _, [] => rfl
  | j, s :: r => by
    unfold putBack
    rw [idx_vals h, putBack_vals h (j + 1) r]
theorem argSl_vals {ps : List PV} : argSl ρ (ps.map Arg.val) = some (ps.map Sl.fr) := by
  induction ps with
  | nil => rfl
  | cons p ps ih =>
    show (argSl ρ (ps.map Arg.val)).map (Sl.fr p :: ·) = _
    rw [ih]; rfl
theorem vals_slots {ps : List PV} : (ps.map Arg.val).filterMap slotOf = [] := by
  induction ps with
  | nil => rfl
  | cons p ps ih => simpa [slotOf] using ih
theorem callR_ok {mf : M PV} {ps : List PV} {ss : PEnv} (h : mf (ps.map Sl.fr) = .ok p ss) : callR mf (ps.map Arg.val) ρ = .ok p ρ := by
  unfold callR
  rw [if_pos (by rw [vals_slots]; exact List.nodup_nil), argSl_vals]
  dsimp only
  rw [h]
  dsimp only
  rw [putBack_vals vals_slots]
theorem callR_err {mf : M PV} {ps : List PV} {ss : PEnv} (h : mf (ps.map Sl.fr) = .err x ss) : callR mf (ps.map Arg.val) ρ = .err x ρ := by
  unfold callR
  rw [if_pos (by rw [vals_slots]; exact List.nodup_nil), argSl_vals]
  dsimp only
  rw [h]
  dsimp only
  rw [putBack_vals vals_slots]
/-- what a def gives, its arguments frozen -/
def Gives (mf : M PV) (ps : List PV) (p : PV) : Prop := ∃ ss, mf (ps.map Sl.fr) = .ok p ss
def Throws (mf : M PV) (ps : List PV) (x : Exn) : Prop := ∃ ss, mf (ps.map Sl.fr) = .err x ss
theorem c1 {mf : M PV} {a : PV} (h : Gives mf [a] p) : callR mf [.val a] ρ = .ok p ρ := h.elim fun _ h => callR_ok (ps := [a]) h
theorem c2 {mf : M PV} {a b : PV} (h : Gives mf [a, b] p) : callR mf [.val a, .val b] ρ = .ok p ρ := h.elim fun _ h => callR_ok (ps := [a, b]) h
theorem c3 {mf : M PV} {a b c : PV} (h : Gives mf [a, b, c] p) : callR mf [.val a, .val b, .val c] ρ = .ok p ρ := h.elim fun _ h => callR_ok (ps := [a, b, c]) h
theorem c5 {mf : M PV} {a b c d e : PV} (h : Gives mf [a, b, c, d, e] p) : callR mf [.val a, .val b, .val c, .val d, .val e] ρ = .ok p ρ := h.elim fun _ h => callR_ok (ps := [a, b, c, d, e]) h
theorem c1e {mf : M PV} {a : PV} (h : Throws mf [a] x) : callR mf [.val a] ρ = .err x ρ := h.elim fun _ h => callR_err (ps := [a]) h
theorem c2e {mf : M PV} {a b : PV} (h : Throws mf [a, b] x) : callR mf [.val a, .val b] ρ = .err x ρ := h.elim fun _ h => callR_err (ps := [a, b]) h
theorem c3e {mf : M PV} {a b c : PV} (h : Throws mf [a, b, c] x) : callR mf [.val a, .val b, .val c] ρ = .err x ρ := h.elim fun _ h => callR_err (ps := [a, b, c]) h
theorem c5e {mf : M PV} {a b c d e : PV} (h : Throws mf [a, b, c, d, e] x) : callR mf [.val a, .val b, .val c, .val d, .val e] ρ = .err x ρ := h.elim fun _ h => callR_err (ps := [a, b, c, d, e]) h
/-- what a def's body gives -/
theorem gives_rt {N n : Nat} {I : Nat → Bool} {b : MS} {ps : List PV} (h : b (ps.map Sl.fr ++ List.replicate (N - n) .no) = .rt p ρ') : Gives (fnM N n I b) ps p := ⟨_, by unfold fnM; rw [h]⟩
theorem gives_nx {N n : Nat} {I : Nat → Bool} {b : MS} {ps : List PV} (h : b (ps.map Sl.fr ++ List.replicate (N - n) .no) = .nx ρ') : Gives (fnM N n I b) ps .non := ⟨_, by unfold fnM; rw [h]⟩
theorem throws_ex {N n : Nat} {I : Nat → Bool} {b : MS} {ps : List PV} (h : b (ps.map Sl.fr ++ List.replicate (N - n) .no) = .err x ρ') : Throws (fnM N n I b) ps x := ⟨_, by unfold fnM; rw [h]⟩
def SR.val : SR → Option PV
  | .rt p _ => some p
  | .nx _ => some .non
  | _ => none
def SR.exn : SR → Option Exn
  | .err x _ => some x
  | _ => none
theorem e_vrt : SR.val (.rt p ρ) = some p := rfl
theorem e_vnx : SR.val (.nx ρ) = some .non := rfl
theorem e_xer : SR.exn (.err x ρ) = some x := rfl
theorem gives_of {N n : Nat} {I : Nat → Bool} {b : MS} {ps : List PV} (h : SR.val (b (ps.map Sl.fr ++ List.replicate (N - n) .no)) = some p) : Gives (fnM N n I b) ps p := by
  cases e : b (ps.map Sl.fr ++ List.replicate (N - n) .no) with
  | rt q ρ' => rw [e] at h; cases h; exact gives_rt e
  | nx ρ' => rw [e] at h; cases h; exact gives_nx e
  | _ => rw [e] at h; cases h
theorem throws_of {N n : Nat} {I : Nat → Bool} {b : MS} {ps : List PV} (h : SR.exn (b (ps.map Sl.fr ++ List.replicate (N - n) .no)) = some x) : Throws (fnM N n I b) ps x := by
  cases e : b (ps.map Sl.fr ++ List.replicate (N - n) .no) with
  | err y ρ' => rw [e] at h; cases h; exact throws_ex e
  | _ => rw [e] at h; cases h
end
/-! ### operators at known kinds -/
theorem q_eqI {i j : Int} : pEq (.int i) (.int j) = some (.bl (i == j)) := congrArg (fun b => some (PV.bl b)) dec_int
theorem q_neI {i j : Int} : pNe (.int i) (.int j) = some (.bl (!(i == j))) := congrArg (fun b => some (PV.bl (!b))) dec_int
theorem q_eqS {x y : Str} : pEq (.str x) (.str y) = some (.bl (x == y)) := congrArg (fun b => some (PV.bl b)) dec_str
theorem q_neS {x y : Str} : pNe (.str x) (.str y) = some (.bl (!(x == y))) := congrArg (fun b => some (PV.bl (!b))) dec_str
theorem q_ix0 {p : PV} {ps : List PV} : pIx (.lst (p :: ps)) (.int 0) = some p := by
  show atI (p :: ps) 0 = some p
  exact atI_nat (j := 0) rfl
end VS

set_option Elab.async false
set_option linter.all false
set_option maxRecDepth 100000
set_option maxHeartbeats 1000000
namespace VS
open PySem PySem.Spec PyProof.Rows L2

/-! ### comprehensions, evaluated -/
theorem restP_wipe (vs : List Nat) : ∀ (j : Nat) (a b c : PEnv), wipeP vs j b = wipeP vs j c → restP vs j a b = restP vs j a c
  | _, [], [], [], _ => rfl
  | _, [], _ :: _, _ :: _, _ => rfl
  | _, _, [], _ :: _, h => by cases h
  | _, _, _ :: _, [], h => by cases h
  | _, _ :: _, [], [], _ => rfl
  | j, a :: as, s :: b, u :: c, h => by
    simp only [wipeP, List.cons.injEq] at h
    simp only [restP]
    rw [restP_wipe vs (j + 1) as b c h.2]
    by_cases hc : vs.contains j = true
    · rw [if_pos hc, if_pos hc]
    · rw [if_neg hc, if_neg hc] at h ⊢
      rw [h.1]
/-- every turn leaves the rest of the slots as they were -/
theorem comp_turns {vs : List Nat} {g : MG} {c : M Bool} {e : M PV} {ρw : PEnv} {t : PV → Bool} {f : PV → PV} : ∀ {ps acc : List PV} {ρ : PEnv}, wipeP vs 0 ρ = ρw →
    (∀ p ∈ ps, ∃ ρ1 ρ2, g p ρw = some ρ1 ∧ c ρ1 = .ok (t p) ρ2 ∧ (t p = false → wipeP vs 0 ρ2 = ρw) ∧ (t p = true → ∃ ρ3, e ρ2 = .ok (f p) ρ3 ∧ wipeP vs 0 ρ3 = ρw)) → acc.length + ps.length ≤ sizeLine →
    ∃ ρ', compM vs g c e ps acc ρ = .ok (acc ++ (ps.filter t).map f) ρ' ∧ wipeP vs 0 ρ' = ρw
  | [], acc, ρ, hw, _, _ => ⟨ρ, by simp [compM], hw⟩
  | p :: ps, acc, ρ, hw, h, hl => by
    obtain ⟨ρ1, ρ2, e1, e2, e3, e4⟩ := h p List.mem_cons_self
    have h' : ∀ q ∈ ps, _ := fun q hq => h q (List.mem_cons_of_mem _ hq)
    simp only [List.length_cons] at hl
    unfold compM
    rw [hw, e1]
    dsimp only
    rw [e2]
    cases ht : t p with
    | false =>
      dsimp only
      obtain ⟨ρ', h1, h2⟩ := comp_turns (ps := ps) (acc := acc) (e3 ht) h' (by omega)
      exact ⟨ρ', by rw [h1, List.filter_cons_of_neg (by rw [ht]; exact Bool.false_ne_true)], h2⟩
    | true =>
      dsimp only
      obtain ⟨ρ3, e5, e6⟩ := e4 ht
      rw [e5]
      dsimp only
      rw [if_pos (by omega)]
      obtain ⟨ρ', h1, h2⟩ := comp_turns (ps := ps) (acc := acc ++ [f p]) e6 h' (by simp; omega)
      exact ⟨ρ', by rw [h1, List.filter_cons_of_pos ht]; simp, h2⟩
theorem comp_eval {vs : List Nat} {mi : M (List PV)} {g : MG} {c : M Bool} {e : M PV} {ρ ρ1 : PEnv} {ps : List PV} (t : PV → Bool) (f : PV → PV) (hi : mi ρ = .ok ps ρ1) (hl : ps.length ≤ sizeLine)
    (h : ∀ p ∈ ps, ∃ ρ2 ρ3, g p (wipeP vs 0 ρ1) = some ρ2 ∧ c ρ2 = .ok (t p) ρ3 ∧ (t p = false → wipeP vs 0 ρ3 = wipeP vs 0 ρ1) ∧ (t p = true → ∃ ρ4, e ρ3 = .ok (f p) ρ4 ∧ wipeP vs 0 ρ4 = wipeP vs 0 ρ1)) :
    mComp vs mi g c e ρ = .ok (.lst ((ps.filter t).map f)) (restP vs 0 ρ1 ρ1) := by
  obtain ⟨ρ', h1, h2⟩ := comp_turns (acc := []) (ρ := ρ1) rfl h (by simpa using hl)
  unfold mComp
  rw [e_bind, hi]
  show (match compM vs g c e ps [] ρ1 with
  | .ok acc ρ' => Res.ok (OV.lst acc) (restP vs 0 ρ1 ρ')
  | .err x ρ' => .err x (restP vs 0 ρ1 ρ')
  | .bad => .bad) = _
  rw [h1]
  dsimp only
  rw [restP_wipe vs 0 ρ1 ρ' ρ1 h2, List.nil_append]
/-- no test -/
theorem comp_all {vs : List Nat} {mi : M (List PV)} {g : MG} {e : M PV} {ρ ρ1 : PEnv} {ps : List PV} (f : PV → PV) (hi : mi ρ = .ok ps ρ1) (hl : ps.length ≤ sizeLine)
    (h : ∀ p ∈ ps, ∃ ρ2 ρ4, g p (wipeP vs 0 ρ1) = some ρ2 ∧ e ρ2 = .ok (f p) ρ4 ∧ wipeP vs 0 ρ4 = wipeP vs 0 ρ1) :
    mComp vs mi g (M.pure true) e ρ = .ok (.lst (ps.map f)) (restP vs 0 ρ1 ρ1) := by
  rw [comp_eval (fun _ => true) f hi hl fun p hp => ?_]
  · rw [List.filter_eq_self.mpr (fun _ _ => rfl)]
  · obtain ⟨ρ2, ρ4, h1, h2, h3⟩ := h p hp
    exact ⟨ρ2, ρ2, h1, rfl, (fun z => nomatch z), fun _ => ⟨ρ4, h2, h3⟩⟩

/-! ### loops, evaluated -/
/-- a while of a counted number of turns -/
theorem while_turns {c : M Bool} {b : MS} {inv : Nat → PEnv → Prop} (h0 : ∀ ρ, inv 0 ρ → ∃ ρ', c ρ = .ok false ρ' ∧ inv 0 ρ') (hs : ∀ n ρ, inv (n + 1) ρ → ∃ ρ1 ρ2, c ρ = .ok true ρ1 ∧ b ρ1 = .nx ρ2 ∧ ∃ m, m ≤ n ∧ inv m ρ2) :
    ∀ (n : Nat) (ρ : PEnv), inv n ρ → ∃ k ρ', whileN c b k ρ = .nx ρ' ∧ inv 0 ρ' := by
  intro n
  induction n using Nat.strongRecOn with
  | _ n ih =>
    intro ρ hi
    cases n with
    | zero =>
      obtain ⟨ρ', e, i⟩ := h0 ρ hi
      exact ⟨1, ρ', by unfold whileN; rw [e], i⟩
    | succ n =>
      obtain ⟨ρ1, ρ2, e1, e2, m, hm, i⟩ := hs n ρ hi
      obtain ⟨k, ρ', e3, i3⟩ := ih m (by omega) ρ2 i
      exact ⟨k + 1, ρ', by unfold whileN; rw [e1]; dsimp only; rw [e2]; exact e3, i3⟩
theorem while_eval {c : M Bool} {b : MS} {inv : Nat → PEnv → Prop} {n : Nat} {ρ : PEnv} (hi : inv n ρ) (h0 : ∀ ρ, inv 0 ρ → ∃ ρ', c ρ = .ok false ρ' ∧ inv 0 ρ') (hs : ∀ n ρ, inv (n + 1) ρ → ∃ ρ1 ρ2, c ρ = .ok true ρ1 ∧ b ρ1 = .nx ρ2 ∧ ∃ m, m ≤ n ∧ inv m ρ2) :
    ∃ ρ', mWhile c b ρ = .nx ρ' ∧ inv 0 ρ' := by
  obtain ⟨k, ρ', e, i⟩ := while_turns h0 hs n ρ hi
  exact ⟨ρ', mWhile_eq e (fun z => by cases z), i⟩
/-- a for: an invariant by the items behind -/
theorem for_eval {b : PV → MS} (inv : List PV → PEnv → Prop) : ∀ {ps : List PV} {ρ : PEnv}, inv ps ρ → (∀ p qs ρ, inv (p :: qs) ρ → ∃ ρ2, b p ρ = .nx ρ2 ∧ inv qs ρ2) → ∃ ρ', forM b ps ρ = .nx ρ' ∧ inv [] ρ'
  | [], ρ, hi, _ => ⟨ρ, rfl, hi⟩
  | p :: ps, ρ, hi, hs => by
    obtain ⟨ρ2, e, i⟩ := hs p ps ρ hi
    obtain ⟨ρ', e2, i2⟩ := for_eval inv i hs
    exact ⟨ρ', by unfold forM; rw [e]; exact e2, i2⟩
end VS

set_option Elab.async false
set_option linter.all false
set_option maxRecDepth 100000
set_option maxHeartbeats 1000000
namespace VS
open PySem PySem.Spec PyProof.Rows L2

/-! ### == of a value with itself -/
def okP (p : PV) : Bool := match toD p with
  | some d => SeqAt.shaped d
  | none => false
theorem pNe_same {p : PV} (h : okP p = true) : pNe p p = some (.bl false) := by
  unfold pNe
  split
  · rw [decide_eq_true rfl]; rfl
  · unfold okP at h
    unfold dNe
    cases e : toD p with
    | none => rw [e] at h; cases h
    | some d =>
      rw [e] at h
      have h : SeqAt.shaped d = true := h
      show (if SeqAt.shaped d && SeqAt.shaped d then some (PV.bl (!PyData.eqv d d)) else none) = _
      rw [h, if_pos (by rfl), SeqAt.eqv_refl d (SeqAt.canLay_of_shaped h)]; rfl
theorem pEq_same {p : PV} (h : okP p = true) : pEq p p = some (.bl true) := by
  unfold pEq
  split
  · rw [decide_eq_true rfl]
  · unfold okP at h
    unfold dEq
    cases e : toD p with
    | none => rw [e] at h; cases h
    | some d =>
      rw [e] at h
      have h : SeqAt.shaped d = true := h
      show (if SeqAt.shaped d && SeqAt.shaped d then some (PV.bl (PyData.eqv d d)) else none) = _
      rw [h, if_pos (by rfl), SeqAt.eqv_refl d (SeqAt.canLay_of_shaped h)]
theorem toDs_strs : ∀ ss : List Str, toDs (ss.map PV.str) = some (ss.map PyData.str)
  | [] => rfl
  | s :: ss => by
    rw [List.map_cons, toDs]
    show (toDs (ss.map PV.str)).map (PyData.str s :: ·) = _
    rw [toDs_strs ss]; rfl
theorem canLay_strs : ∀ {ss : List Str}, (∀ s ∈ ss, PyData.strOk s = true) → PyData.canLayAll0 (ss.map PyData.str) = true
  | [], _ => rfl
  | s :: ss, h => by
    rw [List.map_cons, PyData.canLayAll0, canLay_strs fun x hx => h x (List.mem_cons_of_mem _ hx)]
    show (PyData.strOk s && true) = true
    rw [h s List.mem_cons_self]; rfl
theorem depth_strs : ∀ ss : List Str, PyData.depthAll (ss.map PyData.str) = 0
  | [] => rfl
  | s :: ss => by
    rw [List.map_cons, PyData.depthAll, depth_strs ss]; rfl
theorem shaped_strs {ss : List Str} (h : ∀ s ∈ ss, PyData.strOk s = true) : SeqAt.shaped (.list (ss.map PyData.str)) = true := by
  unfold SeqAt.shaped
  rw [Bool.and_eq_true]
  refine ⟨canLay_strs h, decide_eq_true ?_⟩
  show PyData.depthAll _ + 1 ≤ 64
  rw [depth_strs]; omega
theorem ne_nil {ss : List Str} (h : ∀ s ∈ ss, PyData.strOk s = true) : pNe (.lst (ss.map PV.str)) (.lst []) = some (.bl (!ss.isEmpty)) := by
  have e : toD (.lst (ss.map PV.str)) = some (.list (ss.map PyData.str)) := by
    rw [toD, toDs_strs]; rfl
  show dNe (.lst (ss.map PV.str)) (.lst []) = _
  unfold dNe
  rw [e]
  show (if SeqAt.shaped (.list (ss.map PyData.str)) && SeqAt.shaped (.list []) then some (PV.bl (!PyData.eqv (.list (ss.map PyData.str)) (.list []))) else none) = _
  rw [shaped_strs h, if_pos (by rfl)]
  cases ss <;> rfl

/-! ### in, of texts -/
theorem inP_strs {x : Str} : ∀ ss : List Str, inP (.str x) (ss.map PV.str) = ss.any fun y => y == x
  | [] => rfl
  | s :: ss => by
    have := inP_strs (x := x) ss
    unfold inP at this ⊢
    rw [List.map_cons, List.any_cons, List.any_cons, this]; rfl
theorem flat_strs : ∀ ss : List Str, (ss.map PV.str).all flatP = true
  | [] => rfl
  | s :: ss => by rw [List.map_cons, List.all_cons, flat_strs ss]; rfl
theorem in_tup {x : Str} (ss : List Str) : pIn (.str x) (.tup (ss.map PV.str)) = some (.bl (ss.any fun y => y == x)) := by
  show (if flatP (.str x) && (ss.map PV.str).all flatP then some (inP (.str x) (ss.map PV.str)) else none).map PV.bl = _
  rw [flat_strs, inP_strs]; rfl
theorem in_lst {x : Str} (ss : List Str) : pIn (.str x) (.lst (ss.map PV.str)) = some (.bl (ss.any fun y => y == x)) := by
  show (if flatP (.str x) && (ss.map PV.str).all flatP then some (inP (.str x) (ss.map PV.str)) else none).map PV.bl = _
  rw [flat_strs, inP_strs]; rfl
theorem notIn_lst {x : Str} (ss : List Str) : pNotIn (.str x) (.lst (ss.map PV.str)) = some (.bl (!ss.any fun y => y == x)) := by
  show (if flatP (.str x) && (ss.map PV.str).all flatP then some (inP (.str x) (ss.map PV.str)) else none).map (fun b => PV.bl (!b)) = _
  rw [flat_strs, inP_strs]; rfl

/-! ### calls that hand an owned object -/
theorem call_slot0 {mf : M PV} {ps : List PV} {o o' : OV} {p : PV} {ss ρ : PEnv} (h : mf (.ow o :: ps.map Sl.fr) = .ok p (.ow o' :: ss)) : callR mf (.slot 0 :: ps.map Arg.val) (.ow o :: ρ) = .ok p (.ow o' :: ρ) := by
  have hs : (Arg.slot 0 :: ps.map Arg.val).filterMap slotOf = [0] := by
    rw [List.filterMap_cons]
    show 0 :: (ps.map Arg.val).filterMap slotOf = _
    rw [vals_slots]
  unfold callR
  rw [if_pos (by rw [hs]; simp)]
  have ha : argSl (.ow o :: ρ) (.slot 0 :: ps.map Arg.val) = some (.ow o :: ps.map Sl.fr) := by
    unfold argSl
    show (argSl (.ow o :: ρ) (ps.map Arg.val)).map (Sl.ow o :: ·) = _
    rw [argSl_vals]; rfl
  rw [ha]
  dsimp only
  rw [h]
  dsimp only
  have hi : ∀ j, idx (j + 1) (.slot 0 :: ps.map Arg.val) = none := fun j => by
    unfold idx
    rw [if_neg (by omega), idx_vals vals_slots]; rfl
  have hb : ∀ (j : Nat) (ρ : PEnv), putBack (.slot 0 :: ps.map Arg.val) (.ow o' :: ss) (j + 1) ρ = ρ := by
    intro j ρ
    induction ρ generalizing j with
    | nil => rfl
    | cons s r ih => unfold putBack; rw [hi, ih]
  unfold putBack
  rw [hb 0]
  rfl
theorem call_slot1 {mf : M PV} {ps : List PV} {o o' : OV} {p : PV} {s : Sl} {ss ρ : PEnv} (h : mf (.ow o :: ps.map Sl.fr) = .ok p (.ow o' :: ss)) : callR mf (.slot 1 :: ps.map Arg.val) (s :: .ow o :: ρ) = .ok p (s :: .ow o' :: ρ) := by
  have hs : (Arg.slot 1 :: ps.map Arg.val).filterMap slotOf = [1] := by
    rw [List.filterMap_cons]
    show 1 :: (ps.map Arg.val).filterMap slotOf = _
    rw [vals_slots]
  unfold callR
  rw [if_pos (by rw [hs]; simp)]
  have ha : argSl (s :: .ow o :: ρ) (.slot 1 :: ps.map Arg.val) = some (.ow o :: ps.map Sl.fr) := by
    unfold argSl
    show (argSl (s :: .ow o :: ρ) (ps.map Arg.val)).map (Sl.ow o :: ·) = _
    rw [argSl_vals]; rfl
  rw [ha]
  dsimp only
  rw [h]
  dsimp only
  have hi : ∀ j, idx (j + 2) (.slot 1 :: ps.map Arg.val) = none := fun j => by
    unfold idx
    rw [if_neg (by omega), idx_vals vals_slots]; rfl
  have hb : ∀ (j : Nat) (ρ : PEnv), putBack (.slot 1 :: ps.map Arg.val) (.ow o' :: ss) (j + 2) ρ = ρ := by
    intro j ρ
    induction ρ generalizing j with
    | nil => rfl
    | cons s r ih => unfold putBack; rw [hi, ih]
  unfold putBack
  have h0 : idx 0 (.slot 1 :: ps.map Arg.val) = none := by
    unfold idx
    rw [if_neg (by omega), idx_vals vals_slots]; rfl
  rw [h0]
  unfold putBack
  rw [hb 0]
  rfl
/-- a def that is handed an owned object and gives a value -/
def Moves (mf : M PV) (ps : List PV) (o : OV) (p : PV) (o' : OV) : Prop := ∃ ss, mf (.ow o :: ps.map Sl.fr) = .ok p (.ow o' :: ss)
section
variable {mf : M PV} {o o' : OV} {p a b c : PV} {s : Sl} {ρ : PEnv}
theorem d0 (h : Moves mf [] o p o') : callR mf [.slot 0] (.ow o :: ρ) = .ok p (.ow o' :: ρ) := h.elim fun _ h => call_slot0 (ps := []) h
theorem d1 (h : Moves mf [a] o p o') : callR mf [.slot 0, .val a] (.ow o :: ρ) = .ok p (.ow o' :: ρ) := h.elim fun _ h => call_slot0 (ps := [a]) h
theorem d2 (h : Moves mf [a, b] o p o') : callR mf [.slot 0, .val a, .val b] (.ow o :: ρ) = .ok p (.ow o' :: ρ) := h.elim fun _ h => call_slot0 (ps := [a, b]) h
theorem d3 (h : Moves mf [a, b, c] o p o') : callR mf [.slot 0, .val a, .val b, .val c] (.ow o :: ρ) = .ok p (.ow o' :: ρ) := h.elim fun _ h => call_slot0 (ps := [a, b, c]) h
theorem d0' (h : Moves mf [] o p o') : callR mf [.slot 1] (s :: .ow o :: ρ) = .ok p (s :: .ow o' :: ρ) := h.elim fun _ h => call_slot1 (ps := []) h
theorem d1' (h : Moves mf [a] o p o') : callR mf [.slot 1, .val a] (s :: .ow o :: ρ) = .ok p (s :: .ow o' :: ρ) := h.elim fun _ h => call_slot1 (ps := [a]) h
theorem d2' (h : Moves mf [a, b] o p o') : callR mf [.slot 1, .val a, .val b] (s :: .ow o :: ρ) = .ok p (s :: .ow o' :: ρ) := h.elim fun _ h => call_slot1 (ps := [a, b]) h
end
/-- what the body does to its first argument -/
theorem moves_of {N n : Nat} {I : Nat → Bool} (hI : I 0 = true) {b : MS} {ps : List PV} {o o' : OV} {p : PV} {r : PEnv} (h : b (.ow o :: (ps.map Sl.fr ++ List.replicate (N - n) .no)) = .rt p (.ow o' :: r)) : Moves (fnM N n I b) ps o p o' := by
  refine ⟨argsBack I 1 (ps.map Sl.fr) r, ?_⟩
  unfold fnM
  have h : b (.ow o :: ps.map Sl.fr ++ List.replicate (N - n) .no) = .rt p (.ow o' :: r) := h
  rw [h]
  dsimp only
  rw [argsBack, hI, if_pos rfl]

/-! ### comprehensions whose turns change an owned object: an invariant -/
theorem comp_steps {vs : List Nat} {g : MG} {c : M Bool} {e : M PV} (inv : List PV → List PV → PEnv → Prop)
    (h : ∀ p ps acc ρ, inv (p :: ps) acc ρ → ∃ ρ1 t ρ2, g p (wipeP vs 0 ρ) = some ρ1 ∧ c ρ1 = .ok t ρ2 ∧ (t = false → inv ps acc ρ2) ∧ (t = true → ∃ y ρ3, e ρ2 = .ok y ρ3 ∧ inv ps (acc ++ [y]) ρ3)) :
    ∀ {ps acc : List PV} {ρ : PEnv}, inv ps acc ρ → acc.length + ps.length ≤ sizeLine → ∃ acc' ρ', compM vs g c e ps acc ρ = .ok acc' ρ' ∧ inv [] acc' ρ'
  | [], acc, ρ, hi, _ => ⟨acc, ρ, rfl, hi⟩
  | p :: ps, acc, ρ, hi, hl => by
    simp only [List.length_cons] at hl
    obtain ⟨ρ1, t, ρ2, e1, e2, e3, e4⟩ := h p ps acc ρ hi
    cases t with
    | false =>
      obtain ⟨acc', ρ', h1, h2⟩ := comp_steps inv h (e3 rfl) (by omega)
      refine ⟨acc', ρ', ?_, h2⟩
      unfold compM
      rw [e1]
      dsimp only
      rw [e2]
      exact h1
    | true =>
      obtain ⟨y, ρ3, e5, e6⟩ := e4 rfl
      obtain ⟨acc', ρ', h1, h2⟩ := comp_steps inv h e6 (by simp; omega)
      refine ⟨acc', ρ', ?_, h2⟩
      unfold compM
      rw [e1]
      dsimp only
      rw [e2]
      dsimp only
      rw [e5]
      dsimp only
      rw [if_pos (by omega)]
      exact h1
/-- a turn that raises, the ones ahead of it do not -/
theorem comp_turnsE {vs : List Nat} {g : MG} {e : M PV} {ρw ρ2 ρ4 : PEnv} {f : PV → PV} {p : PV} {ps2 : List PV} {x : Exn} (hg : g p ρw = some ρ2) (he : e ρ2 = .err x ρ4) :
    ∀ {ps acc : List PV} {ρ : PEnv}, wipeP vs 0 ρ = ρw → (∀ q ∈ ps, ∃ ρ1 ρ3, g q ρw = some ρ1 ∧ e ρ1 = .ok (f q) ρ3 ∧ wipeP vs 0 ρ3 = ρw) → acc.length + ps.length ≤ sizeLine →
    compM vs g (M.pure true) e (ps ++ p :: ps2) acc ρ = .err x ρ4
  | [], acc, ρ, hw, _, _ => by
    show compM vs g (M.pure true) e (p :: ps2) acc ρ = _
    unfold compM
    rw [hw, hg]
    show (match e ρ2 with
      | .ok y ρ3 => if acc.length < sizeLine then compM vs g (M.pure true) e ps2 (acc ++ [y]) ρ3 else .bad
      | .err x ρ3 => .err x ρ3
      | .bad => .bad) = _
    rw [he]
  | q :: ps, acc, ρ, hw, h, hl => by
    obtain ⟨ρ1, ρ3, e1, e2, e3⟩ := h q List.mem_cons_self
    simp only [List.length_cons] at hl
    show compM vs g (M.pure true) e (q :: (ps ++ p :: ps2)) acc ρ = _
    unfold compM
    rw [hw, e1]
    show (match e ρ1 with
      | .ok y ρ3 => if acc.length < sizeLine then compM vs g (M.pure true) e (ps ++ p :: ps2) (acc ++ [y]) ρ3 else .bad
      | .err x ρ3 => .err x ρ3
      | .bad => .bad) = _
    rw [e2]
    dsimp only
    rw [if_pos (by omega)]
    exact comp_turnsE hg he e3 (fun r hr => h r (List.mem_cons_of_mem _ hr)) (by simp; omega)
theorem comp_err {vs : List Nat} {mi : M (List PV)} {g : MG} {e : M PV} {ρ ρ1 ρ2 ρ4 : PEnv} {ps ps2 : List PV} {p : PV} {x : Exn} (f : PV → PV) (hi : mi ρ = .ok (ps ++ p :: ps2) ρ1) (hl : ps.length ≤ sizeLine)
    (hg : g p (wipeP vs 0 ρ1) = some ρ2) (he : e ρ2 = .err x ρ4) (h : ∀ q ∈ ps, ∃ ρ2 ρ3, g q (wipeP vs 0 ρ1) = some ρ2 ∧ e ρ2 = .ok (f q) ρ3 ∧ wipeP vs 0 ρ3 = wipeP vs 0 ρ1) :
    mComp vs mi g (M.pure true) e ρ = .err x (restP vs 0 ρ1 ρ4) := by
  unfold mComp
  rw [e_bind, hi]
  show (match compM vs g (M.pure true) e (ps ++ p :: ps2) [] ρ1 with
  | .ok acc ρ' => Res.ok (OV.lst acc) (restP vs 0 ρ1 ρ')
  | .err x ρ' => .err x (restP vs 0 ρ1 ρ')
  | .bad => .bad) = _
  rw [comp_turnsE hg he rfl h (by simpa using hl)]
theorem comp_inv {vs : List Nat} {mi : M (List PV)} {g : MG} {c : M Bool} {e : M PV} {ρ ρ1 : PEnv} {ps : List PV} (inv : List PV → List PV → PEnv → Prop) (hi : mi ρ = .ok ps ρ1) (h0 : inv ps [] ρ1) (hl : ps.length ≤ sizeLine)
    (h : ∀ p ps acc ρ, inv (p :: ps) acc ρ → ∃ ρ1 t ρ2, g p (wipeP vs 0 ρ) = some ρ1 ∧ c ρ1 = .ok t ρ2 ∧ (t = false → inv ps acc ρ2) ∧ (t = true → ∃ y ρ3, e ρ2 = .ok y ρ3 ∧ inv ps (acc ++ [y]) ρ3)) :
    ∃ acc ρ', mComp vs mi g c e ρ = .ok (.lst acc) (restP vs 0 ρ1 ρ') ∧ inv [] acc ρ' := by
  obtain ⟨acc, ρ', h1, h2⟩ := comp_steps inv h h0 (by simpa using hl)
  refine ⟨acc, ρ', ?_, h2⟩
  unfold mComp
  rw [e_bind, hi]
  show (match compM vs g c e ps [] ρ1 with
  | .ok acc ρ' => Res.ok (OV.lst acc) (restP vs 0 ρ1 ρ')
  | .err x ρ' => .err x (restP vs 0 ρ1 ρ')
  | .bad => .bad) = _
  rw [h1]
end VS

set_option Elab.async false
set_option linter.all false
set_option maxRecDepth 100000
set_option maxHeartbeats 1000000
namespace VS
open PySem PySem.Spec PyProof.Rows L2

/-! ### loops turn by turn -/
def SR.lp (r : SR) (k : MS) : SR := match r with
  | .nx ρ => k ρ
  | .ct ρ => k ρ
  | .bk ρ => .nx ρ
  | .rt p ρ => .rt p ρ
  | .err x ρ => .err x ρ
  | .bad => .bad
section
variable {b : PV → MS} {p q : PV} {ps : List PV} {ρ ρ' : PEnv} {k : MS} {g : MG} {bd : MS} {x : Exn}
theorem e_forN : forM b [] ρ = .nx ρ := rfl
theorem e_forC : forM b (p :: ps) ρ = SR.lp (b p ρ) (forM b ps) := by
  conv => lhs; unfold forM
  unfold SR.lp
  cases b p ρ <;> rfl
theorem e_lpN : SR.lp (.nx ρ) k = k ρ := rfl
theorem e_lpC : SR.lp (.ct ρ) k = k ρ := rfl
theorem e_lpB : SR.lp (.bk ρ) k = .nx ρ := rfl
theorem e_lpR : SR.lp (.rt p ρ) k = .rt p ρ := rfl
theorem e_lpE : SR.lp (.err x ρ) k = .err x ρ := rfl
def gK (o : Option PEnv) (b : MS) : SR := match o with
  | some ρ => b ρ
  | none => .bad
theorem e_body : bodyM g bd p ρ = gK (g p ρ) bd := by unfold bodyM gK; cases g p ρ <;> rfl
theorem e_gK : gK (some ρ) bd = bd ρ := rfl
theorem e_gSlot {i : Nat} : gSlot i p ρ = some (ρ.set i (.fr p)) := rfl
theorem e_gPair {i j : Nat} : gTupP (gConsP (gSlot i) (gConsP (gSlot j) gNilP)) (.tup [p, q]) ρ = some ((ρ.set i (.fr p)).set j (.fr q)) := rfl
def asgK (g : MG) (p : PV) (ρ : PEnv) : SR := gK (g p ρ) .nx
theorem e_asg {m : M PV} : mAsg g m ρ = Res.bndS (m ρ) (asgK g) := by
  unfold mAsg
  rw [e_sThen]
  have : (fun (p : PV) (ρ : PEnv) => match g p ρ with
    | some ρ' => SR.nx ρ'
    | none => .bad) = asgK g := by
    funext p ρ
    unfold asgK gK
    cases g p ρ <;> rfl
  exact congrArg (Res.bndS (m ρ)) this
theorem e_asgK : asgK g p ρ = gK (g p ρ) .nx := rfl
theorem e_enum {m : M PV} : mEnum m ρ = Res.bnd (m ρ) fun p => M.lift ((lstP p).map enumP) := e_bind
theorem e_lstP : lstP (.lst ps) = some ps := rfl
theorem e_opMap {α β : Type} {f : α → β} {a : α} : Option.map f (some a) = some (f a) := rfl
theorem e_enum0 : enumP [] = [] := rfl
theorem e_enum1 : enumP [p] = [.tup [.int 0, p]] := rfl
theorem e_enum2 : enumP [p, q] = [.tup [.int 0, p], .tup [.int 1, q]] := rfl
end

/-! ### a name that holds a def -/
def cgT (ms : M (List Arg)) (ρ : PEnv) : Option (M PV) → Res PV
  | some mf => mCall mf ms ρ
  | none => .bad
def cgS (tbl : Str → Option (M PV)) (ms : M (List Arg)) (ρ : PEnv) : Option Sl → Res PV
  | some (.fr (.glob x)) => cgT ms ρ (tbl x)
  | _ => .bad
section
variable {tbl : Str → Option (M PV)} {i : Nat} {ms : M (List Arg)} {ρ : PEnv} {x : Str} {mf : M PV} {p : PV}
theorem e_callG : callG tbl i ms ρ = cgS tbl ms ρ ρ[i]? := by
  unfold callG cgS
  cases h : ρ[i]? with
  | none => rfl
  | some sl => cases sl with
    | no => rfl
    | ow o => rfl
    | fr p => cases p with
      | glob x =>
        show (match tbl x with
          | some mf => mCall mf ms ρ
          | none => .bad) = cgT ms ρ (tbl x)
        cases tbl x <;> rfl
      | _ => rfl
theorem e_cgS : cgS tbl ms ρ (some (.fr (.glob x))) = cgT ms ρ (tbl x) := rfl
theorem e_cgT : cgT ms ρ (some mf) = Res.bnd (ms ρ) (callR mf) := e_call
theorem c0 (h : Gives mf [] p) : callR mf [] ρ = .ok p ρ := h.elim fun _ h => callR_ok (ps := []) h
end

/-! ### == of a list of texts and the empty one; dicts -/
theorem eq_nil {ss : List Str} (h : ∀ s ∈ ss, PyData.strOk s = true) : pEq (.lst (ss.map PV.str)) (.lst []) = some (.bl ss.isEmpty) := by
  have e : toD (.lst (ss.map PV.str)) = some (.list (ss.map PyData.str)) := by
    rw [toD, toDs_strs]; rfl
  show dEq (.lst (ss.map PV.str)) (.lst []) = _
  unfold dEq
  rw [e]
  show (if SeqAt.shaped (.list (ss.map PyData.str)) && SeqAt.shaped (.list []) then some (PV.bl (PyData.eqv (.list (ss.map PyData.str)) (.list []))) else none) = _
  rw [shaped_strs h, if_pos (by rfl)]
  cases ss <;> rfl
theorem dLook_none {k : Key} : ∀ {ks : List Key} {ps : List PV}, (∀ j ∈ ks, j ≠ k) → dLook ks ps k = none
  | [], _, _ => by unfold dLook; rfl
  | j :: ks, [], _ => by unfold dLook; rfl
  | j :: ks, p :: ps, h => by
    unfold dLook
    rw [if_neg (h j List.mem_cons_self), dLook_none fun x hx => h x (List.mem_cons_of_mem _ hx)]
theorem din_some {x : Str} {ks : List Key} {ps : List PV} {p : PV} (h : dLook ks ps (.inr x) = some p) : pDIn (.str x) (.dic ks ps) = some (.bl true) ∧ pDNotIn (.str x) (.dic ks ps) = some (.bl false) ∧ pDGet (.dic ks ps) (.str x) = some p := by
  refine ⟨?_, ?_, ?_⟩
  · show some (PV.bl (dLook ks ps (.inr x)).isSome) = _
    rw [h]; rfl
  · show some (PV.bl (!(dLook ks ps (.inr x)).isSome)) = _
    rw [h]; rfl
  · exact h
theorem din_none {x : Str} {ks : List Key} {ps : List PV} (h : dLook ks ps (.inr x) = none) : pDIn (.str x) (.dic ks ps) = some (.bl false) ∧ pDNotIn (.str x) (.dic ks ps) = some (.bl true) := by
  refine ⟨?_, ?_⟩
  · show some (PV.bl (dLook ks ps (.inr x)).isSome) = _
    rw [h]; rfl
  · show some (PV.bl (!(dLook ks ps (.inr x)).isSome)) = _
    rw [h]; rfl
theorem e_disp {ks : List Key} {m : M (List PV)} {ρ : PEnv} : mDisp ks m ρ = Res.bnd (m ρ) fun ps => M.pure (.dic ks ps) := e_bind

/-! ### caught errors -/
def toldK (ρ : PEnv) : Option PV → Res PV
  | some p => .ok p ρ
  | none => .bad
def toldR (mk : Exn → Option PV) : Res PV → Res PV
  | .ok _ ρ => .ok .non ρ
  | .err x ρ => toldK ρ (mk x)
  | .bad => .bad
section
variable {mk : Exn → Option PV} {m : M PV} {ρ : PEnv} {p : PV} {x : Exn}
theorem e_toldM : mTold mk m ρ = toldR mk (m ρ) := by
  unfold mTold toldR
  cases m ρ <;> rfl
theorem e_toldO : toldR mk (.ok p ρ) = .ok .non ρ := rfl
theorem e_toldE : toldR mk (.err x ρ) = toldK ρ (mk x) := rfl
theorem e_toldK : toldK ρ (some p) = .ok p ρ := rfl
end

/-! ### extend, calls that give an object -/
def exK (i : Nat) (p : PV) (ρ : PEnv) : Option Sl → SR
  | some (.ow (.lst ps)) => (match p with
    | .lst qs => if ps.length + qs.length ≤ sizeLine then .nx (ρ.set i (.ow (.lst (ps ++ qs)))) else .bad
    | _ => .bad)
  | _ => .bad
def exS (i : Nat) (m : M PV) (ρ : PEnv) : Option Sl → SR
  | some (.ow (.lst _)) => Res.bndS (m ρ) fun p ρ' => exK i p ρ' ρ'[i]?
  | _ => .bad
section
variable {m : M PV} {i : Nat} {ρ : PEnv} {ps qs : List PV} {p : PV} {mf : M OV} {ms : M (List Arg)} {o : OV} {ss : PEnv}
theorem ext_eq : (fun (p : PV) (ρ' : PEnv) => match ρ'[i]?, p with
      | some (.ow (.lst ps)), .lst qs => if ps.length + qs.length ≤ sizeLine then SR.nx (ρ'.set i (.ow (.lst (ps ++ qs)))) else .bad
      | _, _ => .bad) = fun p ρ' => exK i p ρ' ρ'[i]? := by
  funext p ρ'
  unfold exK
  cases h : ρ'[i]? with
  | none => rfl
  | some sl => cases sl with
    | no => rfl
    | fr q => rfl
    | ow o => cases o with
      | lst ps => cases p <;> rfl
      | rows rs => rfl
      | dic ks ps => rfl
      | ins C ks ps => rfl
theorem e_extend : mExtend i m ρ = exS i m ρ ρ[i]? := by
  unfold mExtend exS
  cases h : ρ[i]? with
  | none => rfl
  | some sl => cases sl with
    | no => rfl
    | fr p => rfl
    | ow o => cases o with
      | lst ps => exact e_sThen.trans (congrArg (Res.bndS (m ρ)) ext_eq)
      | rows rs => rfl
      | dic ks ps => rfl
      | ins C ks ps => rfl
theorem e_exS : exS i m ρ (some (.ow (.lst ps))) = Res.bndS (m ρ) fun p ρ' => exK i p ρ' ρ'[i]? := rfl
theorem e_exK : exK i (.lst qs) ρ (some (.ow (.lst ps))) = if ps.length + qs.length ≤ sizeLine then .nx (ρ.set i (.ow (.lst (ps ++ qs)))) else .bad := rfl
theorem e_callO : mCallO mf ms ρ = Res.bnd (ms ρ) (callRO mf) := e_bind
theorem callO1 (h : mf [.fr p] = .ok o ss) : callRO mf [.val p] ρ = .ok o ρ := by
  unfold callRO
  rw [if_pos (by rfl)]
  have : argSl ρ [.val p] = some [.fr p] := argSl_vals (ps := [p])
  rw [this]
  dsimp only
  rw [h]
end
end VS

set_option Elab.async false
set_option linter.all false
set_option maxRecDepth 100000
set_option maxHeartbeats 1000000
namespace VS
open PySem PySem.Spec PyProof.Rows L2

/-! ### the end: from the script to the law's mirror -/
theorem reps_ints {K : Frag} {mg : Str → Option Value} {G : Hp} : ∀ ns : List Int, Reps K mg G (ns.map PV.int) (ns.map V.int)
  | [] => rfl
  | n :: ns => ⟨_, _, rfl, rfl, reps_ints ns⟩
theorem law_sp {K : Frag} {mg : Str → Option Value} {T : List (Addr × Str)} {m : M PV} {H : Hp} {a : Addr} {ns : List Int} {E : XK} (hT : ∀ p ∈ T, H p.1 = some (.tbl #[])) (hS : SqL K H a (ns.map V.int)) (h : ∃ ρ, m [.fr (.sq (ns.map PV.int))] = .ok (.bl true) ρ) :
    spV K mg T 1 m [.ref a] H (fun v _ => v = .bl true) E := by
  obtain ⟨ρ, h⟩ := h
  refine ⟨rfl, [.fr (.sq (ns.map PV.int))], ⟨fun b => if b = a then (match H a with | some (.tbl _) => none | o => o) else none, H, fun _ => False⟩, rfl, ⟨fun b o e => ?_, fun b o e => ?_, fun b hb => hb.elim, fun p hp => ?_, rfl, fun i p e => ?_, fun _ _ => False, fun x => ⟨fun z => z.elim, fun ⟨_, z⟩ => z⟩, fun i o e => ?_, fun _ _ _ z => z.elim, fun _ _ z => z.elim⟩, ?_⟩
  · have e : (if b = a then (match H a with | some (.tbl _) => none | o => o) else none) = some o := e
    split at e
    · rename_i hb
      subst hb
      split at e
      · cases e
      · exact e
    · cases e
  · have e : (if b = a then (match H a with | some (.tbl _) => none | o => o) else none) = some o := e
    split at e
    · split at e
      · cases e
      · rename_i h1
        intro ps z
        subst z
        exact h1 _ e
    · cases e
  · exact ⟨#[], hT p hp, trivial, fun pos cv z => nomatch z⟩
  · have hG : SqL K (fun b => if b = a then (match H a with | some (.tbl _) => none | o => o) else none) a (ns.map V.int) := by
      rcases hS with (z | ⟨o, z⟩) | z
      · refine .inl (.inl ?_)
        show (if a = a then (match H a with | some (.tbl _) => none | o => o) else none) = _
        rw [if_pos rfl, z]
      · refine .inl (.inr ⟨o, ?_⟩)
        show (if a = a then (match H a with | some (.tbl _) => none | o => o) else none) = _
        rw [if_pos rfl, z]
      · exact .inr z
    cases i with
    | zero =>
      cases e
      exact ⟨_, rfl, a, _, rfl, hG, reps_ints ns⟩
    | succ i => cases i <;> cases e
  · cases i with
    | zero => cases e
    | succ i => cases i <;> cases e
  · show tK K mg T (RV K mg) _ _ _ _ (m [.fr (.sq (ns.map PV.int))])
    rw [h]
    intro b w' x E' r
    exact r
theorem cx_false {P : Program} {w : World} {H : Hp} {s : Shared} {u : Value} {s' : Shared} (z : L2.CX P w [] H s (fun _ _ _ => False) u s') : False := z.elim fun _ z => z.elim fun _ z => z.elim fun _ z => z.elim fun _ z => z.elim fun _ z => z.2.2.2.2.2.2.2
/-! ### constants of the top -/
theorem glv_str {K : Frag} {mg : Str → Option Value} {x y : Str} {t : Tok} (h : mg x = some (.str y t)) : GlV K mg x (.str y) := ⟨_, .str y, h, ⟨t, rfl⟩, fun _ => rfl⟩
theorem glv_int {K : Frag} {mg : Str → Option Value} {x : Str} {i : Int} {t : Tok} (h : mg x = some (.int i t)) : GlV K mg x (.int i) := ⟨_, .int i, h, ⟨t, rfl⟩, fun _ => rfl⟩
theorem glv_tup {K : Frag} {mg : Str → Option Value} {x : Str} {a : Addr} {od : Option Addr} {its : Array Value} {n : Nat} {sl : Array (Option Value)} {vs : List V} {ps : List PV} (h : mg x = some (.ref a)) (l : K.lookup a = some ⟨.type "tuple", od, .seq its n, sl⟩) (hz : its.size ≤ sizeLine)
    (hv : Vals vs its.toList) (hr : ∀ G, Reps K mg G ps vs) : GlV K mg x (.tup ps) := ⟨_, .ref a, h, rfl, fun G => ⟨a, vs, rfl, .inr ⟨_, its, n, l, rfl, rfl, hz, hv⟩, hr G⟩⟩
end VS

set_option Elab.async false
set_option linter.all false
set_option maxRecDepth 100000
set_option maxHeartbeats 2000000
namespace K75
open PySem PySem.Spec PyProof.Rows L2 LamX VS
noncomputable section
def topS (i : Nat) : Stmt := PySem.Challenge.pw_flowshifts_k75_whole_questions.main.body.getD i (.Pass ⟨0, 0, 0, 0⟩)
abbrev s_need_string : Stmt := topS 21
abbrev N_need_string : List Str := ["text"]
theorem sc_need_string : FnScope N_need_string ["text"] (defScope s_need_string) := ⟨rfl, rfl, rfl, by decide +kernel, rfl, by decide +kernel, by decide +kernel⟩
abbrev s_run_of : Stmt := topS 22
abbrev N_run_of : List Str := ["text", "at", "some"]
theorem sc_run_of : FnScope N_run_of ["text", "at", "some"] (defScope s_run_of) := ⟨rfl, rfl, rfl, by decide +kernel, rfl, by decide +kernel, by decide +kernel⟩
abbrev s_tokens_of : Stmt := topS 23
abbrev N_tokens_of : List Str := ["text", "found", "at", "end"]
theorem sc_tokens_of : FnScope N_tokens_of ["text"] (defScope s_tokens_of) := ⟨rfl, rfl, rfl, by decide +kernel, rfl, by decide +kernel, by decide +kernel⟩
abbrev s_need_end : Stmt := topS 24
abbrev N_need_end : List Str := ["tokens", "at", "line"]
theorem sc_need_end : FnScope N_need_end ["tokens", "at", "line"] (defScope s_need_end) := ⟨rfl, rfl, rfl, by decide +kernel, rfl, by decide +kernel, by decide +kernel⟩
abbrev s_is_numeral : Stmt := topS 25
abbrev N_is_numeral : List Str := ["token", "most", "sign"]
theorem sc_is_numeral : FnScope N_is_numeral ["token", "most"] (defScope s_is_numeral) := ⟨rfl, rfl, rfl, by decide +kernel, rfl, by decide +kernel, by decide +kernel⟩
abbrev s_read_numeral : Stmt := topS 32
abbrev N_read_numeral : List Str := ["tokens", "at", "line", "low", "high"]
theorem sc_read_numeral : FnScope N_read_numeral ["tokens", "at", "line", "low", "high"] (defScope s_read_numeral) := ⟨rfl, rfl, rfl, by decide +kernel, rfl, by decide +kernel, by decide +kernel⟩
abbrev s_is_letters : Stmt := topS 33
abbrev N_is_letters : List Str := ["token", "letters", "most", "sign"]
theorem sc_is_letters : FnScope N_is_letters ["token", "letters", "most"] (defScope s_is_letters) := ⟨rfl, rfl, rfl, by decide +kernel, rfl, by decide +kernel, by decide +kernel⟩
abbrev s_word_in : Stmt := topS 34
abbrev N_word_in : List Str := ["token", "sign"]
theorem sc_word_in : FnScope N_word_in ["token"] (defScope s_word_in) := ⟨rfl, rfl, rfl, by decide +kernel, rfl, by decide +kernel, by decide +kernel⟩
abbrev s_read_word : Stmt := topS 35
abbrev N_read_word : List Str := ["tokens", "at", "line", "token"]
theorem sc_read_word : FnScope N_read_word ["tokens", "at", "line"] (defScope s_read_word) := ⟨rfl, rfl, rfl, by decide +kernel, rfl, by decide +kernel, by decide +kernel⟩
abbrev s_rest_behind : Stmt := topS 36
abbrev N_rest_behind : List Str := ["text", "head"]
theorem sc_rest_behind : FnScope N_rest_behind ["text", "head"] (defScope s_rest_behind) := ⟨rfl, rfl, rfl, by decide +kernel, rfl, by decide +kernel, by decide +kernel⟩
abbrev s_read_inner : Stmt := topS 37
abbrev N_read_inner : List Str := ["text", "head", "line", "found"]
theorem sc_read_inner : FnScope N_read_inner ["text", "head", "line"] (defScope s_read_inner) := ⟨rfl, rfl, rfl, by decide +kernel, rfl, by decide +kernel, by decide +kernel⟩
abbrev s_question_in : Stmt := topS 38
abbrev N_question_in : List Str := ["text", "line", "tokens", "head", "found", "size", "at"]
theorem sc_question_in : FnScope N_question_in ["text", "line"] (defScope s_question_in) := ⟨rfl, rfl, rfl, by decide +kernel, rfl, by decide +kernel, by decide +kernel⟩
abbrev s_question_of_text : Stmt := topS 39
abbrev N_question_of_text : List Str := ["text"]
theorem sc_question_of_text : FnScope N_question_of_text ["text"] (defScope s_question_of_text) := ⟨rfl, rfl, rfl, by decide +kernel, rfl, by decide +kernel, by decide +kernel⟩
abbrev s_l_pen : Stmt := topS 41
abbrev N_l_pen : List Str := ["script", "fold", "cell"]
theorem sc_l_pen : FnScope N_l_pen ["script"] (defScope s_l_pen) := ⟨rfl, rfl, rfl, by decide +kernel, rfl, by decide +kernel, by decide +kernel⟩
abbrev s_l_draw : Stmt := topS 42
abbrev N_l_draw : List Str := ["pen", "many", "cell", "digit", "blend"]
theorem sc_l_draw : FnScope N_l_draw ["pen", "many"] (defScope s_l_draw) := ⟨rfl, rfl, rfl, by decide +kernel, rfl, by decide +kernel, by decide +kernel⟩
abbrev s_l_pick : Stmt := topS 43
abbrev N_l_pick : List Str := ["pen", "some"]
theorem sc_l_pick : FnScope N_l_pick ["pen", "some"] (defScope s_l_pick) := ⟨rfl, rfl, rfl, by decide +kernel, rfl, by decide +kernel, by decide +kernel⟩
abbrev s_l_is : Stmt := topS 44
abbrev N_l_is : List Str := ["told", "due", "at"]
theorem sc_l_is : FnScope N_l_is ["told", "due"] (defScope s_l_is) := ⟨rfl, rfl, rfl, by decide +kernel, rfl, by decide +kernel, by decide +kernel⟩
abbrev s_l_more_kinds : Stmt := topS 47
abbrev N_l_more_kinds : List Str := ["e", "found"]
theorem sc_l_more_kinds : FnScope N_l_more_kinds ["e"] (defScope s_l_more_kinds) := ⟨rfl, rfl, rfl, by decide +kernel, rfl, by decide +kernel, by decide +kernel⟩
abbrev s_l_kinds : Stmt := topS 46
abbrev N_l_kinds : List Str := ["e", "found"]
theorem sc_l_kinds : FnScope N_l_kinds ["e"] (defScope s_l_kinds) := ⟨rfl, rfl, rfl, by decide +kernel, rfl, by decide +kernel, by decide +kernel⟩
abbrev s_l_fault : Stmt := topS 45
abbrev N_l_fault : List Str := ["call", "found", "e"]
theorem sc_l_fault : FnScope N_l_fault ["call"] (defScope s_l_fault) := ⟨rfl, rfl, rfl, by decide +kernel, rfl, by decide +kernel, by decide +kernel⟩
abbrev s_l_line_fault : Stmt := topS 48
abbrev N_l_line_fault : List Str := ["text"]
theorem sc_l_line_fault : FnScope N_l_line_fault ["text"] (defScope s_l_line_fault) := ⟨rfl, rfl, rfl, by decide +kernel, rfl, by decide +kernel, by decide +kernel⟩
abbrev s_l_bare : Stmt := topS 49
abbrev N_l_bare : List Str := []
theorem sc_l_bare : FnScope N_l_bare [] (defScope s_l_bare) := ⟨rfl, rfl, rfl, by decide +kernel, rfl, by decide +kernel, by decide +kernel⟩
abbrev s_l_question : Stmt := topS 50
abbrev N_l_question : List Str := ["pen", "head", "number", "word", "more", "text", "lap", "one"]
theorem sc_l_question : FnScope N_l_question ["pen"] (defScope s_l_question) := ⟨rfl, rfl, rfl, by decide +kernel, rfl, by decide +kernel, by decide +kernel⟩
abbrev s_l_is_numeral : Stmt := topS 51
abbrev N_l_is_numeral : List Str := ["token", "sign"]
theorem sc_l_is_numeral : FnScope N_l_is_numeral ["token"] (defScope s_l_is_numeral) := ⟨rfl, rfl, rfl, by decide +kernel, rfl, by decide +kernel, by decide +kernel⟩
abbrev s_l_is_word : Stmt := topS 52
abbrev N_l_is_word : List Str := ["token", "sign"]
theorem sc_l_is_word : FnScope N_l_is_word ["token"] (defScope s_l_is_word) := ⟨rfl, rfl, rfl, by decide +kernel, rfl, by decide +kernel, by decide +kernel⟩
abbrev s_l_wrong : Stmt := topS 53
abbrev N_l_wrong : List Str := ["tokens", "head", "needs", "some", "at", "need"]
theorem sc_l_wrong : FnScope N_l_wrong ["tokens"] (defScope s_l_wrong) := ⟨rfl, rfl, rfl, by decide +kernel, rfl, by decide +kernel, by decide +kernel⟩
abbrev s_l_right : Stmt := topS 54
abbrev N_l_right : List Str := ["pen", "tokens", "due", "tail", "lap", "at", "other", "bent", "wrong"]
theorem sc_l_right : FnScope N_l_right ["pen"] (defScope s_l_right) := ⟨rfl, rfl, rfl, by decide +kernel, rfl, by decide +kernel, by decide +kernel⟩
abbrev s_law : Stmt := topS 55
abbrev N_law : List Str := ["script", "pen", "lap", "bad", "shown", "text", "token"]
theorem sc_law : FnScope N_law ["script"] (defScope s_law) := ⟨rfl, rfl, rfl, by decide +kernel, rfl, by decide +kernel, by decide +kernel⟩
abbrev sI_BadText : Stmt := inClass (topS 8) 0
abbrev NI_BadText : List Str := ["self", "line", "token"]
theorem scI_BadText : FnScope NI_BadText NI_BadText (defScope sI_BadText) := ⟨rfl, rfl, rfl, by decide +kernel, rfl, by decide +kernel, by decide +kernel⟩
def g_SMALL : PV := .str "abcdefghijklmnopqrstuvwxyz"
def g_FIGURES : PV := .str "0123456789"
def g_MOST_FIGURES : PV := .int 2
def g_MOST_SHOWN : PV := .int 99
def g_MOST_LONG : PV := .int 60
def g_BARE : PV := .tup [.str "barred", .str "rooms", .str "period", .str "ring", .str "zeta", .str "least", .str "parts", .str "sign"]
def g_NUMBERED : PV := .tup [.str "count", .str "closed", .str "rate", .str "below"]
abbrev kinds_BadText : List (Str × Bool) := [("ShiftError", true), ("BadNumber", false), ("BadRow", false), ("BadWord", false), ("BadTable", false), ("BadBook", false), ("BadName", false), ("BadText", true), ("NoPlace", false), ("NoName", false), ("TakenName", false), ("Unlike", false), ("NotThere", false), ("TooMany", false), ("NotKept", false), ("NothingToUndo", false), ("NothingToRedo", false)]
def kindOfC (C D : Str) : Option Bool :=
  if C = "BadText" then kinds_BadText.lookup D else
  none
def sub (C : Str) : PV → Option Bool
  | .glob D => kindOfC C D
  | .ty n => if C = "BadText" then (if n = "ValueError" then some true else none) else none
  | _ => none
def b_need_string : MS := (mSeq (mIfS (mNot (mTest (mCallP pIsi (mCons (mVar 0) (mCons (M.pure (.ty "str")) (M.pure [])))))) (mSeq (mRaise (mExn "BadText" ["line", "token"] (mCons (M.pure (.int 0)) (mCons (M.pure (.int 0)) (M.pure []))))) mNext) mNext) mNext)
def m_need_string : M PV := fnM 1 1 (fun _ => false) b_need_string
def b_run_of : MS := (mSeq (mWhile (mAnd (mTest (mOp2 pLt (mVar 1) (mCallP pLen (mCons (mVar 0) (M.pure []))))) (mTest (mOp2 pIn (mOp2 pIx (mVar 0) (mVar 1)) (mVar 2)))) (mSeq (mAug (fun i j => i + j) 1 (M.pure (.int 1))) mNext)) (mSeq (mRet (mVar 1)) mNext))
def m_run_of : M PV := fnM 3 3 (fun _ => false) b_run_of
def b_tokens_of : MS := (mSeq (mPairS 1 2 (mOw (mLstO (M.pure []))) (mFr (M.pure (.int 0)))) (mSeq (mWhile (mTest (mOp2 pLt (mVar 2) (mCallP pLen (mCons (mVar 0) (M.pure []))))) (mSeq (mIfS (mTest (mOp2 pEq (mOp2 pIx (mVar 0) (mVar 2)) (M.pure (.str " ")))) (mSeq (mAug (fun i j => i + j) 2 (M.pure (.int 1))) mNext) (mSeq (mSet 3 (mCallP pMax3 (mCons (mOp2 pAdd (mVar 2) (M.pure (.int 1))) (mCons (mCall m_run_of (mArgV (mVar 0) (mArgV (mVar 2) (mArgV (M.pure g_SMALL) (M.pure []))))) (mCons (mCall m_run_of (mArgV (mVar 0) (mArgV (mVar 2) (mArgV (M.pure g_FIGURES) (M.pure []))))) (M.pure [])))))) (mSeq (mAppend 1 (mSl pSl (mVar 0) (mPart (mVar 2)) (mPart (mVar 3)))) (mSeq (mSet 2 (mVar 3)) mNext)))) mNext)) (mSeq (mRet (mVar 1)) mNext)))
def m_tokens_of : M PV := fnM 4 1 (fun _ => false) b_tokens_of
def b_need_end : MS := (mSeq (mIfS (mTest (mOp2 pLt (mVar 1) (mCallP pLen (mCons (mVar 0) (M.pure []))))) (mSeq (mRaise (mExn "BadText" ["line", "token"] (mCons (mVar 2) (mCons (mOp2 pAdd (mVar 1) (M.pure (.int 1))) (M.pure []))))) mNext) mNext) mNext)
def m_need_end : M PV := fnM 3 3 (fun _ => false) b_need_end
def b_is_numeral : MS := (mSeq (mIfS (mOr (mTest (mOp2 pEq (mVar 0) (M.pure (.str "")))) (mOr (mTest (mOp2 pGt (mCallP pLen (mCons (mVar 0) (M.pure []))) (mVar 1))) (mNot (mTest (mCallP pAll (mCons (mFrzM (mComp [2] (mAnyI (mVar 0)) (gSlot 2) (M.pure true) (mOp2 pIn (mVar 2) (M.pure g_FIGURES)))) (M.pure []))))))) (mSeq (mRet (M.pure (.bl false))) mNext) mNext) (mSeq (mRet (mOrV (mOp2 pEq (mVar 0) (M.pure (.str "0"))) (mOp2 pNe (mOp2 pIx (mVar 0) (M.pure (.int 0))) (M.pure (.str "0"))))) mNext))
def m_is_numeral : M PV := fnM 3 2 (fun _ => false) b_is_numeral
def b_read_numeral : MS := (mSeq (mIfS (mOr (mTest (mOp2 pGe (mVar 1) (mCallP pLen (mCons (mVar 0) (M.pure []))))) (mOr (mNot (mTest (mCall m_is_numeral (mArgV (mOp2 pIx (mVar 0) (mVar 1)) (mArgV (M.pure g_MOST_FIGURES) (M.pure [])))))) (mNot (mTest (mChain pLe pLe (mVar 3) (mCallP pInt (mCons (mOp2 pIx (mVar 0) (mVar 1)) (M.pure []))) (mVar 4)))))) (mSeq (mRaise (mExn "BadText" ["line", "token"] (mCons (mVar 2) (mCons (mOp2 pAdd (mVar 1) (M.pure (.int 1))) (M.pure []))))) mNext) mNext) (mSeq (mRet (mCallP pInt (mCons (mOp2 pIx (mVar 0) (mVar 1)) (M.pure [])))) mNext))
def m_read_numeral : M PV := fnM 5 5 (fun _ => false) b_read_numeral
def b_is_letters : MS := (mSeq (mIfS (mOr (mTest (mOp2 pEq (mVar 0) (M.pure (.str "")))) (mOr (mTest (mOp2 pGt (mCallP pLen (mCons (mVar 0) (M.pure []))) (mVar 2))) (mNot (mTest (mCallP pAll (mCons (mFrzM (mComp [3] (mAnyI (mVar 0)) (gSlot 3) (M.pure true) (mOp2 pIn (mVar 3) (M.pure g_FIGURES)))) (M.pure []))))))) (mSeq (mRet (M.pure (.bl false))) mNext) mNext) (mSeq (mRet (mCallP pAll (mCons (mFrzM (mComp [3] (mAnyI (mVar 0)) (gSlot 3) (M.pure true) (mOp2 pLt (mCallP pInt (mCons (mVar 3) (M.pure []))) (mVar 1)))) (M.pure [])))) mNext))
def m_is_letters : M PV := fnM 4 3 (fun _ => false) b_is_letters
def b_word_in : MS := (mSeq (mRet (mCallP pTupOf (mCons (mFrzM (mComp [1] (mAnyI (mVar 0)) (gSlot 1) (M.pure true) (mCallP pInt (mCons (mVar 1) (M.pure []))))) (M.pure [])))) mNext)
def m_word_in : M PV := fnM 2 1 (fun _ => false) b_word_in
def b_read_word : MS := (mSeq (mSet 3 (mIf (mTest (mOp2 pLt (mVar 1) (mCallP pLen (mCons (mVar 0) (M.pure []))))) (mOp2 pIx (mVar 0) (mVar 1)) (M.pure (.str "")))) (mSeq (mIfS (mTest (mOp2 pEq (mVar 3) (M.pure (.str "e")))) (mSeq (mRet (mCallP (pSz .tup) (M.pure []))) mNext) mNext) (mSeq (mIfS (mNot (mTest (mCall m_is_letters (mArgV (mVar 3) (mArgV (M.pure (.int 10)) (mArgV (M.pure g_MOST_LONG) (M.pure []))))))) (mSeq (mRaise (mExn "BadText" ["line", "token"] (mCons (mVar 2) (mCons (mOp2 pAdd (mVar 1) (M.pure (.int 1))) (M.pure []))))) mNext) mNext) (mSeq (mRet (mCall m_word_in (mArgV (mVar 3) (M.pure [])))) mNext))))
def m_read_word : M PV := fnM 4 3 (fun _ => false) b_read_word
def b_rest_behind : MS := (mSeq (mRet (mM1 (pS1 Txt.lstripChars) (mSl pSl (mM1 (pS1 Txt.lstripChars) (mVar 0) (M.pure (.str " "))) (mPart (mCallP pLen (mCons (mVar 1) (M.pure [])))) (M.pure none)) (M.pure (.str " ")))) mNext)
def m_rest_behind : M PV := fnM 2 2 (fun _ => false) b_rest_behind
def b_read_inner : MS := (mSeq (mSet 3 (mCall m_rest_behind (mArgV (mVar 0) (mArgV (mVar 1) (M.pure []))))) (mSeq (mIfS (mTest (mOp2 pEq (mM1 (pS1 Txt.stripChars) (mVar 3) (M.pure (.str " "))) (M.pure (.str "")))) (mSeq (mRaise (mExn "BadText" ["line", "token"] (mCons (mVar 2) (mCons (M.pure (.int 2)) (M.pure []))))) mNext) mNext) (mRet (mOp1 (pRepl ";" "\n") (mVar 3)))))
def m_read_inner : M PV := fnM 4 3 (fun _ => false) b_read_inner
def b_question_in : MS := (mSeq (mSet 2 (mCall m_tokens_of (mArgV (mVar 0) (M.pure [])))) (mSeq (mSet 3 (mIf (mTest (mOp2 pNe (mVar 2) (mCallP (pSz .lst) (M.pure [])))) (mOp2 pIx (mVar 2) (M.pure (.int 0))) (M.pure (.str "")))) (mSeq (mIfS (mTest (mOp2 pIn (mVar 3) (mCallP (pSz .tup) (mCons (M.pure (.str "flow")) (mCons (M.pure (.str "sided")) (M.pure [])))))) (mSeq (mRet (mCallP (pSz .tup) (mCons (mVar 3) (mCons (mCall m_read_inner (mArgV (mVar 0) (mArgV (mVar 3) (mArgV (mVar 1) (M.pure []))))) (M.pure []))))) mNext) mNext) (mSeq (mIfS (mTest (mOp2 pIn (mVar 3) (M.pure g_BARE))) (mSeq (mSet 4 (mCallP (pSz .tup) (mCons (mVar 3) (M.pure [])))) mNext) (mSeq (mIfS (mTest (mOp2 pEq (mVar 3) (M.pure (.str "allowed")))) (mSeq (mSet 4 (mCallP (pSz .tup) (mCons (mVar 3) (mCons (mCall m_read_word (mArgV (mVar 2) (mArgV (M.pure (.int 1)) (mArgV (mVar 1) (M.pure []))))) (M.pure []))))) mNext) (mSeq (mIfS (mTest (mOp2 pIn (mVar 3) (M.pure g_NUMBERED))) (mSeq (mSet 5 (mIf (mTest (mOp2 pEq (mVar 3) (M.pure (.str "below")))) (M.pure (.int 3)) (M.pure (.int 2)))) (mSeq (mSet 4 (mOp2 pAdd (mCallP (pSz .tup) (mCons (mVar 3) (M.pure []))) (mCallP pTupOf (mCons (mFrzM (mComp [6] (mRange2 (M.pure (.int 1)) (mVar 5)) (gSlot 6) (M.pure true) (mCall m_read_numeral (mArgV (mVar 2) (mArgV (mVar 6) (mArgV (mVar 1) (mArgV (M.pure (.int 0)) (mArgV (M.pure g_MOST_SHOWN) (M.pure []))))))))) (M.pure []))))) mNext)) (mSeq (mRaise (mExn "BadText" ["line", "token"] (mCons (mVar 1) (mCons (M.pure (.int 1)) (M.pure []))))) mNext)) mNext)) mNext)) (mSeq (mDrop (mCall m_need_end (mArgV (mVar 2) (mArgV (mCallP pLen (mCons (mVar 4) (M.pure []))) (mArgV (mVar 1) (M.pure [])))))) (mSeq (mRet (mVar 4)) mNext))))))
def m_question_in : M PV := fnM 7 2 (fun _ => false) b_question_in
def b_question_of_text : MS := (mSeq (mDrop (mCall m_need_string (mArgV (mVar 0) (M.pure [])))) (mSeq (mRet (mCall m_question_in (mArgV (mVar 0) (mArgV (M.pure (.int 1)) (M.pure []))))) mNext))
def m_question_of_text : M PV := fnM 1 1 (fun _ => false) b_question_of_text
def b_l_pen : M OV := (mThenO (mSet 1 (M.pure (.int 0))) (mThenO (mFor (mAnyI (mVar 0)) (gSlot 2) (mSeq (mSet 1 (mOp2 pMod (mCallP pInt (mCons (mOp2 pAdd (mOp2 pMul (mVar 1) (M.pure (.int 47))) (mVar 2)) (M.pure []))) (M.pure (.int 1000000007)))) mNext)) (mDisp [.inr "cells", .inr "at", .inr "digits", .inr "count", .inr "fold"] (mCons (mFrzM (mListO (mVar 0))) (mCons (M.pure (.int 0)) (mCons (M.pure (.int 0)) (mCons (M.pure (.int 0)) (mCons (mVar 1) (M.pure [])))))))))
def m_l_pen : M OV := fnMO 3 1 (fun _ => false) b_l_pen
def b_l_draw : MS := (mSeq (mDPut 0 (M.pure (.str "count")) (mOp2 pAdd (mDGet 0 (M.pure (.str "count"))) (M.pure (.int 1)))) (mSeq (mIfS (mAnd (mTest (mOp2 pEq (mDGet 0 (M.pure (.str "digits"))) (M.pure (.int 0)))) (mTest (mOp2 pLt (mDGet 0 (M.pure (.str "at"))) (mCallP pLen (mCons (mDGet 0 (M.pure (.str "cells"))) (M.pure [])))))) (mSeq (mSet 2 (mOp2 pIx (mDGet 0 (M.pure (.str "cells"))) (mDGet 0 (M.pure (.str "at"))))) (mSeq (mDPut 0 (M.pure (.str "at")) (mOp2 pAdd (mDGet 0 (M.pure (.str "at"))) (M.pure (.int 1)))) (mSeq (mIfS (mTest (mOp2 pGe (mVar 2) (mOp2 pPow (M.pure (.int 10)) (M.pure (.int 18))))) (mSeq (mDPut 0 (M.pure (.str "digits")) (mOp2 pSub (mVar 2) (mOp2 pPow (M.pure (.int 10)) (M.pure (.int 18))))) mNext) (mSeq (mDPut 0 (M.pure (.str "fold")) (mOp2 pMod (mCallP pInt (mCons (mOp2 pAdd (mOp2 pMul (mDGet 0 (M.pure (.str "fold"))) (M.pure (.int 69069))) (mVar 2)) (M.pure []))) (M.pure (.int 2147483587)))) mNext)) mNext))) mNext) (mSeq (mIfS (mTest (mOp2 pGt (mDGet 0 (M.pure (.str "digits"))) (M.pure (.int 0)))) (mSeq (mSet 3 (mOp2 pMod (mCallP pInt (mCons (mDGet 0 (M.pure (.str "digits"))) (M.pure []))) (mVar 1))) (mSeq (mDPut 0 (M.pure (.str "digits")) (mOp2 pDiv (mDGet 0 (M.pure (.str "digits"))) (mVar 1))) (mSeq (mRet (mVar 3)) mNext))) mNext) (mSeq (mSet 4 (mOp2 pMod (mCallP pInt (mCons (mOp2 pAdd (mOp2 pAdd (mOp2 pMul (mDGet 0 (M.pure (.str "fold"))) (M.pure (.int 48271))) (mOp2 pMul (mDGet 0 (M.pure (.str "count"))) (M.pure (.int 7919)))) (M.pure (.int 13))) (M.pure []))) (M.pure (.int 2147483647)))) (mSeq (mSet 4 (mOp2 pMod (mCallP pInt (mCons (mOp2 pAdd (mOp2 pAdd (mOp2 pMul (mVar 4) (mVar 4)) (mOp2 pMul (M.pure (.int 31)) (mVar 4))) (mDGet 0 (M.pure (.str "count")))) (M.pure []))) (M.pure (.int 2147483629)))) (mSeq (mDPut 0 (M.pure (.str "fold")) (mOp2 pMod (mCallP pInt (mCons (mOp2 pAdd (mOp2 pMul (mVar 4) (M.pure (.int 16807))) (M.pure (.int 7))) (M.pure []))) (M.pure (.int 2147483647)))) (mSeq (mRet (mOp2 pMod (mCallP pInt (mCons (mOp2 pDiv (mVar 4) (M.pure (.int 64))) (M.pure []))) (mVar 1))) mNext)))))))
def m_l_draw : M PV := fnM 5 2 (fun i => i == 0) b_l_draw
def b_l_pick : MS := (mSeq (mRet (mOp2 pIx (mVar 1) (mCall m_l_draw (mArgS 0 (mArgV (mCallP pLen (mCons (mVar 1) (M.pure []))) (M.pure [])))))) mNext)
def m_l_pick : M PV := fnM 2 2 (fun i => i == 0) b_l_pick
def b_l_is (rec : M PV) : MS := (mSeq (mIfS (mTest (mCallP pIsi (mCons (mVar 1) (mCons (M.pure (.ty "tuple")) (M.pure []))))) (mSeq (mIfS (mOr (mNot (mTest (mCallP pIsi (mCons (mVar 0) (mCons (M.pure (.ty "tuple")) (M.pure [])))))) (mTest (mOp2 pNe (mCallP pLen (mCons (mVar 0) (M.pure []))) (mCallP pLen (mCons (mVar 1) (M.pure [])))))) (mSeq (mRet (M.pure (.bl false))) mNext) mNext) (mSeq (mRet (mOp2 pEq (mFrzM (mComp [2] (mRange1 (mCallP pLen (mCons (mVar 1) (M.pure [])))) (gSlot 2) (mNot (mTest (mCall rec (mArgV (mOp2 pIx (mVar 0) (mVar 2)) (mArgV (mOp2 pIx (mVar 1) (mVar 2)) (M.pure [])))))) (mVar 2))) (mCallP (pSz .lst) (M.pure [])))) mNext)) mNext) (mSeq (mIfS (mTest (mOp2 pIs2 (mVar 1) (M.pure .non))) (mSeq (mRet (mOp2 pIs2 (mVar 0) (M.pure .non))) mNext) mNext) (mSeq (mIfS (mTest (mOp2 pIs2 (mVar 1) (M.pure (.bl true)))) (mSeq (mRet (mOp2 pIs2 (mVar 0) (M.pure (.bl true)))) mNext) mNext) (mSeq (mIfS (mTest (mOp2 pIs2 (mVar 1) (M.pure (.bl false)))) (mSeq (mRet (mOp2 pIs2 (mVar 0) (M.pure (.bl false)))) mNext) mNext) (mSeq (mIfS (mTest (mCallP pIsi (mCons (mVar 1) (mCons (M.pure (.ty "str")) (M.pure []))))) (mSeq (mRet (mAndV (mCallP pIsi (mCons (mVar 0) (mCons (M.pure (.ty "str")) (M.pure [])))) (mOp2 pEq (mVar 0) (mVar 1)))) mNext) mNext) (mSeq (mRet (mAndV (mCallP pIsi (mCons (mVar 0) (mCons (M.pure (.ty "int")) (M.pure [])))) (mAndV (mOp1 pNotB (mCallP pIsi (mCons (mVar 0) (mCons (M.pure (.ty "bool")) (M.pure []))))) (mOp2 pEq (mVar 0) (mVar 1))))) mNext))))))
def m_l_is : Nat → M PV
  | 0 => fun _ => .bad
  | k + 1 => fnM 3 2 (fun _ => false) (b_l_is (m_l_is k))
def b_l_more_kinds (xa : Addr) (xd : Option Addr) (xC : Str) : MS := (mSeq (mSetO 1 (mLstO (M.pure []))) (mSeq (mIfS (mTest (mCallP (pIsX xa xd xC (sub xC)) (mCons (mVar 0) (mCons (M.pure (.glob "NoPlace")) (M.pure []))))) (mSeq (mAppend 1 (fun _ => .bad)) mNext) mNext) (mSeq (mIfS (mTest (mCallP (pIsX xa xd xC (sub xC)) (mCons (mVar 0) (mCons (M.pure (.glob "NoName")) (M.pure []))))) (mSeq (mAppend 1 (fun _ => .bad)) mNext) mNext) (mSeq (mIfS (mTest (mCallP (pIsX xa xd xC (sub xC)) (mCons (mVar 0) (mCons (M.pure (.glob "TakenName")) (M.pure []))))) (mSeq (mAppend 1 (fun _ => .bad)) mNext) mNext) (mSeq (mIfS (mTest (mCallP (pIsX xa xd xC (sub xC)) (mCons (mVar 0) (mCons (M.pure (.glob "Unlike")) (M.pure []))))) (mSeq (mAppend 1 (fun _ => .bad)) mNext) mNext) (mSeq (mIfS (mTest (mCallP (pIsX xa xd xC (sub xC)) (mCons (mVar 0) (mCons (M.pure (.glob "NotThere")) (M.pure []))))) (mSeq (mAppend 1 (fun _ => .bad)) mNext) mNext) (mSeq (mIfS (mTest (mCallP (pIsX xa xd xC (sub xC)) (mCons (mVar 0) (mCons (M.pure (.glob "TooMany")) (M.pure []))))) (mSeq (mAppend 1 (fun _ => .bad)) mNext) mNext) (mSeq (mIfS (mTest (mCallP (pIsX xa xd xC (sub xC)) (mCons (mVar 0) (mCons (M.pure (.glob "NotKept")) (M.pure []))))) (mSeq (mAppend 1 (fun _ => .bad)) mNext) mNext) (mSeq (mIfS (mTest (mCallP (pIsX xa xd xC (sub xC)) (mCons (mVar 0) (mCons (M.pure (.glob "NothingToUndo")) (M.pure []))))) (mSeq (mAppend 1 (fun _ => .bad)) mNext) mNext) (mSeq (mIfS (mTest (mCallP (pIsX xa xd xC (sub xC)) (mCons (mVar 0) (mCons (M.pure (.glob "NothingToRedo")) (M.pure []))))) (mSeq (mAppend 1 (fun _ => .bad)) mNext) mNext) (mSeq (mRet (mVar 1)) mNext)))))))))))
def m_l_more_kinds (xa : Addr) (xd : Option Addr) (xC : Str) : M PV := fnM 2 1 (fun _ => false) (b_l_more_kinds xa xd xC)
def b_l_kinds (xa : Addr) (xd : Option Addr) (xC : Str) : MS := (mSeq (mSetO 1 (mLstO (M.pure []))) (mSeq (mIfS (mTest (mCallP (pIsX xa xd xC (sub xC)) (mCons (mVar 0) (mCons (M.pure (.glob "BadNumber")) (M.pure []))))) (mSeq (mAppend 1 (fun _ => .bad)) mNext) mNext) (mSeq (mIfS (mTest (mCallP (pIsX xa xd xC (sub xC)) (mCons (mVar 0) (mCons (M.pure (.glob "BadRow")) (M.pure []))))) (mSeq (mAppend 1 (fun _ => .bad)) mNext) mNext) (mSeq (mIfS (mTest (mCallP (pIsX xa xd xC (sub xC)) (mCons (mVar 0) (mCons (M.pure (.glob "BadWord")) (M.pure []))))) (mSeq (mAppend 1 (fun _ => .bad)) mNext) mNext) (mSeq (mIfS (mTest (mCallP (pIsX xa xd xC (sub xC)) (mCons (mVar 0) (mCons (M.pure (.glob "BadTable")) (M.pure []))))) (mSeq (mAppend 1 (fun _ => .bad)) mNext) mNext) (mSeq (mIfS (mTest (mCallP (pIsX xa xd xC (sub xC)) (mCons (mVar 0) (mCons (M.pure (.glob "BadBook")) (M.pure []))))) (mSeq (mAppend 1 (fun _ => .bad)) mNext) mNext) (mSeq (mIfS (mTest (mCallP (pIsX xa xd xC (sub xC)) (mCons (mVar 0) (mCons (M.pure (.glob "BadName")) (M.pure []))))) (mSeq (mAppend 1 (fun _ => .bad)) mNext) mNext) (mSeq (mIfS (mTest (mCallP (pIsX xa xd xC (sub xC)) (mCons (mVar 0) (mCons (M.pure (.glob "BadText")) (M.pure []))))) (mSeq (mAppend 1 (mCallP (pSz .tup) (mCons (M.pure (.str "text")) (mCons (mOp1 (pFldX xa xd xC "BadText" "line") (mVar 0)) (mCons (mOp1 (pFldX xa xd xC "BadText" "token") (mVar 0)) (M.pure [])))))) mNext) mNext) (mSeq (mRet (mOp2 pAdd (mVar 1) (mCall (m_l_more_kinds xa xd xC) (mArgV (mVar 0) (M.pure []))))) mNext)))))))))
def m_l_kinds (xa : Addr) (xd : Option Addr) (xC : Str) : M PV := fnM 2 1 (fun _ => false) (b_l_kinds xa xd xC)
def b_l_suite (xa : Addr) (xd : Option Addr) (xC : Str) : MS := (mSeq (mSet 1 (mCall (m_l_kinds xa xd xC) (mArgV (mVar 2) (M.pure [])))) (mSeq (mSet 1 (mIf (mAnd (mTest (mOp2 pEq (mCallP pLen (mCons (mVar 1) (M.pure []))) (M.pure (.int 1)))) (mTest (mCallP (pIsX xa xd xC (sub xC)) (mCons (mVar 2) (mCons (M.pure (.ty "ValueError")) (M.pure [])))))) (mOp2 pIx (mVar 1) (M.pure (.int 0))) (mCallP (pSz .tup) (mCons (M.pure (.str "several")) (mCons (mCallP pLen (mCons (mVar 1) (M.pure []))) (M.pure [])))))) mNext))
def mkFault (x : Exn) : Option PV := if x.C = "BadText" ∧ x.ks = [("token" : Str), "line"] then (match x.vs with
  | [t, l] => some (.tup [.str "text", l, t])
  | _ => none) else none
def b_l_line_fault : MS := (mSeq (mRet (mTold mkFault (mCall m_question_of_text (mArgV (mVar 0) (M.pure []))))) mNext)
def m_l_line_fault : M PV := fnM 1 1 (fun _ => false) b_l_line_fault
def b_l_bare : MS := (mSeq (mRet (mCallP (pSz .lst) (mCons (M.pure (.str "barred")) (mCons (M.pure (.str "rooms")) (mCons (M.pure (.str "period")) (mCons (M.pure (.str "ring")) (mCons (M.pure (.str "zeta")) (mCons (M.pure (.str "least")) (mCons (M.pure (.str "parts")) (mCons (M.pure (.str "sign")) (M.pure []))))))))))) mNext)
def m_l_bare : M PV := fnM 0 0 (fun _ => false) b_l_bare
def b_l_question : MS := (mSeq (mPairS 1 2 (mFr (mCall m_l_pick (mArgS 0 (mArgV (mOp2 pAdd (mCall m_l_bare (M.pure [])) (mCallP (pSz .lst) (mCons (M.pure (.str "allowed")) (mCons (M.pure (.str "allowed")) (mCons (M.pure (.str "count")) (mCons (M.pure (.str "closed")) (mCons (M.pure (.str "rate")) (mCons (M.pure (.str "below")) (mCons (M.pure (.str "flow")) (mCons (M.pure (.str "sided")) (M.pure []))))))))))) (M.pure []))))) (mFr (mCall m_l_draw (mArgS 0 (mArgV (M.pure (.int 100)) (M.pure [])))))) (mSeq (mIfS (mTest (mOp2 pIn (mVar 1) (mCall m_l_bare (M.pure [])))) (mSeq (mRet (mCallP (pSz .tup) (mCons (mCallP (pSz .lst) (mCons (mVar 1) (M.pure []))) (mCons (mCallP (pSz .tup) (mCons (mVar 1) (M.pure []))) (M.pure []))))) mNext) mNext) (mSeq (mIfS (mTest (mOp2 pEq (mVar 1) (M.pure (.str "allowed")))) (mSeq (mSet 3 (mCallP pTupOf (mCons (mFrzM (mComp [6] (mRange1 (mCall m_l_draw (mArgS 0 (mArgV (M.pure (.int 9)) (M.pure []))))) (gSlot 6) (M.pure true) (mCall m_l_draw (mArgS 0 (mArgV (M.pure (.int 10)) (M.pure [])))))) (M.pure [])))) (mSeq (mRet (mCallP (pSz .tup) (mCons (mCallP (pSz .lst) (mCons (mVar 1) (mCons (mIf (mTest (mOp2 pNe (mVar 3) (mCallP (pSz .tup) (M.pure [])))) (mM1 pJoin (M.pure (.str "")) (mFrzM (mComp [7] (mAnyI (mVar 3)) (gSlot 7) (M.pure true) (mCallP pStr (mCons (mVar 7) (M.pure [])))))) (M.pure (.str "e"))) (M.pure [])))) (mCons (mCallP (pSz .tup) (mCons (mVar 1) (mCons (mVar 3) (M.pure [])))) (M.pure []))))) mNext)) mNext) (mSeq (mIfS (mTest (mOp2 pEq (mVar 1) (M.pure (.str "below")))) (mSeq (mSet 4 (mCall m_l_draw (mArgS 0 (mArgV (M.pure (.int 100)) (M.pure []))))) (mSeq (mRet (mCallP (pSz .tup) (mCons (mCallP (pSz .lst) (mCons (mVar 1) (mCons (mCallP pStr (mCons (mVar 2) (M.pure []))) (mCons (mCallP pStr (mCons (mVar 4) (M.pure []))) (M.pure []))))) (mCons (mCallP (pSz .tup) (mCons (mVar 1) (mCons (mVar 2) (mCons (mVar 4) (M.pure []))))) (M.pure []))))) mNext)) mNext) (mSeq (mIfS (mTest (mOp2 pIn (mVar 1) (mCallP (pSz .tup) (mCons (M.pure (.str "flow")) (mCons (M.pure (.str "sided")) (M.pure [])))))) (mSeq (mSet 5 (mCall m_l_pick (mArgS 0 (mArgV (mCallP (pSz .lst) (mCons (M.pure (.str "ways 1;row 2")) (mCons (M.pure (.str "letters 2;barred 11")) (mCons (M.pure (.str "?")) (mCons (M.pure (.str "ways")) (mCons (M.pure (.str ";")) (M.pure []))))))) (M.pure []))))) (mRet (mCallP (pSz .tup) (mCons (mCallP (pSz .lst) (mCons (mVar 1) (mCons (mVar 5) (M.pure [])))) (mCons (mCallP (pSz .tup) (mCons (mVar 1) (mCons (mOp1 (pRepl ";" "\n") (mVar 5)) (M.pure [])))) (M.pure [])))))) mNext) (mSeq (mRet (mCallP (pSz .tup) (mCons (mCallP (pSz .lst) (mCons (mVar 1) (mCons (mCallP pStr (mCons (mVar 2) (M.pure []))) (M.pure [])))) (mCons (mCallP (pSz .tup) (mCons (mVar 1) (mCons (mVar 2) (M.pure [])))) (M.pure []))))) mNext))))))
def m_l_question : M PV := fnM 8 1 (fun i => i == 0) b_l_question
def b_l_is_numeral : MS := (mSeq (mRet (mAndV (mChain pLe pLe (M.pure (.int 1)) (mCallP pLen (mCons (mVar 0) (M.pure []))) (M.pure (.int 2))) (mAndV (mOp2 pEq (mFrzM (mComp [1] (mAnyI (mVar 0)) (gSlot 1) (mTest (mOp2 pNotIn (mVar 1) (M.pure (.str "0123456789")))) (mVar 1))) (mCallP (pSz .lst) (M.pure []))) (mOrV (mOp2 pEq (mVar 0) (M.pure (.str "0"))) (mOp2 pNe (mOp2 pIx (mVar 0) (M.pure (.int 0))) (M.pure (.str "0"))))))) mNext)
def m_l_is_numeral : M PV := fnM 2 1 (fun _ => false) b_l_is_numeral
def b_l_is_word : MS := (mSeq (mRet (mOrV (mOp2 pEq (mVar 0) (M.pure (.str "e"))) (mAndV (mChain pLe pLe (M.pure (.int 1)) (mCallP pLen (mCons (mVar 0) (M.pure []))) (M.pure (.int 60))) (mOp2 pEq (mFrzM (mComp [1] (mAnyI (mVar 0)) (gSlot 1) (mTest (mOp2 pNotIn (mVar 1) (M.pure (.str "0123456789")))) (mVar 1))) (mCallP (pSz .lst) (M.pure [])))))) mNext)
def m_l_is_word : M PV := fnM 2 1 (fun _ => false) b_l_is_word
def tbl_l_wrong_need : Str → Option (M PV) := fun y => if y = "_law_is_numeral" then some m_l_is_numeral else if y = "_law_is_word" then some m_l_is_word else none
def b_l_wrong : MS := (mSeq (mSet 1 (mIf (mTest (mOp2 pNe (mVar 0) (mCallP (pSz .lst) (M.pure [])))) (mOp2 pIx (mVar 0) (M.pure (.int 0))) (M.pure (.str "")))) (mSeq (mIfS (mTest (mOp2 pIn (mVar 1) (mCallP (pSz .tup) (mCons (M.pure (.str "flow")) (mCons (M.pure (.str "sided")) (M.pure [])))))) (mSeq (mRet (mIf (mTest (mOp2 pLt (mCallP pLen (mCons (mVar 0) (M.pure []))) (M.pure (.int 2)))) (M.pure (.int 2)) (M.pure (.int 0)))) mNext) mNext) (mSeq (mSet 2 (mFrzM (mDisp [.inr "allowed", .inr "count", .inr "closed", .inr "rate", .inr "below"] (mCons (mCallP (pSz .lst) (mCons (M.pure (.glob "_law_is_word")) (M.pure []))) (mCons (mCallP (pSz .lst) (mCons (M.pure (.glob "_law_is_numeral")) (M.pure []))) (mCons (mCallP (pSz .lst) (mCons (M.pure (.glob "_law_is_numeral")) (M.pure []))) (mCons (mCallP (pSz .lst) (mCons (M.pure (.glob "_law_is_numeral")) (M.pure []))) (mCons (mCallP (pSz .lst) (mCons (M.pure (.glob "_law_is_numeral")) (mCons (M.pure (.glob "_law_is_numeral")) (M.pure [])))) (M.pure []))))))))) (mSeq (mIfS (mAnd (mTest (mOp2 pDNotIn (mVar 1) (mVar 2))) (mTest (mOp2 pNotIn (mVar 1) (mCall m_l_bare (M.pure []))))) (mSeq (mRet (M.pure (.int 1))) mNext) mNext) (mSeq (mSet 3 (mIf (mTest (mOp2 pDIn (mVar 1) (mVar 2))) (mOp2 pDGet (mVar 2) (mVar 1)) (mCallP (pSz .lst) (M.pure [])))) (mSeq (mFor (mEnum (mVar 3)) (gTupP (gConsP (gSlot 4) (gConsP (gSlot 5) gNilP))) (mSeq (mIfS (mOr (mTest (mOp2 pGe (mOp2 pAdd (mVar 4) (M.pure (.int 1))) (mCallP pLen (mCons (mVar 0) (M.pure []))))) (mNot (mTest (callG tbl_l_wrong_need 5 (mArgV (mOp2 pIx (mVar 0) (mOp2 pAdd (mVar 4) (M.pure (.int 1)))) (M.pure [])))))) (mSeq (mRet (mOp2 pAdd (mVar 4) (M.pure (.int 2)))) mNext) mNext) mNext)) (mSeq (mRet (mIf (mTest (mOp2 pGt (mCallP pLen (mCons (mVar 0) (M.pure []))) (mOp2 pAdd (mCallP pLen (mCons (mVar 3) (M.pure []))) (M.pure (.int 1))))) (mOp2 pAdd (mCallP pLen (mCons (mVar 3) (M.pure []))) (M.pure (.int 2))) (M.pure (.int 0)))) mNext)))))))
def m_l_wrong : M PV := fnM 6 1 (fun _ => false) b_l_wrong
def b_l_right : MS := (mSeq (mAsg (gTupP (gConsP (gSlot 1) (gConsP (gSlot 2) gNilP))) (mCall m_l_question (mArgS 0 (M.pure [])))) (mSeq (mSet 3 (mIf (mTest (mOp2 pIn (mOp2 pIx (mVar 1) (M.pure (.int 0))) (mCallP (pSz .tup) (mCons (M.pure (.str "flow")) (mCons (M.pure (.str "sided")) (M.pure [])))))) (M.pure (.str "")) (mOp2 pMul (M.pure (.str " ")) (mCall m_l_draw (mArgS 0 (mArgV (M.pure (.int 2)) (M.pure []))))))) (mSeq (mIfS (mNot (mTest (mCall (m_l_is 8) (mArgV (mCall m_question_of_text (mArgV (mOp2 pAdd (mOp2 pAdd (mOp2 pMul (M.pure (.str " ")) (mCall m_l_draw (mArgS 0 (mArgV (M.pure (.int 3)) (M.pure []))))) (mM1 pJoin (M.pure (.str "  ")) (mVar 1))) (mVar 3)) (M.pure []))) (mArgV (mVar 2) (M.pure [])))))) (mSeq (mRet (M.pure (.bl false))) mNext) mNext) (mSeq (mFor (mRange1 (M.pure (.int 6))) (gSlot 4) (mSeq (mPairS 5 6 (mFr (mCall m_l_draw (mArgS 0 (mArgV (mCallP pLen (mCons (mVar 1) (M.pure []))) (M.pure []))))) (mFr (mCall m_l_pick (mArgS 0 (mArgV (mCallP (pSz .lst) (mCons (M.pure (.str "rate")) (mCons (M.pure (.str "ring")) (mCons (M.pure (.str "12")) (mCons (M.pure (.str "012")) (mCons (M.pure (.str "123")) (mCons (M.pure (.str "e")) (mCons (M.pure (.str "x")) (mCons (M.pure (.str "-")) (mCons (M.pure (.str "A")) (mCons (M.pure (.str "0")) (mCons (M.pure (.str "3")) (M.pure []))))))))))))) (M.pure [])))))) (mSeq (mSet 7 (mCall m_l_pick (mArgS 0 (mArgV (mCallP (pSz .lst) (mCons (mOp2 pAdd (mSl pSl (mVar 1) (M.pure none) (mPart (mVar 5))) (mSl pSl (mVar 1) (mPart (mOp2 pAdd (mVar 5) (M.pure (.int 1)))) (M.pure none))) (mCons (mOp2 pAdd (mVar 1) (mCallP (pSz .lst) (mCons (mVar 6) (M.pure [])))) (mCons (mOp2 pAdd (mOp2 pAdd (mSl pSl (mVar 1) (M.pure none) (mPart (mVar 5))) (mCallP (pSz .lst) (mCons (mVar 6) (M.pure [])))) (mSl pSl (mVar 1) (mPart (mOp2 pAdd (mVar 5) (M.pure (.int 1)))) (M.pure none))) (mCons (mOp2 pAdd (mOp2 pAdd (mSl pSl (mVar 1) (M.pure none) (mPart (mVar 5))) (mCallP (pSz .lst) (mCons (mVar 6) (M.pure [])))) (mSl pSl (mVar 1) (mPart (mVar 5)) (M.pure none))) (M.pure [])))))) (M.pure []))))) (mSeq (mSet 8 (mCall m_l_wrong (mArgV (mVar 7) (M.pure [])))) (mSeq (mIfS (mTest (mOp2 pNe (mCall m_l_line_fault (mArgV (mM1 pJoin (M.pure (.str " ")) (mVar 7)) (M.pure []))) (mIf (mTest (mOp2 pGt (mVar 8) (M.pure (.int 0)))) (mCallP (pSz .tup) (mCons (M.pure (.str "text")) (mCons (M.pure (.int 1)) (mCons (mVar 8) (M.pure []))))) (M.pure .non)))) (mSeq (mRet (M.pure (.bl false))) mNext) mNext) mNext))))) (mSeq (mRet (M.pure (.bl true))) mNext)))))
def m_l_right : M PV := fnM 9 1 (fun i => i == 0) b_l_right
def b_law : MS := (mSeq (mSetO 1 (mCallO m_l_pen (mArgV (mVar 0) (M.pure [])))) (mSeq (mFor (mRange1 (M.pure (.int 8))) (gSlot 2) (mSeq (mIfS (mNot (mTest (mCall m_l_right (mArgS 1 (M.pure []))))) (mSeq (mRet (M.pure (.bl false))) mNext) mNext) mNext)) (mSeq (mSet 3 (mCall m_l_pick (mArgS 1 (mArgV (mCallP (pSz .lst) (mCons (M.pure .non) (mCons (M.pure (.int 3)) (mCons (M.pure (.bl true)) (mCons (mCallP (pSz .lst) (mCons (M.pure (.str "ring")) (M.pure []))) (M.pure [])))))) (M.pure []))))) (mSeq (mIfS (mTest (mOp2 pNe (mCall m_l_line_fault (mArgV (mVar 3) (M.pure []))) (mCallP (pSz .tup) (mCons (M.pure (.str "text")) (mCons (M.pure (.int 0)) (mCons (M.pure (.int 0)) (M.pure []))))))) (mSeq (mRet (M.pure (.bl false))) mNext) mNext) (mSeq (mSetO 4 (mLstO (mCons (mCallP (pSz .tup) (mCons (M.pure (.str "")) (mCons (M.pure (.int 1)) (M.pure [])))) (mCons (mCallP (pSz .tup) (mCons (M.pure (.str "  ")) (mCons (M.pure (.int 1)) (M.pure [])))) (mCons (mCallP (pSz .tup) (mCons (M.pure (.str "Ring")) (mCons (M.pure (.int 1)) (M.pure [])))) (mCons (mCallP (pSz .tup) (mCons (M.pure (.str "rings")) (mCons (M.pure (.int 1)) (M.pure [])))) (mCons (mCallP (pSz .tup) (mCons (M.pure (.str "ring ring")) (mCons (M.pure (.int 2)) (M.pure [])))) (mCons (mCallP (pSz .tup) (mCons (M.pure (.str "flow")) (mCons (M.pure (.int 2)) (M.pure [])))) (mCons (mCallP (pSz .tup) (mCons (M.pure (.str "flow  ")) (mCons (M.pure (.int 2)) (M.pure [])))) (mCons (mCallP (pSz .tup) (mCons (M.pure (.str "sided")) (mCons (M.pure (.int 2)) (M.pure [])))) (mCons (mCallP (pSz .tup) (mCons (M.pure (.str "rate")) (mCons (M.pure (.int 2)) (M.pure [])))) (mCons (mCallP (pSz .tup) (mCons (M.pure (.str "rate 100")) (mCons (M.pure (.int 2)) (M.pure [])))) (mCons (mCallP (pSz .tup) (mCons (M.pure (.str "below 1")) (mCons (M.pure (.int 3)) (M.pure [])))) (mCons (mCallP (pSz .tup) (mCons (M.pure (.str "below 1 2 3")) (mCons (M.pure (.int 4)) (M.pure [])))) (M.pure []))))))))))))))) (mSeq (mExtend 4 (mCallP (pSz .lst) (mCons (mCallP (pSz .tup) (mCons (M.pure (.str "allowed 1 1")) (mCons (M.pure (.int 3)) (M.pure [])))) (mCons (mCallP (pSz .tup) (mCons (M.pure (.str "allowed")) (mCons (M.pure (.int 2)) (M.pure [])))) (mCons (mCallP (pSz .tup) (mCons (M.pure (.str "count 01")) (mCons (M.pure (.int 2)) (M.pure [])))) (mCons (mCallP (pSz .tup) (mCons (M.pure (.str "closed -1")) (mCons (M.pure (.int 2)) (M.pure [])))) (mCons (mCallP (pSz .tup) (mCons (M.pure (.str "\tring")) (mCons (M.pure (.int 1)) (M.pure [])))) (mCons (mCallP (pSz .tup) (mCons (mOp2 pAdd (M.pure (.str "allowed ")) (mOp2 pMul (M.pure (.str "0")) (M.pure (.int 61)))) (mCons (M.pure (.int 2)) (M.pure [])))) (M.pure []))))))))) (mSeq (mIfS (mTest (mOp2 pNe (mFrzM (mComp [5, 6] (mAnyI (mVar 4)) (gTupP (gConsP (gSlot 5) (gConsP (gSlot 6) gNilP))) (mTest (mOp2 pNe (mCall m_l_line_fault (mArgV (mVar 5) (M.pure []))) (mCallP (pSz .tup) (mCons (M.pure (.str "text")) (mCons (M.pure (.int 1)) (mCons (mVar 6) (M.pure []))))))) (mVar 5))) (mCallP (pSz .lst) (M.pure [])))) (mSeq (mRet (M.pure (.bl false))) mNext) mNext) (mSeq (mRet (mAndV (mCall (m_l_is 8) (mArgV (mCall m_question_of_text (mArgV (M.pure (.str "flow ways 1; row 2")) (M.pure []))) (mArgV (mCallP (pSz .tup) (mCons (M.pure (.str "flow")) (mCons (M.pure (.str "ways 1\n row 2")) (M.pure [])))) (M.pure [])))) (mCall (m_l_is 8) (mArgV (mCall m_question_of_text (mArgV (mOp2 pAdd (M.pure (.str "allowed ")) (mOp2 pMul (M.pure (.str "012")) (M.pure (.int 20)))) (M.pure []))) (mArgV (mCallP (pSz .tup) (mCons (M.pure (.str "allowed")) (mCons (mOp2 pMul (mCallP (pSz .tup) (mCons (M.pure (.int 0)) (mCons (M.pure (.int 1)) (mCons (M.pure (.int 2)) (M.pure []))))) (M.pure (.int 20))) (M.pure [])))) (M.pure [])))))) mNext))))))))
def m_law : M PV := fnM 7 1 (fun _ => false) b_law
end
end K75

set_option Elab.async false
set_option linter.all false
set_option maxRecDepth 100000
set_option maxHeartbeats 2000000
namespace K75
open PySem PySem.Spec PyProof.Rows L2 LamX VS
noncomputable section
structure Txt (K : Frag) (mg : Str → Option Value) (fa : Nat → Addr) (fd : Nat → FuncData) (T : List (Addr × Str)) (base : Heap) : Prop where
  F_need_string : L2.Fun K "need_string" "need_string" s_need_string (fa 21) (fd 21)
  m_need_string : mg "need_string" = some (.ref (fa 21))
  b_need_string : L2.Binds K (fd 21) ["text"] []
  F_run_of : L2.Fun K "run_of" "run_of" s_run_of (fa 22) (fd 22)
  m_run_of : mg "run_of" = some (.ref (fa 22))
  b_run_of : L2.Binds K (fd 22) ["text", "at", "some"] []
  F_tokens_of : L2.Fun K "tokens_of" "tokens_of" s_tokens_of (fa 23) (fd 23)
  m_tokens_of : mg "tokens_of" = some (.ref (fa 23))
  b_tokens_of : L2.Binds K (fd 23) ["text"] []
  F_need_end : L2.Fun K "need_end" "need_end" s_need_end (fa 24) (fd 24)
  m_need_end : mg "need_end" = some (.ref (fa 24))
  b_need_end : L2.Binds K (fd 24) ["tokens", "at", "line"] []
  F_is_numeral : L2.Fun K "is_numeral" "is_numeral" s_is_numeral (fa 25) (fd 25)
  m_is_numeral : mg "is_numeral" = some (.ref (fa 25))
  b_is_numeral : L2.Binds K (fd 25) ["token", "most"] []
  F_read_numeral : L2.Fun K "read_numeral" "read_numeral" s_read_numeral (fa 32) (fd 32)
  m_read_numeral : mg "read_numeral" = some (.ref (fa 32))
  b_read_numeral : L2.Binds K (fd 32) ["tokens", "at", "line", "low", "high"] []
  F_is_letters : L2.Fun K "is_letters" "is_letters" s_is_letters (fa 33) (fd 33)
  m_is_letters : mg "is_letters" = some (.ref (fa 33))
  b_is_letters : L2.Binds K (fd 33) ["token", "letters", "most"] []
  F_word_in : L2.Fun K "word_in" "word_in" s_word_in (fa 34) (fd 34)
  m_word_in : mg "word_in" = some (.ref (fa 34))
  b_word_in : L2.Binds K (fd 34) ["token"] []
  F_read_word : L2.Fun K "read_word" "read_word" s_read_word (fa 35) (fd 35)
  m_read_word : mg "read_word" = some (.ref (fa 35))
  b_read_word : L2.Binds K (fd 35) ["tokens", "at", "line"] []
  F_rest_behind : L2.Fun K "rest_behind" "rest_behind" s_rest_behind (fa 36) (fd 36)
  m_rest_behind : mg "rest_behind" = some (.ref (fa 36))
  b_rest_behind : L2.Binds K (fd 36) ["text", "head"] []
  F_read_inner : L2.Fun K "read_inner" "read_inner" s_read_inner (fa 37) (fd 37)
  m_read_inner : mg "read_inner" = some (.ref (fa 37))
  b_read_inner : L2.Binds K (fd 37) ["text", "head", "line"] []
  F_question_in : L2.Fun K "question_in" "question_in" s_question_in (fa 38) (fd 38)
  m_question_in : mg "question_in" = some (.ref (fa 38))
  b_question_in : L2.Binds K (fd 38) ["text", "line"] []
  F_question_of_text : L2.Fun K "question_of_text" "question_of_text" s_question_of_text (fa 39) (fd 39)
  m_question_of_text : mg "question_of_text" = some (.ref (fa 39))
  b_question_of_text : L2.Binds K (fd 39) ["text"] []
  F_l_pen : L2.Fun K "_law_pen" "_law_pen" s_l_pen (fa 41) (fd 41)
  m_l_pen : mg "_law_pen" = some (.ref (fa 41))
  b_l_pen : L2.Binds K (fd 41) ["script"] []
  F_l_draw : L2.Fun K "_law_draw" "_law_draw" s_l_draw (fa 42) (fd 42)
  m_l_draw : mg "_law_draw" = some (.ref (fa 42))
  b_l_draw : L2.Binds K (fd 42) ["pen", "many"] []
  F_l_pick : L2.Fun K "_law_pick" "_law_pick" s_l_pick (fa 43) (fd 43)
  m_l_pick : mg "_law_pick" = some (.ref (fa 43))
  b_l_pick : L2.Binds K (fd 43) ["pen", "some"] []
  F_l_is : L2.Fun K "_law_is" "_law_is" s_l_is (fa 44) (fd 44)
  m_l_is : mg "_law_is" = some (.ref (fa 44))
  b_l_is : L2.Binds K (fd 44) ["told", "due"] []
  F_l_more_kinds : L2.Fun K "_law_more_kinds" "_law_more_kinds" s_l_more_kinds (fa 47) (fd 47)
  m_l_more_kinds : mg "_law_more_kinds" = some (.ref (fa 47))
  b_l_more_kinds : L2.Binds K (fd 47) ["e"] []
  F_l_kinds : L2.Fun K "_law_kinds" "_law_kinds" s_l_kinds (fa 46) (fd 46)
  m_l_kinds : mg "_law_kinds" = some (.ref (fa 46))
  b_l_kinds : L2.Binds K (fd 46) ["e"] []
  F_l_fault : L2.Fun K "_law_fault" "_law_fault" s_l_fault (fa 45) (fd 45)
  m_l_fault : mg "_law_fault" = some (.ref (fa 45))
  b_l_fault : L2.Binds K (fd 45) ["call"] []
  F_l_line_fault : L2.Fun K "_law_line_fault" "_law_line_fault" s_l_line_fault (fa 48) (fd 48)
  m_l_line_fault : mg "_law_line_fault" = some (.ref (fa 48))
  b_l_line_fault : L2.Binds K (fd 48) ["text"] []
  F_l_bare : L2.Fun K "_law_bare" "_law_bare" s_l_bare (fa 49) (fd 49)
  m_l_bare : mg "_law_bare" = some (.ref (fa 49))
  b_l_bare : L2.Binds K (fd 49) [] []
  F_l_question : L2.Fun K "_law_question" "_law_question" s_l_question (fa 50) (fd 50)
  m_l_question : mg "_law_question" = some (.ref (fa 50))
  b_l_question : L2.Binds K (fd 50) ["pen"] []
  F_l_is_numeral : L2.Fun K "_law_is_numeral" "_law_is_numeral" s_l_is_numeral (fa 51) (fd 51)
  m_l_is_numeral : mg "_law_is_numeral" = some (.ref (fa 51))
  b_l_is_numeral : L2.Binds K (fd 51) ["token"] []
  F_l_is_word : L2.Fun K "_law_is_word" "_law_is_word" s_l_is_word (fa 52) (fd 52)
  m_l_is_word : mg "_law_is_word" = some (.ref (fa 52))
  b_l_is_word : L2.Binds K (fd 52) ["token"] []
  F_l_wrong : L2.Fun K "_law_wrong" "_law_wrong" s_l_wrong (fa 53) (fd 53)
  m_l_wrong : mg "_law_wrong" = some (.ref (fa 53))
  b_l_wrong : L2.Binds K (fd 53) ["tokens"] []
  F_l_right : L2.Fun K "_law_right" "_law_right" s_l_right (fa 54) (fd 54)
  m_l_right : mg "_law_right" = some (.ref (fa 54))
  b_l_right : L2.Binds K (fd 54) ["pen"] []
  F_law : L2.Fun K "law" "law" s_law (fa 55) (fd 55)
  m_law : mg "law" = some (.ref (fa 55))
  b_law : L2.Binds K (fd 55) ["script"] []
  z_ValueError : mg "ValueError" = none
  z_all : mg "all" = none
  z_bool : mg "bool" = none
  z_enumerate : mg "enumerate" = none
  z_int : mg "int" = none
  z_isinstance : mg "isinstance" = none
  z_len : mg "len" = none
  z_list : mg "list" = none
  z_max : mg "max" = none
  z_range : mg "range" = none
  z_repr : mg "repr" = none
  z_str : mg "str" = none
  z_tuple : mg "tuple" = none
  g_SMALL : GlV K mg "SMALL" g_SMALL
  g_FIGURES : GlV K mg "FIGURES" g_FIGURES
  g_MOST_FIGURES : GlV K mg "MOST_FIGURES" g_MOST_FIGURES
  g_MOST_SHOWN : GlV K mg "MOST_SHOWN" g_MOST_SHOWN
  g_MOST_LONG : GlV K mg "MOST_LONG" g_MOST_LONG
  g_BARE : GlV K mg "BARE" g_BARE
  g_NUMBERED : GlV K mg "NUMBERED" g_NUMBERED
  mC_ShiftError : mg "ShiftError" = some (.ref (fa 1))
  mC_BadNumber : mg "BadNumber" = some (.ref (fa 2))
  mC_BadRow : mg "BadRow" = some (.ref (fa 3))
  mC_BadWord : mg "BadWord" = some (.ref (fa 4))
  mC_BadTable : mg "BadTable" = some (.ref (fa 5))
  mC_BadBook : mg "BadBook" = some (.ref (fa 6))
  mC_BadName : mg "BadName" = some (.ref (fa 7))
  mC_BadText : mg "BadText" = some (.ref (fa 8))
  mC_NoPlace : mg "NoPlace" = some (.ref (fa 9))
  mC_NoName : mg "NoName" = some (.ref (fa 10))
  mC_TakenName : mg "TakenName" = some (.ref (fa 11))
  mC_Unlike : mg "Unlike" = some (.ref (fa 12))
  mC_NotThere : mg "NotThere" = some (.ref (fa 13))
  mC_TooMany : mg "TooMany" = some (.ref (fa 14))
  mC_NotKept : mg "NotKept" = some (.ref (fa 15))
  mC_NothingToUndo : mg "NothingToUndo" = some (.ref (fa 16))
  mC_NothingToRedo : mg "NothingToRedo" = some (.ref (fa 17))
  oex_BadText : OexC K (fa 8)
  iC_BadText : PySem.W.findIn K (.ref (fa 8)) "__init__" = some (some (.ref (fa 508)))
  tI_BadText : PySem.W.typeIn K (.ref (fa 508)) = some (.type "function")
  FI_BadText : L2.Fun K "__init__" "BadText.__init__" sI_BadText (fa 508) (fd 508)
  bI_BadText : L2.Binds K (fd 508) NI_BadText []
  no_BadText_line : PySem.W.findIn K (.ref (fa 8)) "line" = some none
  no_BadText_token : PySem.W.findIn K (.ref (fa 8)) "token" = some none
  xk_BadText : ExK K (fa 8)
  kit_BadText_ShiftError : PySem.W.kitOne K (.ref (fa 8)) (.ref (fa 1)) = some true
  kit_BadText_BadNumber : PySem.W.kitOne K (.ref (fa 8)) (.ref (fa 2)) = some false
  kit_BadText_BadRow : PySem.W.kitOne K (.ref (fa 8)) (.ref (fa 3)) = some false
  kit_BadText_BadWord : PySem.W.kitOne K (.ref (fa 8)) (.ref (fa 4)) = some false
  kit_BadText_BadTable : PySem.W.kitOne K (.ref (fa 8)) (.ref (fa 5)) = some false
  kit_BadText_BadBook : PySem.W.kitOne K (.ref (fa 8)) (.ref (fa 6)) = some false
  kit_BadText_BadName : PySem.W.kitOne K (.ref (fa 8)) (.ref (fa 7)) = some false
  kit_BadText_BadText : PySem.W.kitOne K (.ref (fa 8)) (.ref (fa 8)) = some true
  kit_BadText_NoPlace : PySem.W.kitOne K (.ref (fa 8)) (.ref (fa 9)) = some false
  kit_BadText_NoName : PySem.W.kitOne K (.ref (fa 8)) (.ref (fa 10)) = some false
  kit_BadText_TakenName : PySem.W.kitOne K (.ref (fa 8)) (.ref (fa 11)) = some false
  kit_BadText_Unlike : PySem.W.kitOne K (.ref (fa 8)) (.ref (fa 12)) = some false
  kit_BadText_NotThere : PySem.W.kitOne K (.ref (fa 8)) (.ref (fa 13)) = some false
  kit_BadText_TooMany : PySem.W.kitOne K (.ref (fa 8)) (.ref (fa 14)) = some false
  kit_BadText_NotKept : PySem.W.kitOne K (.ref (fa 8)) (.ref (fa 15)) = some false
  kit_BadText_NothingToUndo : PySem.W.kitOne K (.ref (fa 8)) (.ref (fa 16)) = some false
  kit_BadText_NothingToRedo : PySem.W.kitOne K (.ref (fa 8)) (.ref (fa 17)) = some false
  kit_BadText_VE : PySem.W.kitOne K (.ref (fa 8)) (.type "ValueError") = some true
  exm_BadText : PySem.W.exmOne K (.ref (fa 8)) (.ref (fa 1)) = some true
  tb : TabB base mg (fa 900) (fa 901)
  cd_l_line_fault : (fd 48).code = .ref (fa 900)
  eT : T = [(fa 901, (envOfC "_law_line_fault" (defScope s_l_line_fault) 0 0 .none).qual ++ "<lambda>")]
variable {P : Program} {w : World} {K : Frag} {mg : Str → Option Value} {base : Heap} {T : List (Addr × Str)} {fa : Nat → Addr} {fd : Nat → FuncData}
theorem bt_ValueError : bootBuiltins "ValueError" = some (.type "ValueError") := by decide +kernel
theorem bt_all : bootBuiltins "all" = some (.builtin "all") := by decide +kernel
theorem bt_bool : bootBuiltins "bool" = some (.type "bool") := by decide +kernel
theorem bt_int : bootBuiltins "int" = some (.type "int") := by decide +kernel
theorem bt_isinstance : bootBuiltins "isinstance" = some (.builtin "isinstance") := by decide +kernel
theorem bt_len : bootBuiltins "len" = some (.builtin "len") := by decide +kernel
theorem bt_list : bootBuiltins "list" = some (.type "list") := by decide +kernel
theorem bt_max : bootBuiltins "max" = some (.builtin "max") := by decide +kernel
theorem bt_repr : bootBuiltins "repr" = some (.builtin "repr") := by decide +kernel
theorem bt_str : bootBuiltins "str" = some (.type "str") := by decide +kernel
theorem bt_tuple : bootBuiltins "tuple" = some (.type "tuple") := by decide +kernel
theorem ini_BadText (Tx : Txt K mg fa fd T base) : FnOk P w K mg base (L2.CX P w) 1 (fa 508) (fd 508) NI_BadText (spXI (fa 8) ["line", "token"]) :=
  init_ok (k := 0) Tx.FI_BadText scI_BadText Tx.oex_BadText (fun h hh => by
    simp only [List.mem_cons, List.not_mem_nil, or_false] at hh
    rcases hh with rfl | rfl
    · exact Tx.no_BadText_line
    · exact Tx.no_BadText_token) (by decide) rfl rfl fun cdv A outer s H E => (pss_cons (ps_ost (pv 0) (pv 1)) (pss_cons (ps_ost (pv 0) (pv 2)) pss_nil))
theorem xf_BadText_line (Tx : Txt K mg fa fd T base) : ∀ c, mg "BadText" = some (.ref c) → XfC K c ∧ PySem.W.findIn K (.ref c) "line" = some none := fun c h => by
  rw [Tx.mC_BadText] at h
  cases h
  exact ⟨⟨Tx.xk_BadText.ga, Tx.xk_BadText.gt, Tx.xk_BadText.sb, Tx.xk_BadText.hd⟩, Tx.no_BadText_line⟩
theorem xf_BadText_token (Tx : Txt K mg fa fd T base) : ∀ c, mg "BadText" = some (.ref c) → XfC K c ∧ PySem.W.findIn K (.ref c) "token" = some none := fun c h => by
  rw [Tx.mC_BadText] at h
  cases h
  exact ⟨⟨Tx.xk_BadText.ga, Tx.xk_BadText.gt, Tx.xk_BadText.sb, Tx.xk_BadText.hd⟩, Tx.no_BadText_token⟩
def IsK (K : Frag) (mg : Str → Option Value) (c : Addr) (D : Str) (b : Bool) : Prop := ∃ g, mg D = some (.ref g) ∧ PySem.W.kitOne K (.ref c) (.ref g) = some b
theorem fa_nil {Q : Str → Bool → Prop} : ∀ p ∈ ([] : List (Str × Bool)), Q p.1 p.2 := fun p h => nomatch h
theorem fa_cons {Q : Str → Bool → Prop} {D : Str} {b : Bool} {l : List (Str × Bool)} (h : Q D b) (t : ∀ p ∈ l, Q p.1 p.2) : ∀ p ∈ (D, b) :: l, Q p.1 p.2 := fun p hp => (List.mem_cons.mp hp).elim (fun e => by rw [e]; exact h) (t p)
theorem look_fa {Q : Str → Bool → Prop} {D : Str} {b : Bool} {l : List (Str × Bool)} (h : ∀ p ∈ l, Q p.1 p.2) (e : l.lookup D = some b) : Q D b := h (D, b) (PySem.mem_of_lookup e)
theorem sub_ok (Tx : Txt K mg fa fd T base) (C : Str) : SubOk K mg C (sub C) := by
  intro c hc D b e
  cases D with
  | glob y =>
    unfold sub kindOfC at e
    dsimp only at e
    split at e
    · rename_i h1
      subst h1
      rw [Tx.mC_BadText] at hc
      cases hc
      obtain ⟨g, h2, h3⟩ := look_fa (Q := IsK K mg (fa 8)) (l := kinds_BadText) (fa_cons (Q := IsK K mg (fa 8)) (D := "ShiftError") ⟨_, Tx.mC_ShiftError, Tx.kit_BadText_ShiftError⟩ (fa_cons (Q := IsK K mg (fa 8)) (D := "BadNumber") ⟨_, Tx.mC_BadNumber, Tx.kit_BadText_BadNumber⟩ (fa_cons (Q := IsK K mg (fa 8)) (D := "BadRow") ⟨_, Tx.mC_BadRow, Tx.kit_BadText_BadRow⟩ (fa_cons (Q := IsK K mg (fa 8)) (D := "BadWord") ⟨_, Tx.mC_BadWord, Tx.kit_BadText_BadWord⟩ (fa_cons (Q := IsK K mg (fa 8)) (D := "BadTable") ⟨_, Tx.mC_BadTable, Tx.kit_BadText_BadTable⟩ (fa_cons (Q := IsK K mg (fa 8)) (D := "BadBook") ⟨_, Tx.mC_BadBook, Tx.kit_BadText_BadBook⟩ (fa_cons (Q := IsK K mg (fa 8)) (D := "BadName") ⟨_, Tx.mC_BadName, Tx.kit_BadText_BadName⟩ (fa_cons (Q := IsK K mg (fa 8)) (D := "BadText") ⟨_, Tx.mC_BadText, Tx.kit_BadText_BadText⟩ (fa_cons (Q := IsK K mg (fa 8)) (D := "NoPlace") ⟨_, Tx.mC_NoPlace, Tx.kit_BadText_NoPlace⟩ (fa_cons (Q := IsK K mg (fa 8)) (D := "NoName") ⟨_, Tx.mC_NoName, Tx.kit_BadText_NoName⟩ (fa_cons (Q := IsK K mg (fa 8)) (D := "TakenName") ⟨_, Tx.mC_TakenName, Tx.kit_BadText_TakenName⟩ (fa_cons (Q := IsK K mg (fa 8)) (D := "Unlike") ⟨_, Tx.mC_Unlike, Tx.kit_BadText_Unlike⟩ (fa_cons (Q := IsK K mg (fa 8)) (D := "NotThere") ⟨_, Tx.mC_NotThere, Tx.kit_BadText_NotThere⟩ (fa_cons (Q := IsK K mg (fa 8)) (D := "TooMany") ⟨_, Tx.mC_TooMany, Tx.kit_BadText_TooMany⟩ (fa_cons (Q := IsK K mg (fa 8)) (D := "NotKept") ⟨_, Tx.mC_NotKept, Tx.kit_BadText_NotKept⟩ (fa_cons (Q := IsK K mg (fa 8)) (D := "NothingToUndo") ⟨_, Tx.mC_NothingToUndo, Tx.kit_BadText_NothingToUndo⟩ (fa_cons (Q := IsK K mg (fa 8)) (D := "NothingToRedo") ⟨_, Tx.mC_NothingToRedo, Tx.kit_BadText_NothingToRedo⟩ (fa_nil (Q := IsK K mg (fa 8)))))))))))))))))))) e
      exact ⟨Tx.xk_BadText, .inl ⟨_, _, rfl, h2, h3⟩⟩
    ·
      cases e
  | ty n =>
    unfold sub at e
    dsimp only at e
    split at e
    · rename_i h1
      split at e
      · rename_i h2
        subst h2; cases e
        rcases h1 with h1
        · subst h1
          rw [Tx.mC_BadText] at hc
          cases hc
          exact ⟨Tx.xk_BadText, .inr ⟨_, rfl, Tx.kit_BadText_VE⟩⟩
      · cases e
    · cases e
  | _ => cases e
end
end K75

set_option linter.all false
set_option maxRecDepth 100000
set_option maxHeartbeats 2000000
namespace K75
open PySem PySem.Spec PyProof.Rows L2 LamX VS
theorem isX_same {a : Addr} {d : Option Addr} {C : Str} {sub : PV → Option Bool} {ks vs D} : pIsX a d C sub [.exc a d C ks vs, D] = (sub D).map .bl := if_pos ⟨rfl, rfl, rfl⟩
theorem fldX_same {a : Addr} {d : Option Addr} {C f : Str} {k} {ks : List Str} {vs} : pFldX a d C C f (.exc a d C (k :: ks) vs) = lookP (k :: ks) vs f := if_pos ⟨rfl, rfl, rfl, List.cons_ne_nil _ _, rfl⟩
theorem sub1 : sub "BadText" (.glob "BadNumber") = some false := by decide +kernel
theorem sub2 : sub "BadText" (.glob "BadRow") = some false := by decide +kernel
theorem sub3 : sub "BadText" (.glob "BadWord") = some false := by decide +kernel
theorem sub4 : sub "BadText" (.glob "BadTable") = some false := by decide +kernel
theorem sub5 : sub "BadText" (.glob "BadBook") = some false := by decide +kernel
theorem sub6 : sub "BadText" (.glob "BadName") = some false := by decide +kernel
theorem sub7 : sub "BadText" (.glob "BadText") = some true := by decide +kernel
theorem fldL {a : Addr} {d : Option Addr} {t l : PV} : pFldX a d "BadText" "BadText" "line" (.exc a d "BadText" ["token", "line"] [t, l]) = some l := fldX_same.trans (by with_unfolding_all rfl)
theorem fldT {a : Addr} {d : Option Addr} {t l : PV} : pFldX a d "BadText" "BadText" "token" (.exc a d "BadText" ["token", "line"] [t, l]) = some t := fldX_same.trans (by with_unfolding_all rfl)
theorem sub8 : sub "BadText" (.glob "NoPlace") = some false := by decide +kernel
theorem sub9 : sub "BadText" (.glob "NoName") = some false := by decide +kernel
theorem sub10 : sub "BadText" (.glob "TakenName") = some false := by decide +kernel
theorem sub11 : sub "BadText" (.glob "Unlike") = some false := by decide +kernel
theorem sub12 : sub "BadText" (.glob "NotThere") = some false := by decide +kernel
theorem sub13 : sub "BadText" (.glob "TooMany") = some false := by decide +kernel
theorem sub14 : sub "BadText" (.glob "NotKept") = some false := by decide +kernel
theorem sub15 : sub "BadText" (.glob "NothingToUndo") = some false := by decide +kernel
theorem sub16 : sub "BadText" (.glob "NothingToRedo") = some false := by decide +kernel
theorem sub17 : sub "BadText" (.ty "ValueError") = some true := by decide +kernel
theorem ev_more (a : Addr) (d : Option Addr) (t l : PV) : Gives (m_l_more_kinds a d "BadText") [.exc a d "BadText" ["token", "line"] [t, l]] (.lst []) := by
  refine gives_of ?_
  simp only [b_l_more_kinds, e_ok, e_err, e_bad, e_okS, e_errS, e_badS, e_nx, e_rt, e_bk, e_ct, e_ex, e_bd, e_bind, e_pure, e_some, e_none, e_op1, e_op2, e_cons, e_test, e_callP, e_if, e_and, e_or, e_not, e_andV, e_orV, e_andT, e_andF, e_orT, e_orF, e_chain, e_chT, e_chF, e_part, e_sl, e_var, e_varF, e_varO, e_look, e_lookF, e_lookO, e_look1, e_argV, e_argS, e_slot, e_slotF, e_slotO, e_call, e_frz, e_lstO, e_listO, e_anyI, e_sThen, e_seq, e_next, e_brk, e_cnt, e_ret, e_drop, e_set, e_setO, e_ifS, e_raise, e_exn, e_for, boolP, partP, List.getElem?_cons_zero, List.getElem?_cons_succ, List.set_cons_zero, List.set_cons_succ, if_true, if_false, Bool.false_eq_true, Bool.not_true, Bool.not_false, e_vrt, e_vnx, e_xer, e_append, e_appS, e_appK, e_aug, e_augS, e_augK, e_pair, e_fr, e_ow, pSz, pLen, pAdd, frzO, sizeLine_eq, List.length_cons, List.length_nil, Nat.reduceAdd, Nat.reduceLeDiff, Nat.reduceLT, Nat.zero_add, Nat.zero_le, Nat.reduceSub, List.nil_append, List.cons_append, List.append_nil, List.map_cons, List.map_nil, List.replicate, isX_same, sub8, sub9, sub10, sub11, sub12, sub13, sub14, sub15, sub16, Option.map_some]
theorem ev_kinds (a : Addr) (d : Option Addr) (t l : PV) : Gives (m_l_kinds a d "BadText") [.exc a d "BadText" ["token", "line"] [t, l]] (.lst [.tup [.str "text", l, t]]) := by
  refine gives_of ?_
  simp only [b_l_kinds, e_ok, e_err, e_bad, e_okS, e_errS, e_badS, e_nx, e_rt, e_bk, e_ct, e_ex, e_bd, e_bind, e_pure, e_some, e_none, e_op1, e_op2, e_cons, e_test, e_callP, e_if, e_and, e_or, e_not, e_andV, e_orV, e_andT, e_andF, e_orT, e_orF, e_chain, e_chT, e_chF, e_part, e_sl, e_var, e_varF, e_varO, e_look, e_lookF, e_lookO, e_look1, e_argV, e_argS, e_slot, e_slotF, e_slotO, e_call, e_frz, e_lstO, e_listO, e_anyI, e_sThen, e_seq, e_next, e_brk, e_cnt, e_ret, e_drop, e_set, e_setO, e_ifS, e_raise, e_exn, e_for, boolP, partP, List.getElem?_cons_zero, List.getElem?_cons_succ, List.set_cons_zero, List.set_cons_succ, if_true, if_false, Bool.false_eq_true, Bool.not_true, Bool.not_false, e_vrt, e_vnx, e_xer, e_append, e_appS, e_appK, e_aug, e_augS, e_augK, e_pair, e_fr, e_ow, pSz, pLen, pAdd, frzO, sizeLine_eq, List.length_cons, List.length_nil, Nat.reduceAdd, Nat.reduceLeDiff, Nat.reduceLT, Nat.zero_add, Nat.zero_le, Nat.reduceSub, List.nil_append, List.cons_append, List.append_nil, List.map_cons, List.map_nil, List.replicate, isX_same, sub1, sub2, sub3, sub4, sub5, sub6, sub7, Option.map_some, fldL, fldT, c1 (ev_more a d t l)]
theorem ev_suite (a : Addr) (d : Option Addr) (t l : PV) : ∃ ρ2, b_l_suite a d "BadText" [.no, .fr .non, .fr (.exc a d "BadText" ["token", "line"] [t, l])] = .nx ρ2 ∧ ρ2[1]? = some (.fr (.tup [.str "text", l, t])) := by
  refine ⟨[.no, .fr (.tup [.str "text", l, t]), .fr (.exc a d "BadText" ["token", "line"] [t, l])], ?_, rfl⟩
  simp only [b_l_suite, e_ok, e_err, e_bad, e_okS, e_errS, e_badS, e_nx, e_rt, e_bk, e_ct, e_ex, e_bd, e_bind, e_pure, e_some, e_none, e_op1, e_op2, e_cons, e_test, e_callP, e_if, e_and, e_or, e_not, e_andV, e_orV, e_andT, e_andF, e_orT, e_orF, e_chain, e_chT, e_chF, e_part, e_sl, e_var, e_varF, e_varO, e_look, e_lookF, e_lookO, e_look1, e_argV, e_argS, e_slot, e_slotF, e_slotO, e_call, e_frz, e_lstO, e_listO, e_anyI, e_sThen, e_seq, e_next, e_brk, e_cnt, e_ret, e_drop, e_set, e_setO, e_ifS, e_raise, e_exn, e_for, boolP, partP, List.getElem?_cons_zero, List.getElem?_cons_succ, List.set_cons_zero, List.set_cons_succ, if_true, if_false, Bool.false_eq_true, Bool.not_true, Bool.not_false, e_vrt, e_vnx, e_xer, e_append, e_appS, e_appK, e_aug, e_augS, e_augK, e_pair, e_fr, e_ow, pSz, pLen, pAdd, frzO, sizeLine_eq, List.length_cons, List.length_nil, Nat.reduceAdd, Nat.reduceLeDiff, Nat.reduceLT, Nat.zero_add, Nat.zero_le, Nat.reduceSub, List.nil_append, List.cons_append, List.append_nil, List.map_cons, List.map_nil, List.replicate, isX_same, sub17, Option.map_some, c1 (ev_kinds a d t l), q_eqI, q_ix0, Int.natCast_one, Int.cast_ofNat_Int, BEq.rfl]
end K75

set_option Elab.async false
set_option linter.all false
set_option maxRecDepth 100000
set_option maxHeartbeats 2000000
namespace K75
open PySem PySem.Spec PyProof.Rows L2 LamX VS
noncomputable section
variable {P : Program} {w : World} {K : Frag} {mg : Str → Option Value} {base : Heap} {T : List (Addr × Str)} {fa : Nat → Addr} {fd : Nat → FuncData}
theorem ok_need_string (Tx : Txt K mg fa fd T base) : FnOk P w K mg base (L2.CX P w) 3 (fa 21) (fd 21) ["text"] (spV K mg T 1 m_need_string) := by
  have sc := sc_need_string
  exact fn_okT (N := N_need_string) (k := 2) (I := (fun _ => false)) (mb := b_need_string) Tx.F_need_string sc fun cdv A outer s H E hr tr tk po => by
    exact (vss_cons (vs_if (vt_not (vt_val (ve_callB (c_isi) (by rfl) Tx.z_isinstance bt_isinstance (va_cons (ve_var (pv 0)) (va_cons (ve_ty (by rfl) Tx.z_str bt_str) va_nil))))) (vss_cons (vs_raise (by rfl) tr (vx_exn (Tx.oex_BadText) Tx.iC_BadText Tx.tI_BadText (ini_BadText Tx) (hr.mono (by decide)) Tx.bI_BadText (by rfl) Tx.mC_BadText (va_cons ve_int (va_cons ve_int va_nil)) (by decide))) vss_nil) vss_nil) vss_nil)
theorem ok_run_of (Tx : Txt K mg fa fd T base) : FnOk P w K mg base (L2.CX P w) 1 (fa 22) (fd 22) ["text", "at", "some"] (spV K mg T 3 m_run_of) := by
  have sc := sc_run_of
  exact fn_okT (N := N_run_of) (k := 0) (I := (fun _ => false)) (mb := b_run_of) Tx.F_run_of sc fun cdv A outer s H E hr tr tk po => by
    exact (vss_cons (vs_while po (VW.vt (vw_and (vt_cmp o_lt (ve_var (pv 1)) (ve_callB (c_len) (by rfl) Tx.z_len bt_len (va_cons (ve_var (pv 0)) va_nil)) (by rfl)) (vw_and1 (vt_cmp o_in (ve_ix o_ix (ve_var (pv 0)) (ve_var (pv 1)) (fun _ _ => rfl)) (ve_var (pv 2)) (by rfl))))) (vss_cons (vs_aug sc.nd (by rfl) (.inl (by rfl)) ve_int ip_add (by rfl)) vss_nil)) (vss_cons (vs_ret (ve_var (pv 1))) vss_nil))
theorem ok_tokens_of (Tx : Txt K mg fa fd T base) : FnOk P w K mg base (L2.CX P w) 2 (fa 23) (fd 23) ["text"] (spV K mg T 1 m_tokens_of) := by
  have sc := sc_tokens_of
  exact fn_okT (N := N_tokens_of) (k := 1) (I := (fun _ => false)) (mb := b_tokens_of) Tx.F_tokens_of sc fun cdv A outer s H E hr tr tk po => by
    have hu := units_of hr
    exact (vss_cons (vs_pair (by rfl) sc.nd (by rfl) (by rfl) (by decide) (by rfl) (by rfl) (vsl_ow (vo_lst va_nil)) (vsl_fr ve_int) (by rfl) (by rfl) (by rfl)) (vss_cons (vs_while po (vt_cmp o_lt (ve_var (pv 2)) (ve_callB (c_len) (by rfl) Tx.z_len bt_len (va_cons (ve_var (pv 0)) va_nil)) (by rfl)) (vss_cons (vs_if (vt_cmp (o_eq hu) (ve_ix o_ix (ve_var (pv 0)) (ve_var (pv 2)) (fun _ _ => rfl)) ve_str (by rfl)) (vss_cons (vs_aug sc.nd (by rfl) (.inl (by rfl)) ve_int ip_add (by rfl)) vss_nil) (vss_cons (vs_set sc.nd (by rfl) (.inl (by rfl)) (ve_callB (c_max3 (by rfl)) (by rfl) Tx.z_max bt_max (va_cons (ve_op o_add (ve_var (pv 2)) ve_int) (va_cons (ve_call (ok_run_of Tx) (hr.mono (by decide)) (by rfl) Tx.m_run_of Tx.F_run_of.kp Tx.b_run_of (tk.pass) (vas_val (ve_var (pv 0)) (vas_val (ve_var (pv 2)) (vas_val (ve_gl (by rfl) Tx.g_SMALL) vas_nil)))) (va_cons (ve_call (ok_run_of Tx) (hr.mono (by decide)) (by rfl) Tx.m_run_of Tx.F_run_of.kp Tx.b_run_of (tk.pass) (vas_val (ve_var (pv 0)) (vas_val (ve_var (pv 2)) (vas_val (ve_gl (by rfl) Tx.g_FIGURES) vas_nil)))) va_nil)))) (by rfl)) (vss_cons (vs_append (pv 1) (ve_slice o_sl (ve_var (pv 0)) (vp_some (ve_var (pv 2))) (vp_some (ve_var (pv 3))))) (vss_cons (vs_set sc.nd (by rfl) (.inl (by rfl)) (ve_var (pv 3)) (by rfl)) vss_nil)))) vss_nil)) (vss_cons (vs_ret (ve_var (pv 1))) vss_nil)))
theorem ok_need_end (Tx : Txt K mg fa fd T base) : FnOk P w K mg base (L2.CX P w) 3 (fa 24) (fd 24) ["tokens", "at", "line"] (spV K mg T 3 m_need_end) := by
  have sc := sc_need_end
  exact fn_okT (N := N_need_end) (k := 2) (I := (fun _ => false)) (mb := b_need_end) Tx.F_need_end sc fun cdv A outer s H E hr tr tk po => by
    exact (vss_cons (vs_if (vt_cmp o_lt (ve_var (pv 1)) (ve_callB (c_len) (by rfl) Tx.z_len bt_len (va_cons (ve_var (pv 0)) va_nil)) (by rfl)) (vss_cons (vs_raise (by rfl) tr (vx_exn (Tx.oex_BadText) Tx.iC_BadText Tx.tI_BadText (ini_BadText Tx) (hr.mono (by decide)) Tx.bI_BadText (by rfl) Tx.mC_BadText (va_cons (ve_var (pv 2)) (va_cons (ve_op o_add (ve_var (pv 1)) ve_int) va_nil)) (by decide))) vss_nil) vss_nil) vss_nil)
theorem ok_is_numeral (Tx : Txt K mg fa fd T base) : FnOk P w K mg base (L2.CX P w) 1 (fa 25) (fd 25) ["token", "most"] (spV K mg T 2 m_is_numeral) := by
  have sc := sc_is_numeral
  exact fn_okT (N := N_is_numeral) (k := 0) (I := (fun _ => false)) (mb := b_is_numeral) Tx.F_is_numeral sc fun cdv A outer s H E hr tr tk po => by
    have hu := units_of hr
    exact (vss_cons (vs_if (VW.vt (vw_or (vt_cmp (o_eq hu) (ve_var (pv 0)) ve_str (by rfl)) (vw_or (vt_cmp o_gt (ve_callB (c_len) (by rfl) Tx.z_len bt_len (va_cons (ve_var (pv 0)) va_nil)) (ve_var (pv 1)) (by rfl)) (vw_or1 (vt_not (vt_val (ve_callB (c_all (by rfl)) (by rfl) Tx.z_all bt_all (va_cons (ve_O (vo_comp (by rfl) sc.nd tk (vl_mk (own := [("sign", 2)]) (vi_any (ve_var (pv 0))) (blkOk_by (by rfl)) (fun _ _ _ _ _ => (vg_name sc.nd (by rfl) (.inl (by rfl)) (by rfl))) (fun _ _ _ _ _ => vts_nil) (fun _ _ _ _ _ _ _ tk => (ve_cmp o_in (ve_var (pv 2)) (ve_gl (by rfl) Tx.g_FIGURES) (by rfl)))))) va_nil)))))))) (vss_cons (vs_ret ve_bl) vss_nil) vss_nil) (vss_cons (vs_ret (ve_or (ve_cmp (o_eq hu) (ve_var (pv 0)) ve_str (by rfl)) (ve_one (ve_cmp (o_ne hu) (ve_ix o_ix (ve_var (pv 0)) ve_int (fun _ _ => rfl)) ve_str (by rfl))))) vss_nil))
theorem ok_read_numeral (Tx : Txt K mg fa fd T base) : FnOk P w K mg base (L2.CX P w) 3 (fa 32) (fd 32) ["tokens", "at", "line", "low", "high"] (spV K mg T 5 m_read_numeral) := by
  have sc := sc_read_numeral
  exact fn_okT (N := N_read_numeral) (k := 2) (I := (fun _ => false)) (mb := b_read_numeral) Tx.F_read_numeral sc fun cdv A outer s H E hr tr tk po => by
    exact (vss_cons (vs_if (VW.vt (vw_or (vt_cmp o_ge (ve_var (pv 1)) (ve_callB (c_len) (by rfl) Tx.z_len bt_len (va_cons (ve_var (pv 0)) va_nil)) (by rfl)) (vw_or (vt_not (vt_val (ve_call (ok_is_numeral Tx) (hr.mono (by decide)) (by rfl) Tx.m_is_numeral Tx.F_is_numeral.kp Tx.b_is_numeral (tk.pass) (vas_val (ve_ix o_ix (ve_var (pv 0)) (ve_var (pv 1)) (fun _ _ => rfl)) (vas_val (ve_gl (by rfl) Tx.g_MOST_FIGURES) vas_nil))))) (vw_or1 (vt_not (vt_chain o_le o_le (ve_var (pv 3)) (ve_callTy c_int (by rfl) Tx.z_int bt_int (va_cons (ve_ix o_ix (ve_var (pv 0)) (ve_var (pv 1)) (fun _ _ => rfl)) va_nil)) (ve_var (pv 4)))))))) (vss_cons (vs_raise (by rfl) tr (vx_exn (Tx.oex_BadText) Tx.iC_BadText Tx.tI_BadText (ini_BadText Tx) (hr.mono (by decide)) Tx.bI_BadText (by rfl) Tx.mC_BadText (va_cons (ve_var (pv 2)) (va_cons (ve_op o_add (ve_var (pv 1)) ve_int) va_nil)) (by decide))) vss_nil) vss_nil) (vss_cons (vs_ret (ve_callTy c_int (by rfl) Tx.z_int bt_int (va_cons (ve_ix o_ix (ve_var (pv 0)) (ve_var (pv 1)) (fun _ _ => rfl)) va_nil))) vss_nil))
theorem ok_is_letters (Tx : Txt K mg fa fd T base) : FnOk P w K mg base (L2.CX P w) 1 (fa 33) (fd 33) ["token", "letters", "most"] (spV K mg T 3 m_is_letters) := by
  have sc := sc_is_letters
  exact fn_okT (N := N_is_letters) (k := 0) (I := (fun _ => false)) (mb := b_is_letters) Tx.F_is_letters sc fun cdv A outer s H E hr tr tk po => by
    have hu := units_of hr
    exact (vss_cons (vs_if (VW.vt (vw_or (vt_cmp (o_eq hu) (ve_var (pv 0)) ve_str (by rfl)) (vw_or (vt_cmp o_gt (ve_callB (c_len) (by rfl) Tx.z_len bt_len (va_cons (ve_var (pv 0)) va_nil)) (ve_var (pv 2)) (by rfl)) (vw_or1 (vt_not (vt_val (ve_callB (c_all (by rfl)) (by rfl) Tx.z_all bt_all (va_cons (ve_O (vo_comp (by rfl) sc.nd tk (vl_mk (own := [("sign", 3)]) (vi_any (ve_var (pv 0))) (blkOk_by (by rfl)) (fun _ _ _ _ _ => (vg_name sc.nd (by rfl) (.inl (by rfl)) (by rfl))) (fun _ _ _ _ _ => vts_nil) (fun _ _ _ _ _ _ _ tk => (ve_cmp o_in (ve_var (pv 3)) (ve_gl (by rfl) Tx.g_FIGURES) (by rfl)))))) va_nil)))))))) (vss_cons (vs_ret ve_bl) vss_nil) vss_nil) (vss_cons (vs_ret (ve_callB (c_all (by rfl)) (by rfl) Tx.z_all bt_all (va_cons (ve_O (vo_comp (by rfl) sc.nd tk (vl_mk (own := [("sign", 3)]) (vi_any (ve_var (pv 0))) (blkOk_by (by rfl)) (fun _ _ _ _ _ => (vg_name sc.nd (by rfl) (.inl (by rfl)) (by rfl))) (fun _ _ _ _ _ => vts_nil) (fun _ _ _ _ _ _ _ tk => (ve_cmp o_lt (ve_callTy c_int (by rfl) Tx.z_int bt_int (va_cons (ve_var (pv 3)) va_nil)) (ve_var (pv 1)) (by rfl)))))) va_nil))) vss_nil))
theorem ok_word_in (Tx : Txt K mg fa fd T base) : FnOk P w K mg base (L2.CX P w) 1 (fa 34) (fd 34) ["token"] (spV K mg T 1 m_word_in) := by
  have sc := sc_word_in
  exact fn_okT (N := N_word_in) (k := 0) (I := (fun _ => false)) (mb := b_word_in) Tx.F_word_in sc fun cdv A outer s H E hr tr tk po => by
    exact (vss_cons (vs_ret (ve_callTy c_tup (by rfl) Tx.z_tuple bt_tuple (va_cons (ve_O (vo_comp (by rfl) sc.nd tk (vl_mk (own := [("sign", 1)]) (vi_any (ve_var (pv 0))) (blkOk_by (by rfl)) (fun _ _ _ _ _ => (vg_name sc.nd (by rfl) (.inl (by rfl)) (by rfl))) (fun _ _ _ _ _ => vts_nil) (fun _ _ _ _ _ _ _ tk => (ve_callTy c_int (by rfl) Tx.z_int bt_int (va_cons (ve_var (pv 1)) va_nil)))))) va_nil))) vss_nil)
theorem ok_read_word (Tx : Txt K mg fa fd T base) : FnOk P w K mg base (L2.CX P w) 3 (fa 35) (fd 35) ["tokens", "at", "line"] (spV K mg T 3 m_read_word) := by
  have sc := sc_read_word
  exact fn_okT (N := N_read_word) (k := 2) (I := (fun _ => false)) (mb := b_read_word) Tx.F_read_word sc fun cdv A outer s H E hr tr tk po => by
    have hu := units_of hr
    exact (vss_cons (vs_set sc.nd (by rfl) (.inl (by rfl)) (ve_if (vt_cmp o_lt (ve_var (pv 1)) (ve_callB (c_len) (by rfl) Tx.z_len bt_len (va_cons (ve_var (pv 0)) va_nil)) (by rfl)) (ve_ix o_ix (ve_var (pv 0)) (ve_var (pv 1)) (fun _ _ => rfl)) ve_str) (by rfl)) (vss_cons (vs_if (vt_cmp (o_eq hu) (ve_var (pv 3)) ve_str (by rfl)) (vss_cons (vs_ret (ve_tup va_nil)) vss_nil) vss_nil) (vss_cons (vs_if (vt_not (vt_val (ve_call (ok_is_letters Tx) (hr.mono (by decide)) (by rfl) Tx.m_is_letters Tx.F_is_letters.kp Tx.b_is_letters (tk.pass) (vas_val (ve_var (pv 3)) (vas_val ve_int (vas_val (ve_gl (by rfl) Tx.g_MOST_LONG) vas_nil)))))) (vss_cons (vs_raise (by rfl) tr (vx_exn (Tx.oex_BadText) Tx.iC_BadText Tx.tI_BadText (ini_BadText Tx) (hr.mono (by decide)) Tx.bI_BadText (by rfl) Tx.mC_BadText (va_cons (ve_var (pv 2)) (va_cons (ve_op o_add (ve_var (pv 1)) ve_int) va_nil)) (by decide))) vss_nil) vss_nil) (vss_cons (vs_ret (ve_call (ok_word_in Tx) (hr.mono (by decide)) (by rfl) Tx.m_word_in Tx.F_word_in.kp Tx.b_word_in (tk.pass) (vas_val (ve_var (pv 3)) vas_nil))) vss_nil))))
theorem ok_rest_behind (Tx : Txt K mg fa fd T base) : FnOk P w K mg base (L2.CX P w) 1 (fa 36) (fd 36) ["text", "head"] (spV K mg T 2 m_rest_behind) := by
  have sc := sc_rest_behind
  exact fn_okT (N := N_rest_behind) (k := 0) (I := (fun _ => false)) (mb := b_rest_behind) Tx.F_rest_behind sc fun cdv A outer s H E hr tr tk po => by
    exact (vss_cons (vs_ret (ve_m1 PySem.F.slot_str_lstrip PySem.F.type_str_lstrip m_lstrip (ve_slice o_sl (ve_m1 PySem.F.slot_str_lstrip PySem.F.type_str_lstrip m_lstrip (ve_var (pv 0)) ve_str) (vp_some (ve_callB (c_len) (by rfl) Tx.z_len bt_len (va_cons (ve_var (pv 1)) va_nil))) vp_none) ve_str)) vss_nil)
theorem ok_read_inner (Tx : Txt K mg fa fd T base) : FnOk P w K mg base (L2.CX P w) 3 (fa 37) (fd 37) ["text", "head", "line"] (spV K mg T 3 m_read_inner) := by
  have sc := sc_read_inner
  exact fn_okT (N := N_read_inner) (k := 2) (I := (fun _ => false)) (mb := b_read_inner) Tx.F_read_inner sc fun cdv A outer s H E hr tr tk po => by
    have hu := units_of hr
    exact (vss_cons (vs_set sc.nd (by rfl) (.inl (by rfl)) (ve_call (ok_rest_behind Tx) (hr.mono (by decide)) (by rfl) Tx.m_rest_behind Tx.F_rest_behind.kp Tx.b_rest_behind (tk.pass) (vas_val (ve_var (pv 0)) (vas_val (ve_var (pv 1)) vas_nil))) (by rfl)) (vss_if1 (o_eq hu) (ve_m1 PySem.F.slot_str_strip PySem.F.type_str_strip m_strip (ve_var (pv 3)) ve_str) ve1_str (by rfl) (vsst_of (vss_cons (vs_raise (by rfl) tr (vx_exn (Tx.oex_BadText) Tx.iC_BadText Tx.tI_BadText (ini_BadText Tx) (hr.mono (by decide)) Tx.bI_BadText (by rfl) Tx.mC_BadText (va_cons (ve_var (pv 2)) (va_cons ve_int va_nil)) (by decide))) vss_nil)) (vsst_ret (vet_repl (ve_var (pv 3))))))
theorem ok_question_in (Tx : Txt K mg fa fd T base) : FnOk P w K mg base (L2.CX P w) 4 (fa 38) (fd 38) ["text", "line"] (spV K mg T 2 m_question_in) := by
  have sc := sc_question_in
  exact fn_okT (N := N_question_in) (k := 3) (I := (fun _ => false)) (mb := b_question_in) Tx.F_question_in sc fun cdv A outer s H E hr tr tk po => by
    have hu := units_of hr
    exact (vss_cons (vs_set sc.nd (by rfl) (.inr (by rfl)) (ve_call (ok_tokens_of Tx) (hr.mono (by decide)) (by rfl) Tx.m_tokens_of Tx.F_tokens_of.kp Tx.b_tokens_of (tk.pass) (vas_val (ve_var (pv 0)) vas_nil)) (by rfl)) (vss_cons (vs_set sc.nd (by rfl) (.inl (by rfl)) (ve_if (vt_cmp (o_ne hu) (ve_var (pv 2)) (ve_lst va_nil) (by rfl)) (ve_ix o_ix (ve_var (pv 2)) ve_int (fun _ _ => rfl)) ve_str) (by rfl)) (vss_cons (vs_if (vt_cmp o_in (ve_var (pv 3)) (ve_tup (va_cons ve_str (va_cons ve_str va_nil))) (by rfl)) (vss_cons (vs_ret (ve_tup (va_cons (ve_var (pv 3)) (va_cons (ve_call (ok_read_inner Tx) (hr.mono (by decide)) (by rfl) Tx.m_read_inner Tx.F_read_inner.kp Tx.b_read_inner (tk.pass) (vas_val (ve_var (pv 0)) (vas_val (ve_var (pv 3)) (vas_val (ve_var (pv 1)) vas_nil)))) va_nil)))) vss_nil) vss_nil) (vss_cons (vs_if (vt_cmp o_in (ve_var (pv 3)) (ve_gl (by rfl) Tx.g_BARE) (by rfl)) (vss_cons (vs_set sc.nd (by rfl) (.inl (by rfl)) (ve_tup (va_cons (ve_var (pv 3)) va_nil)) (by rfl)) vss_nil) (vss_cons (vs_if (vt_cmp (o_eq hu) (ve_var (pv 3)) ve_str (by rfl)) (vss_cons (vs_set sc.nd (by rfl) (.inl (by rfl)) (ve_tup (va_cons (ve_var (pv 3)) (va_cons (ve_call (ok_read_word Tx) (hr.mono (by decide)) (by rfl) Tx.m_read_word Tx.F_read_word.kp Tx.b_read_word (tk.pass) (vas_val (ve_var (pv 2)) (vas_val ve_int (vas_val (ve_var (pv 1)) vas_nil)))) va_nil))) (by rfl)) vss_nil) (vss_cons (vs_if (vt_cmp o_in (ve_var (pv 3)) (ve_gl (by rfl) Tx.g_NUMBERED) (by rfl)) (vss_cons (vs_set sc.nd (by rfl) (.inl (by rfl)) (ve_if (vt_cmp (o_eq hu) (ve_var (pv 3)) ve_str (by rfl)) ve_int ve_int) (by rfl)) (vss_cons (vs_set sc.nd (by rfl) (.inl (by rfl)) (ve_op o_add (ve_tup (va_cons (ve_var (pv 3)) va_nil)) (ve_callTy c_tup (by rfl) Tx.z_tuple bt_tuple (va_cons (ve_O (vo_comp (by rfl) sc.nd tk (vl_mk (own := [("at", 6)]) (vi_range2 (by rfl) Tx.z_range ve_int (ve_var (pv 5))) (blkOk_by (by rfl)) (fun _ _ _ _ _ => (vg_name sc.nd (by rfl) (.inl (by rfl)) (by rfl))) (fun _ _ _ _ _ => vts_nil) (fun _ _ _ _ _ _ _ tk => (ve_call (ok_read_numeral Tx) (hr.mono (by decide)) (by rfl) Tx.m_read_numeral Tx.F_read_numeral.kp Tx.b_read_numeral (tk.pass) (vas_val (ve_var (pv 2)) (vas_val (ve_var (pv 6)) (vas_val (ve_var (pv 1)) (vas_val ve_int (vas_val (ve_gl (by rfl) Tx.g_MOST_SHOWN) vas_nil)))))))))) va_nil))) (by rfl)) vss_nil)) (vss_cons (vs_raise (by rfl) tr (vx_exn (Tx.oex_BadText) Tx.iC_BadText Tx.tI_BadText (ini_BadText Tx) (hr.mono (by decide)) Tx.bI_BadText (by rfl) Tx.mC_BadText (va_cons (ve_var (pv 1)) (va_cons ve_int va_nil)) (by decide))) vss_nil)) vss_nil)) vss_nil)) (vss_cons (vs_expr (ve_call (ok_need_end Tx) (hr.mono (by decide)) (by rfl) Tx.m_need_end Tx.F_need_end.kp Tx.b_need_end (tk.pass) (vas_val (ve_var (pv 2)) (vas_val (ve_callB (c_len) (by rfl) Tx.z_len bt_len (va_cons (ve_var (pv 4)) va_nil)) (vas_val (ve_var (pv 1)) vas_nil))))) (vss_cons (vs_ret (ve_var (pv 4))) vss_nil))))))
theorem ok_question_of_text (Tx : Txt K mg fa fd T base) : FnOk P w K mg base (L2.CX P w) 5 (fa 39) (fd 39) ["text"] (spV K mg T 1 m_question_of_text) := by
  have sc := sc_question_of_text
  exact fn_okT (N := N_question_of_text) (k := 4) (I := (fun _ => false)) (mb := b_question_of_text) Tx.F_question_of_text sc fun cdv A outer s H E hr tr tk po => by
    exact (vss_cons (vs_expr (ve_call (ok_need_string Tx) (hr.mono (by decide)) (by rfl) Tx.m_need_string Tx.F_need_string.kp Tx.b_need_string (tk.pass) (vas_val (ve_var (pv 0)) vas_nil))) (vss_cons (vs_ret (ve_call (ok_question_in Tx) (hr.mono (by decide)) (by rfl) Tx.m_question_in Tx.F_question_in.kp Tx.b_question_in (tk.pass) (vas_val (ve_var (pv 0)) (vas_val ve_int vas_nil)))) vss_nil))
theorem ok_l_pen (Tx : Txt K mg fa fd T base) : FnOk P w K mg base (L2.CX P w) 1 (fa 41) (fd 41) ["script"] (spO K mg T 1 m_l_pen) := by
  have sc := sc_l_pen
  exact fn_okOT (N := N_l_pen) (k := 0) (I := (fun _ => false)) (mb := b_l_pen) Tx.F_l_pen sc fun cdv A outer s H E hr tr tk po => by
    exact (vb_cons (vs_set sc.nd (by rfl) (.inl (by rfl)) ve_int (by rfl)) (vb_cons (vs_for po (by rfl) (vi_any (ve_var (pv 0))) (vg_name sc.nd (by rfl) (.inl (by rfl)) (by rfl)) (vss_cons (vs_set sc.nd (by rfl) (.inl (by rfl)) (ve_op o_mod (ve_callTy c_int (by rfl) Tx.z_int bt_int (va_cons (ve_op o_add (ve_op o_mul (ve_var (pv 1)) ve_int) (ve_var (pv 2))) va_nil)) ve_int) (by rfl)) vss_nil)) (vb_ret (vo_disp (vps_cons (ve_O (vo_list (by rfl) Tx.z_list bt_list (ve_var (pv 0)))) (vps_cons ve_int (vps_cons ve_int (vps_cons ve_int (vps_cons (ve_var (pv 1)) vps_nil))))) (by decide +kernel) (by decide)))))
theorem ok_l_draw (Tx : Txt K mg fa fd T base) : FnOk P w K mg base (L2.CX P w) 1 (fa 42) (fd 42) ["pen", "many"] (spV K mg T 2 m_l_draw) := by
  have sc := sc_l_draw
  exact fn_okT (N := N_l_draw) (k := 0) (I := (fun i => i == 0)) (mb := b_l_draw) Tx.F_l_draw sc fun cdv A outer s H E hr tr tk po => by
    have hu1 := units1 hr
    have hu := units_of hr
    exact (vss_cons (vs_dput hu1 (pv 0) ve_str (ve_op o_add (ve_dgetO hu1 (pv 0) ve_str (fun _ _ => rfl)) ve_int)) (vss_cons (vs_if (VW.vt (vw_and (vt_cmp (o_eq hu) (ve_dgetO hu1 (pv 0) ve_str (fun _ _ => rfl)) ve_int (by rfl)) (vw_and1 (vt_cmp o_lt (ve_dgetO hu1 (pv 0) ve_str (fun _ _ => rfl)) (ve_callB (c_len) (by rfl) Tx.z_len bt_len (va_cons (ve_dgetO hu1 (pv 0) ve_str (fun _ _ => rfl)) va_nil)) (by rfl))))) (vss_cons (vs_set sc.nd (by rfl) (.inl (by rfl)) (ve_ix o_ix (ve_dgetO hu1 (pv 0) ve_str (fun _ _ => rfl)) (ve_dgetO hu1 (pv 0) ve_str (fun _ _ => rfl)) (fun _ _ => rfl)) (by rfl)) (vss_cons (vs_dput hu1 (pv 0) ve_str (ve_op o_add (ve_dgetO hu1 (pv 0) ve_str (fun _ _ => rfl)) ve_int)) (vss_cons (vs_if (vt_cmp o_ge (ve_var (pv 2)) (ve_op o_pow ve_int ve_int) (by rfl)) (vss_cons (vs_dput hu1 (pv 0) ve_str (ve_op o_sub (ve_var (pv 2)) (ve_op o_pow ve_int ve_int))) vss_nil) (vss_cons (vs_dput hu1 (pv 0) ve_str (ve_op o_mod (ve_callTy c_int (by rfl) Tx.z_int bt_int (va_cons (ve_op o_add (ve_op o_mul (ve_dgetO hu1 (pv 0) ve_str (fun _ _ => rfl)) ve_int) (ve_var (pv 2))) va_nil)) ve_int)) vss_nil)) vss_nil))) vss_nil) (vss_cons (vs_if (vt_cmp o_gt (ve_dgetO hu1 (pv 0) ve_str (fun _ _ => rfl)) ve_int (by rfl)) (vss_cons (vs_set sc.nd (by rfl) (.inl (by rfl)) (ve_op o_mod (ve_callTy c_int (by rfl) Tx.z_int bt_int (va_cons (ve_dgetO hu1 (pv 0) ve_str (fun _ _ => rfl)) va_nil)) (ve_var (pv 1))) (by rfl)) (vss_cons (vs_dput hu1 (pv 0) ve_str (ve_op o_div (ve_dgetO hu1 (pv 0) ve_str (fun _ _ => rfl)) (ve_var (pv 1)))) (vss_cons (vs_ret (ve_var (pv 3))) vss_nil))) vss_nil) (vss_cons (vs_set sc.nd (by rfl) (.inl (by rfl)) (ve_op o_mod (ve_callTy c_int (by rfl) Tx.z_int bt_int (va_cons (ve_op o_add (ve_op o_add (ve_op o_mul (ve_dgetO hu1 (pv 0) ve_str (fun _ _ => rfl)) ve_int) (ve_op o_mul (ve_dgetO hu1 (pv 0) ve_str (fun _ _ => rfl)) ve_int)) ve_int) va_nil)) ve_int) (by rfl)) (vss_cons (vs_set sc.nd (by rfl) (.inl (by rfl)) (ve_op o_mod (ve_callTy c_int (by rfl) Tx.z_int bt_int (va_cons (ve_op o_add (ve_op o_add (ve_op o_mul (ve_var (pv 4)) (ve_var (pv 4))) (ve_op o_mul ve_int (ve_var (pv 4)))) (ve_dgetO hu1 (pv 0) ve_str (fun _ _ => rfl))) va_nil)) ve_int) (by rfl)) (vss_cons (vs_dput hu1 (pv 0) ve_str (ve_op o_mod (ve_callTy c_int (by rfl) Tx.z_int bt_int (va_cons (ve_op o_add (ve_op o_mul (ve_var (pv 4)) ve_int) ve_int) va_nil)) ve_int)) (vss_cons (vs_ret (ve_op o_mod (ve_callTy c_int (by rfl) Tx.z_int bt_int (va_cons (ve_op o_div (ve_var (pv 4)) ve_int) va_nil)) (ve_var (pv 1)))) vss_nil)))))))
theorem ok_l_pick (Tx : Txt K mg fa fd T base) : FnOk P w K mg base (L2.CX P w) 2 (fa 43) (fd 43) ["pen", "some"] (spV K mg T 2 m_l_pick) := by
  have sc := sc_l_pick
  exact fn_okT (N := N_l_pick) (k := 1) (I := (fun i => i == 0)) (mb := b_l_pick) Tx.F_l_pick sc fun cdv A outer s H E hr tr tk po => by
    exact (vss_cons (vs_ret (ve_ix o_ix (ve_var (pv 1)) (ve_call (ok_l_draw Tx) (hr.mono (by decide)) (by rfl) Tx.m_l_draw Tx.F_l_draw.kp Tx.b_l_draw (tk.pass) (vas_slot (pv 0) (vas_val (ve_callB (c_len) (by rfl) Tx.z_len bt_len (va_cons (ve_var (pv 1)) va_nil)) vas_nil))) (fun _ _ => rfl))) vss_nil)
theorem ok_l_is (Tx : Txt K mg fa fd T base) : ∀ j, FnOk P w K mg base (L2.CX P w) (0 + j) (fa 44) (fd 44) ["told", "due"] (spV K mg T 2 (m_l_is j))
  | 0 => fn_bad rfl
  | j + 1 => by
    have sc := sc_l_is
    have IH := ok_l_is Tx j
    exact fn_okT (N := N_l_is) (k := 0 + j) (I := (fun _ => false)) (mb := b_l_is (m_l_is j)) Tx.F_l_is sc fun cdv A outer s H E hr tr tk po => by
      have hu := units_of hr
      exact (vss_cons (vs_if (vt_val (ve_callB (c_isi) (by rfl) Tx.z_isinstance bt_isinstance (va_cons (ve_var (pv 1)) (va_cons (ve_ty (by rfl) Tx.z_tuple bt_tuple) va_nil)))) (vss_cons (vs_if (VW.vt (vw_or (vt_not (vt_val (ve_callB (c_isi) (by rfl) Tx.z_isinstance bt_isinstance (va_cons (ve_var (pv 0)) (va_cons (ve_ty (by rfl) Tx.z_tuple bt_tuple) va_nil))))) (vw_or1 (vt_cmp (o_ne hu) (ve_callB (c_len) (by rfl) Tx.z_len bt_len (va_cons (ve_var (pv 0)) va_nil)) (ve_callB (c_len) (by rfl) Tx.z_len bt_len (va_cons (ve_var (pv 1)) va_nil)) (by rfl))))) (vss_cons (vs_ret ve_bl) vss_nil) vss_nil) (vss_cons (vs_ret (ve_cmp (o_eq hu) (ve_O (vo_comp (by rfl) sc.nd tk (vl_mk (own := [("at", 2)]) (vi_range1 (by rfl) Tx.z_range (ve_callB (c_len) (by rfl) Tx.z_len bt_len (va_cons (ve_var (pv 1)) va_nil))) (blkOk_by (by rfl)) (fun _ _ _ _ _ => (vg_name sc.nd (by rfl) (.inl (by rfl)) (by rfl))) (fun _ _ _ _ _ => (vts_one (vt_not (vt_val (ve_call IH hr (by rfl) Tx.m_l_is Tx.F_l_is.kp Tx.b_l_is (pass0x) (vas_val (ve_ix o_ix (ve_var (pv 0)) (ve_var (pv 2)) (fun _ _ => rfl)) (vas_val (ve_ix o_ix (ve_var (pv 1)) (ve_var (pv 2)) (fun _ _ => rfl)) vas_nil))))))) (fun _ _ _ _ _ _ _ tk => (ve_var (pv 2)))))) (ve_lst va_nil) (by rfl))) vss_nil)) vss_nil) (vss_cons (vs_if (vt_cmp o_is (ve_var (pv 1)) ve_non (by rfl)) (vss_cons (vs_ret (ve_cmp o_is (ve_var (pv 0)) ve_non (by rfl))) vss_nil) vss_nil) (vss_cons (vs_if (vt_cmp o_is (ve_var (pv 1)) ve_bl (by rfl)) (vss_cons (vs_ret (ve_cmp o_is (ve_var (pv 0)) ve_bl (by rfl))) vss_nil) vss_nil) (vss_cons (vs_if (vt_cmp o_is (ve_var (pv 1)) ve_bl (by rfl)) (vss_cons (vs_ret (ve_cmp o_is (ve_var (pv 0)) ve_bl (by rfl))) vss_nil) vss_nil) (vss_cons (vs_if (vt_val (ve_callB (c_isi) (by rfl) Tx.z_isinstance bt_isinstance (va_cons (ve_var (pv 1)) (va_cons (ve_ty (by rfl) Tx.z_str bt_str) va_nil)))) (vss_cons (vs_ret (ve_and (ve_callB (c_isi) (by rfl) Tx.z_isinstance bt_isinstance (va_cons (ve_var (pv 0)) (va_cons (ve_ty (by rfl) Tx.z_str bt_str) va_nil))) (ve_one (ve_cmp (o_eq hu) (ve_var (pv 0)) (ve_var (pv 1)) (by rfl))))) vss_nil) vss_nil) (vss_cons (vs_ret (ve_and (ve_callB (c_isi) (by rfl) Tx.z_isinstance bt_isinstance (va_cons (ve_var (pv 0)) (va_cons (ve_ty (by rfl) Tx.z_int bt_int) va_nil))) (ve_and (ve_not (ve_callB (c_isi) (by rfl) Tx.z_isinstance bt_isinstance (va_cons (ve_var (pv 0)) (va_cons (ve_ty (by rfl) Tx.z_bool bt_bool) va_nil)))) (ve_one (ve_cmp (o_eq hu) (ve_var (pv 0)) (ve_var (pv 1)) (by rfl)))))) vss_nil))))))
theorem ok_l_more_kinds (Tx : Txt K mg fa fd T base) : FnE P w K mg base (L2.CX P w) 1 (fa 47) (fd 47) ["e"] (spE K mg T 1 m_l_more_kinds) := by
  have sc := sc_l_more_kinds
  exact fn_okET (N := N_l_more_kinds) (k := 0) (I := (fun _ => false)) (mb := b_l_more_kinds) Tx.F_l_more_kinds sc fun cdv A outer s H E p xd xC hr hE tk => by
    exact (vss_cons (vs_setO sc.nd (by rfl) (.inl (by rfl)) (vo_lst va_nil) (by rfl)) (vss_cons (vs_if (vt_val (ve_callB (c_isX hE (sub_ok Tx _)) (by rfl) Tx.z_isinstance bt_isinstance (va_cons (ve_var (pv 0)) (va_cons (ve_fn (by rfl) Tx.mC_NoPlace) va_nil)))) (vss_cons (vs_append (pv 1) ve_bad) vss_nil) vss_nil) (vss_cons (vs_if (vt_val (ve_callB (c_isX hE (sub_ok Tx _)) (by rfl) Tx.z_isinstance bt_isinstance (va_cons (ve_var (pv 0)) (va_cons (ve_fn (by rfl) Tx.mC_NoName) va_nil)))) (vss_cons (vs_append (pv 1) ve_bad) vss_nil) vss_nil) (vss_cons (vs_if (vt_val (ve_callB (c_isX hE (sub_ok Tx _)) (by rfl) Tx.z_isinstance bt_isinstance (va_cons (ve_var (pv 0)) (va_cons (ve_fn (by rfl) Tx.mC_TakenName) va_nil)))) (vss_cons (vs_append (pv 1) ve_bad) vss_nil) vss_nil) (vss_cons (vs_if (vt_val (ve_callB (c_isX hE (sub_ok Tx _)) (by rfl) Tx.z_isinstance bt_isinstance (va_cons (ve_var (pv 0)) (va_cons (ve_fn (by rfl) Tx.mC_Unlike) va_nil)))) (vss_cons (vs_append (pv 1) ve_bad) vss_nil) vss_nil) (vss_cons (vs_if (vt_val (ve_callB (c_isX hE (sub_ok Tx _)) (by rfl) Tx.z_isinstance bt_isinstance (va_cons (ve_var (pv 0)) (va_cons (ve_fn (by rfl) Tx.mC_NotThere) va_nil)))) (vss_cons (vs_append (pv 1) ve_bad) vss_nil) vss_nil) (vss_cons (vs_if (vt_val (ve_callB (c_isX hE (sub_ok Tx _)) (by rfl) Tx.z_isinstance bt_isinstance (va_cons (ve_var (pv 0)) (va_cons (ve_fn (by rfl) Tx.mC_TooMany) va_nil)))) (vss_cons (vs_append (pv 1) ve_bad) vss_nil) vss_nil) (vss_cons (vs_if (vt_val (ve_callB (c_isX hE (sub_ok Tx _)) (by rfl) Tx.z_isinstance bt_isinstance (va_cons (ve_var (pv 0)) (va_cons (ve_fn (by rfl) Tx.mC_NotKept) va_nil)))) (vss_cons (vs_append (pv 1) ve_bad) vss_nil) vss_nil) (vss_cons (vs_if (vt_val (ve_callB (c_isX hE (sub_ok Tx _)) (by rfl) Tx.z_isinstance bt_isinstance (va_cons (ve_var (pv 0)) (va_cons (ve_fn (by rfl) Tx.mC_NothingToUndo) va_nil)))) (vss_cons (vs_append (pv 1) ve_bad) vss_nil) vss_nil) (vss_cons (vs_if (vt_val (ve_callB (c_isX hE (sub_ok Tx _)) (by rfl) Tx.z_isinstance bt_isinstance (va_cons (ve_var (pv 0)) (va_cons (ve_fn (by rfl) Tx.mC_NothingToRedo) va_nil)))) (vss_cons (vs_append (pv 1) ve_bad) vss_nil) vss_nil) (vss_cons (vs_ret (ve_var (pv 1))) vss_nil)))))))))))
theorem ok_l_kinds (Tx : Txt K mg fa fd T base) : FnE P w K mg base (L2.CX P w) 2 (fa 46) (fd 46) ["e"] (spE K mg T 1 m_l_kinds) := by
  have sc := sc_l_kinds
  exact fn_okET (N := N_l_kinds) (k := 1) (I := (fun _ => false)) (mb := b_l_kinds) Tx.F_l_kinds sc fun cdv A outer s H E p xd xC hr hE tk => by
    exact (vss_cons (vs_setO sc.nd (by rfl) (.inl (by rfl)) (vo_lst va_nil) (by rfl)) (vss_cons (vs_if (vt_val (ve_callB (c_isX hE (sub_ok Tx _)) (by rfl) Tx.z_isinstance bt_isinstance (va_cons (ve_var (pv 0)) (va_cons (ve_fn (by rfl) Tx.mC_BadNumber) va_nil)))) (vss_cons (vs_append (pv 1) ve_bad) vss_nil) vss_nil) (vss_cons (vs_if (vt_val (ve_callB (c_isX hE (sub_ok Tx _)) (by rfl) Tx.z_isinstance bt_isinstance (va_cons (ve_var (pv 0)) (va_cons (ve_fn (by rfl) Tx.mC_BadRow) va_nil)))) (vss_cons (vs_append (pv 1) ve_bad) vss_nil) vss_nil) (vss_cons (vs_if (vt_val (ve_callB (c_isX hE (sub_ok Tx _)) (by rfl) Tx.z_isinstance bt_isinstance (va_cons (ve_var (pv 0)) (va_cons (ve_fn (by rfl) Tx.mC_BadWord) va_nil)))) (vss_cons (vs_append (pv 1) ve_bad) vss_nil) vss_nil) (vss_cons (vs_if (vt_val (ve_callB (c_isX hE (sub_ok Tx _)) (by rfl) Tx.z_isinstance bt_isinstance (va_cons (ve_var (pv 0)) (va_cons (ve_fn (by rfl) Tx.mC_BadTable) va_nil)))) (vss_cons (vs_append (pv 1) ve_bad) vss_nil) vss_nil) (vss_cons (vs_if (vt_val (ve_callB (c_isX hE (sub_ok Tx _)) (by rfl) Tx.z_isinstance bt_isinstance (va_cons (ve_var (pv 0)) (va_cons (ve_fn (by rfl) Tx.mC_BadBook) va_nil)))) (vss_cons (vs_append (pv 1) ve_bad) vss_nil) vss_nil) (vss_cons (vs_if (vt_val (ve_callB (c_isX hE (sub_ok Tx _)) (by rfl) Tx.z_isinstance bt_isinstance (va_cons (ve_var (pv 0)) (va_cons (ve_fn (by rfl) Tx.mC_BadName) va_nil)))) (vss_cons (vs_append (pv 1) ve_bad) vss_nil) vss_nil) (vss_cons (vs_if (vt_val (ve_callB (c_isX hE (sub_ok Tx _)) (by rfl) Tx.z_isinstance bt_isinstance (va_cons (ve_var (pv 0)) (va_cons (ve_fn (by rfl) Tx.mC_BadText) va_nil)))) (vss_cons (vs_append (pv 1) (ve_tup (va_cons ve_str (va_cons (ve_fldX (C0 := "BadText") hE (xf_BadText_line Tx) (ve_var (pv 0))) (va_cons (ve_fldX (C0 := "BadText") hE (xf_BadText_token Tx) (ve_var (pv 0))) va_nil))))) vss_nil) vss_nil) (vss_cons (vs_ret (ve_op o_add (ve_var (pv 1)) (ve_callE hE (ok_l_more_kinds Tx) (hr.mono (by decide)) (by rfl) Tx.m_l_more_kinds Tx.F_l_more_kinds.kp Tx.b_l_more_kinds (tk.pass) (vas_val (ve_var (pv 0)) vas_nil)))) vss_nil)))))))))
theorem told_ok {X : Cx} (Tx : Txt X.K X.mg fa fd T X.base) : Told X (fa 1) mkFault b_l_suite := by
  refine ⟨fun x p e c hc => ?_⟩
  unfold mkFault at e
  split at e
  · rename_i h
    obtain ⟨h1, h2⟩ := h
    split at e
    · rename_i t l h3
      cases e
      obtain ⟨C, ks, vs⟩ := x
      dsimp only at h1 h2 h3 hc
      subst h1 h2 h3
      rw [Tx.mC_BadText] at hc
      cases hc
      refine ⟨Tx.exm_BadText, fun a d => ?_⟩
      exact ev_suite a d t l
    · cases e
  · cases e

theorem told_by {X : Cx} (Tx : Txt X.K X.mg fa fd T X.base) : ToldBy X T (fun _ => false) "_law_fault" "call" "found" "e" "ShiftError" s_l_fault (fa 45) (fd 45) (fa 1) b_l_suite := by
  have sc := sc_l_fault
  refine ⟨Tx.F_l_fault, Tx.m_l_fault, Tx.b_l_fault, sc, fun cdv => ?_⟩
  refine told_to (e := "ShiftError") rfl sc.nd rfl rfl rfl Tx.mC_ShiftError (by decide) (by decide) (by decide) fun s H xa xd xC oe c pn hr0 hz hm hf => ?_
  have hr : L2H.RoomH 3 ((X.A.deeper (envOfC "_law_fault" (defScope s_l_fault) s.heap.objs.size (fa 45) cdv)).mark (some (.ref xa))) := ⟨hr0.dp, hr0.un⟩
  have hu := unitsH hr
  have hE : ExAt (((cxOf C8.CX0 X.prog X.w X.K X.mg X.base N_l_fault "_law_fault" (defScope s_l_fault) (fa 45) cdv X.A X.stack s H C8.E0).nox).suite xa ((xa, oe) :: pn)) xa xd xC := ⟨oe, c, List.mem_cons_self, hz, hm, hf⟩
  exact (vss_cons (vs_set sc.nd (by rfl) (.inl (by rfl)) (ve_callE hE (ok_l_kinds Tx) (hr.mono (by decide)) (by rfl) Tx.m_l_kinds Tx.F_l_kinds.kp Tx.b_l_kinds (pass0x) (vas_val (ve_var (pv 2)) vas_nil)) (by rfl)) (vss_cons (vs_set sc.nd (by rfl) (.inl (by rfl)) (ve_if (VW.vt (vw_and (vt_cmp (o_eq hu) (ve_callB (c_len) (by rfl) Tx.z_len bt_len (va_cons (ve_var (pv 1)) va_nil)) ve_int (by rfl)) (vw_and1 (vt_val (ve_callB (c_isX hE (sub_ok Tx _)) (by rfl) Tx.z_isinstance bt_isinstance (va_cons (ve_var (pv 2)) (va_cons (ve_ty (by rfl) Tx.z_ValueError bt_ValueError) va_nil))))))) (ve_ix o_ix (ve_var (pv 1)) ve_int (fun _ _ => rfl)) (ve_tup (va_cons ve_str (va_cons (ve_callB (c_len) (by rfl) Tx.z_len bt_len (va_cons (ve_var (pv 1)) va_nil)) va_nil)))) (by rfl)) vss_nil))
theorem ok_l_line_fault (Tx : Txt K mg fa fd T base) : FnOk P w K mg base (L2.CX P w) 8 (fa 48) (fd 48) ["text"] (spV K mg T 1 m_l_line_fault) := by
  have sc := sc_l_line_fault
  refine fn_okC (N := N_l_line_fault) (k := 7) (I := (fun _ => false)) (mb := b_l_line_fault) Tx.F_l_line_fault sc fun cdv A outer s H E hcd hr tr tk po => ?_
  have hcd := hcd.symm.trans Tx.cd_l_line_fault
  subst hcd
  exact (vss_cons (vs_ret (ve_told (k := 5) (told_by Tx) (told_ok Tx) (by rfl) (.inl (by rfl)) Tx.tb (by rfl) (by rw [Tx.eT]; exact List.mem_cons_self) (fun p hp _ => by rw [Tx.eT] at hp; cases List.mem_singleton.mp hp; rfl) (hr.mono (by decide)) (by decide) (lamS_by (by rfl)) (by rfl) (fun _ _ _ _ _ => rfl) (fun A outer s H E f c hr tk => (ve_call (ok_question_of_text Tx) (hr.mono (by decide)) (by rfl) Tx.m_question_of_text Tx.F_question_of_text.kp Tx.b_question_of_text (tk.pass) (vas_val (ve_var (pv 0)) vas_nil))))) vss_nil)
theorem ok_l_bare (Tx : Txt K mg fa fd T base) : FnOk P w K mg base (L2.CX P w) 1 (fa 49) (fd 49) [] (spV K mg T 0 m_l_bare) := by
  have sc := sc_l_bare
  exact fn_okT (N := N_l_bare) (k := 0) (I := (fun _ => false)) (mb := b_l_bare) Tx.F_l_bare sc fun cdv A outer s H E hr tr tk po => by
    exact (vss_cons (vs_ret (ve_lst (va_cons ve_str (va_cons ve_str (va_cons ve_str (va_cons ve_str (va_cons ve_str (va_cons ve_str (va_cons ve_str (va_cons ve_str va_nil)))))))))) vss_nil)
theorem ok_l_question (Tx : Txt K mg fa fd T base) : FnOk P w K mg base (L2.CX P w) 3 (fa 50) (fd 50) ["pen"] (spV K mg T 1 m_l_question) := by
  have sc := sc_l_question
  exact fn_okT (N := N_l_question) (k := 2) (I := (fun i => i == 0)) (mb := b_l_question) Tx.F_l_question sc fun cdv A outer s H E hr tr tk po => by
    have hu := units_of hr
    exact (vss_cons (vs_pair (by rfl) sc.nd (by rfl) (by rfl) (by decide) (by rfl) (by rfl) (vsl_fr (ve_call (ok_l_pick Tx) (hr.mono (by decide)) (by rfl) Tx.m_l_pick Tx.F_l_pick.kp Tx.b_l_pick (tk.pass) (vas_slot (pv 0) (vas_val (ve_op o_add (ve_call0 (ok_l_bare Tx) (hr.mono (by decide)) (by rfl) Tx.m_l_bare Tx.F_l_bare.kp Tx.b_l_bare (tk.pass)) (ve_lst (va_cons ve_str (va_cons ve_str (va_cons ve_str (va_cons ve_str (va_cons ve_str (va_cons ve_str (va_cons ve_str (va_cons ve_str va_nil)))))))))) vas_nil)))) (vsl_fr (ve_call (ok_l_draw Tx) (hr.mono (by decide)) (by rfl) Tx.m_l_draw Tx.F_l_draw.kp Tx.b_l_draw (tk.pass) (vas_slot (pv 0) (vas_val ve_int vas_nil)))) (by rfl) (by rfl) (by rfl)) (vss_cons (vs_if (vt_cmp o_in (ve_var (pv 1)) (ve_call0 (ok_l_bare Tx) (hr.mono (by decide)) (by rfl) Tx.m_l_bare Tx.F_l_bare.kp Tx.b_l_bare (tk.pass)) (by rfl)) (vss_cons (vs_ret (ve_tup (va_cons (ve_lst (va_cons (ve_var (pv 1)) va_nil)) (va_cons (ve_tup (va_cons (ve_var (pv 1)) va_nil)) va_nil)))) vss_nil) vss_nil) (vss_cons (vs_if (vt_cmp (o_eq hu) (ve_var (pv 1)) ve_str (by rfl)) (vss_cons (vs_set sc.nd (by rfl) (.inl (by rfl)) (ve_callTy c_tup (by rfl) Tx.z_tuple bt_tuple (va_cons (ve_O (vo_comp (by rfl) sc.nd tk (vl_mk (own := [("lap", 6)]) (vi_range1 (by rfl) Tx.z_range (ve_call (ok_l_draw Tx) (hr.mono (by decide)) (by rfl) Tx.m_l_draw Tx.F_l_draw.kp Tx.b_l_draw (tk.pass) (vas_slot (pv 0) (vas_val ve_int vas_nil)))) (blkOk_by (by rfl)) (fun _ _ _ _ _ => (vg_name sc.nd (by rfl) (.inl (by rfl)) (by rfl))) (fun _ _ _ _ _ => vts_nil) (fun _ _ _ _ _ _ _ tk => (ve_call (ok_l_draw Tx) (hr.mono (by decide)) (by rfl) Tx.m_l_draw Tx.F_l_draw.kp Tx.b_l_draw (tk.pass) (vas_slot (pv 0) (vas_val ve_int vas_nil))))))) va_nil)) (by rfl)) (vss_cons (vs_ret (ve_tup (va_cons (ve_lst (va_cons (ve_var (pv 1)) (va_cons (ve_if (vt_cmp (o_ne hu) (ve_var (pv 3)) (ve_tup va_nil) (by rfl)) (ve_m1 PySem.F.slot_str_join PySem.F.type_str_join m_join ve_str (ve_O (vo_comp (by rfl) sc.nd tk (vl_mk (own := [("one", 7)]) (vi_any (ve_var (pv 3))) (blkOk_by (by rfl)) (fun _ _ _ _ _ => (vg_name sc.nd (by rfl) (.inl (by rfl)) (by rfl))) (fun _ _ _ _ _ => vts_nil) (fun _ _ _ _ _ _ _ tk => (ve_callTy c_str (by rfl) Tx.z_str bt_str (va_cons (ve_var (pv 7)) va_nil))))))) ve_str) va_nil))) (va_cons (ve_tup (va_cons (ve_var (pv 1)) (va_cons (ve_var (pv 3)) va_nil))) va_nil)))) vss_nil)) vss_nil) (vss_cons (vs_if (vt_cmp (o_eq hu) (ve_var (pv 1)) ve_str (by rfl)) (vss_cons (vs_set sc.nd (by rfl) (.inl (by rfl)) (ve_call (ok_l_draw Tx) (hr.mono (by decide)) (by rfl) Tx.m_l_draw Tx.F_l_draw.kp Tx.b_l_draw (tk.pass) (vas_slot (pv 0) (vas_val ve_int vas_nil))) (by rfl)) (vss_cons (vs_ret (ve_tup (va_cons (ve_lst (va_cons (ve_var (pv 1)) (va_cons (ve_callTy c_str (by rfl) Tx.z_str bt_str (va_cons (ve_var (pv 2)) va_nil)) (va_cons (ve_callTy c_str (by rfl) Tx.z_str bt_str (va_cons (ve_var (pv 4)) va_nil)) va_nil)))) (va_cons (ve_tup (va_cons (ve_var (pv 1)) (va_cons (ve_var (pv 2)) (va_cons (ve_var (pv 4)) va_nil)))) va_nil)))) vss_nil)) vss_nil) (vss_if1 o_in (ve_var (pv 1)) (ve1_tup (va_cons ve_str va_nil)) (by rfl) (vsst_cons (vs_set sc.nd (by rfl) (.inl (by rfl)) (ve_call (ok_l_pick Tx) (hr.mono (by decide)) (by rfl) Tx.m_l_pick Tx.F_l_pick.kp Tx.b_l_pick (tk.pass) (vas_slot (pv 0) (vas_val (ve_lst (va_cons ve_str (va_cons ve_str (va_cons ve_str (va_cons ve_str (va_cons ve_str va_nil)))))) vas_nil))) (by rfl)) (vsst_ret (vet_tup (vat_cons (vet_of (ve_lst (va_cons (ve_var (pv 1)) (va_cons (ve_var (pv 5)) va_nil)))) (vat_cons (vet_tup (vat_cons (vet_of (ve_var (pv 1))) (vat_cons (vet_repl (ve_var (pv 5))) vat_nil))) vat_nil))))) (vsst_of (vss_cons (vs_ret (ve_tup (va_cons (ve_lst (va_cons (ve_var (pv 1)) (va_cons (ve_callTy c_str (by rfl) Tx.z_str bt_str (va_cons (ve_var (pv 2)) va_nil)) va_nil))) (va_cons (ve_tup (va_cons (ve_var (pv 1)) (va_cons (ve_var (pv 2)) va_nil))) va_nil)))) vss_nil)))))))
theorem ok_l_is_numeral (Tx : Txt K mg fa fd T base) : FnOk P w K mg base (L2.CX P w) 1 (fa 51) (fd 51) ["token"] (spV K mg T 1 m_l_is_numeral) := by
  have sc := sc_l_is_numeral
  exact fn_okT (N := N_l_is_numeral) (k := 0) (I := (fun _ => false)) (mb := b_l_is_numeral) Tx.F_l_is_numeral sc fun cdv A outer s H E hr tr tk po => by
    have hu := units_of hr
    exact (vss_cons (vs_ret (ve_and (ve_chain o_le o_le ve_int (ve_callB (c_len) (by rfl) Tx.z_len bt_len (va_cons (ve_var (pv 0)) va_nil)) ve_int) (ve_and (ve_cmp (o_eq hu) (ve_O (vo_comp (by rfl) sc.nd tk (vl_mk (own := [("sign", 1)]) (vi_any (ve_var (pv 0))) (blkOk_by (by rfl)) (fun _ _ _ _ _ => (vg_name sc.nd (by rfl) (.inl (by rfl)) (by rfl))) (fun _ _ _ _ _ => (vts_one (vt_cmp o_notIn (ve_var (pv 1)) ve_str (by rfl)))) (fun _ _ _ _ _ _ _ tk => (ve_var (pv 1)))))) (ve_lst va_nil) (by rfl)) (ve_one (ve_or (ve_cmp (o_eq hu) (ve_var (pv 0)) ve_str (by rfl)) (ve_one (ve_cmp (o_ne hu) (ve_ix o_ix (ve_var (pv 0)) ve_int (fun _ _ => rfl)) ve_str (by rfl)))))))) vss_nil)
theorem ok_l_is_word (Tx : Txt K mg fa fd T base) : FnOk P w K mg base (L2.CX P w) 1 (fa 52) (fd 52) ["token"] (spV K mg T 1 m_l_is_word) := by
  have sc := sc_l_is_word
  exact fn_okT (N := N_l_is_word) (k := 0) (I := (fun _ => false)) (mb := b_l_is_word) Tx.F_l_is_word sc fun cdv A outer s H E hr tr tk po => by
    have hu := units_of hr
    exact (vss_cons (vs_ret (ve_or (ve_cmp (o_eq hu) (ve_var (pv 0)) ve_str (by rfl)) (ve_one (ve_and (ve_chain o_le o_le ve_int (ve_callB (c_len) (by rfl) Tx.z_len bt_len (va_cons (ve_var (pv 0)) va_nil)) ve_int) (ve_one (ve_cmp (o_eq hu) (ve_O (vo_comp (by rfl) sc.nd tk (vl_mk (own := [("sign", 1)]) (vi_any (ve_var (pv 0))) (blkOk_by (by rfl)) (fun _ _ _ _ _ => (vg_name sc.nd (by rfl) (.inl (by rfl)) (by rfl))) (fun _ _ _ _ _ => (vts_one (vt_cmp o_notIn (ve_var (pv 1)) ve_str (by rfl)))) (fun _ _ _ _ _ _ _ tk => (ve_var (pv 1)))))) (ve_lst va_nil) (by rfl))))))) vss_nil)
theorem Tbl_l_wrong_need {X : Cx} (Tx : Txt X.K X.mg fa fd T X.base) (hr : Room 1 X.A) : Defs X T 1 tbl_l_wrong_need := ⟨fun y mf e => by
  unfold tbl_l_wrong_need at e
  split at e
  · rename_i h; subst h; cases e; exact ⟨_, _, _, _, ok_l_is_numeral Tx, hr.mono (by decide), Tx.m_l_is_numeral, Tx.F_l_is_numeral.kp, Tx.b_l_is_numeral⟩
  split at e
  · rename_i h; subst h; cases e; exact ⟨_, _, _, _, ok_l_is_word Tx, hr.mono (by decide), Tx.m_l_is_word, Tx.F_l_is_word.kp, Tx.b_l_is_word⟩
  cases e⟩
theorem ok_l_wrong (Tx : Txt K mg fa fd T base) : FnOk P w K mg base (L2.CX P w) 2 (fa 53) (fd 53) ["tokens"] (spV K mg T 1 m_l_wrong) := by
  have sc := sc_l_wrong
  exact fn_okT (N := N_l_wrong) (k := 1) (I := (fun _ => false)) (mb := b_l_wrong) Tx.F_l_wrong sc fun cdv A outer s H E hr tr tk po => by
    have hu1 := units1 hr
    have hu := units_of hr
    exact (vss_cons (vs_set sc.nd (by rfl) (.inl (by rfl)) (ve_if (vt_cmp (o_ne hu) (ve_var (pv 0)) (ve_lst va_nil) (by rfl)) (ve_ix o_ix (ve_var (pv 0)) ve_int (fun _ _ => rfl)) ve_str) (by rfl)) (vss_cons (vs_if (vt_cmp o_in (ve_var (pv 1)) (ve_tup (va_cons ve_str (va_cons ve_str va_nil))) (by rfl)) (vss_cons (vs_ret (ve_if (vt_cmp o_lt (ve_callB (c_len) (by rfl) Tx.z_len bt_len (va_cons (ve_var (pv 0)) va_nil)) ve_int (by rfl)) ve_int ve_int)) vss_nil) vss_nil) (vss_cons (vs_set sc.nd (by rfl) (.inl (by rfl)) (ve_O (vo_disp (vps_cons (ve_lst (va_cons (ve_fn (by rfl) Tx.m_l_is_word) va_nil)) (vps_cons (ve_lst (va_cons (ve_fn (by rfl) Tx.m_l_is_numeral) va_nil)) (vps_cons (ve_lst (va_cons (ve_fn (by rfl) Tx.m_l_is_numeral) va_nil)) (vps_cons (ve_lst (va_cons (ve_fn (by rfl) Tx.m_l_is_numeral) va_nil)) (vps_cons (ve_lst (va_cons (ve_fn (by rfl) Tx.m_l_is_numeral) (va_cons (ve_fn (by rfl) Tx.m_l_is_numeral) va_nil))) vps_nil))))) (by decide +kernel) (by decide))) (by rfl)) (vss_cons (vs_if (VW.vt (vw_and (vt_dnotin hu1 (ve_var (pv 1)) (ve_var (pv 2))) (vw_and1 (vt_cmp o_notIn (ve_var (pv 1)) (ve_call0 (ok_l_bare Tx) (hr.mono (by decide)) (by rfl) Tx.m_l_bare Tx.F_l_bare.kp Tx.b_l_bare (tk.pass)) (by rfl))))) (vss_cons (vs_ret ve_int) vss_nil) vss_nil) (vss_cons (vs_set sc.nd (by rfl) (.inl (by rfl)) (ve_if (vt_din hu1 (ve_var (pv 1)) (ve_var (pv 2))) (ve_dget hu1 (ve_var (pv 2)) (ve_var (pv 1)) (fun _ _ => rfl)) (ve_lst va_nil)) (by rfl)) (vss_cons (vs_for po (by rfl) (vi_enum (by rfl) Tx.z_enumerate (ve_var (pv 3))) (vg_tup (by rfl) (vgs_cons (vg_name sc.nd (by rfl) (.inl (by rfl)) (by rfl)) (vgs_cons (vg_name sc.nd (by rfl) (.inl (by rfl)) (by rfl)) vgs_nil)) (gLen_cons (gLen_cons gLen_nil))) (vss_cons (vs_if (VW.vt (vw_or (vt_cmp o_ge (ve_op o_add (ve_var (pv 4)) ve_int) (ve_callB (c_len) (by rfl) Tx.z_len bt_len (va_cons (ve_var (pv 0)) va_nil)) (by rfl)) (vw_or1 (vt_not (vt_val (ve_callG (Tbl_l_wrong_need Tx (hr.mono (by decide))) (pv 5) (tk.pass) (vas_val (ve_ix o_ix (ve_var (pv 0)) (ve_op o_add (ve_var (pv 4)) ve_int) (fun _ _ => rfl)) vas_nil))))))) (vss_cons (vs_ret (ve_op o_add (ve_var (pv 4)) ve_int)) vss_nil) vss_nil) vss_nil)) (vss_cons (vs_ret (ve_if (vt_cmp o_gt (ve_callB (c_len) (by rfl) Tx.z_len bt_len (va_cons (ve_var (pv 0)) va_nil)) (ve_op o_add (ve_callB (c_len) (by rfl) Tx.z_len bt_len (va_cons (ve_var (pv 3)) va_nil)) ve_int) (by rfl)) (ve_op o_add (ve_callB (c_len) (by rfl) Tx.z_len bt_len (va_cons (ve_var (pv 3)) va_nil)) ve_int) ve_int)) vss_nil)))))))
theorem ok_l_right (Tx : Txt K mg fa fd T base) : FnOk P w K mg base (L2.CX P w) 9 (fa 54) (fd 54) ["pen"] (spV K mg T 1 m_l_right) := by
  have sc := sc_l_right
  exact fn_okT (N := N_l_right) (k := 8) (I := (fun i => i == 0)) (mb := b_l_right) Tx.F_l_right sc fun cdv A outer s H E hr tr tk po => by
    have hu := units_of hr
    exact (vss_cons (vs_asg (ve_call (ok_l_question Tx) (hr.mono (by decide)) (by rfl) Tx.m_l_question Tx.F_l_question.kp Tx.b_l_question (tk.pass) (vas_slot (pv 0) vas_nil)) (vg_tup (by rfl) (vgs_cons (vg_name sc.nd (by rfl) (.inl (by rfl)) (by rfl)) (vgs_cons (vg_name sc.nd (by rfl) (.inl (by rfl)) (by rfl)) vgs_nil)) (gLen_cons (gLen_cons gLen_nil)))) (vss_cons (vs_set sc.nd (by rfl) (.inl (by rfl)) (ve_if (vt_cmp o_in (ve_ix o_ix (ve_var (pv 1)) ve_int (fun _ _ => rfl)) (ve_tup (va_cons ve_str (va_cons ve_str va_nil))) (by rfl)) ve_str (ve_op o_mul ve_str (ve_call (ok_l_draw Tx) (hr.mono (by decide)) (by rfl) Tx.m_l_draw Tx.F_l_draw.kp Tx.b_l_draw (tk.pass) (vas_slot (pv 0) (vas_val ve_int vas_nil))))) (by rfl)) (vss_cons (vs_if (vt_not (vt_val (ve_call (ok_l_is Tx 8) (hr.mono (by decide)) (by rfl) Tx.m_l_is Tx.F_l_is.kp Tx.b_l_is (tk.pass) (vas_val (ve_call (ok_question_of_text Tx) (hr.mono (by decide)) (by rfl) Tx.m_question_of_text Tx.F_question_of_text.kp Tx.b_question_of_text (tk.pass) (vas_val (ve_op o_add (ve_op o_add (ve_op o_mul ve_str (ve_call (ok_l_draw Tx) (hr.mono (by decide)) (by rfl) Tx.m_l_draw Tx.F_l_draw.kp Tx.b_l_draw (tk.pass) (vas_slot (pv 0) (vas_val ve_int vas_nil)))) (ve_m1 PySem.F.slot_str_join PySem.F.type_str_join m_join ve_str (ve_var (pv 1)))) (ve_var (pv 3))) vas_nil)) (vas_val (ve_var (pv 2)) vas_nil))))) (vss_cons (vs_ret ve_bl) vss_nil) vss_nil) (vss_cons (vs_for po (by rfl) (vi_range1 (by rfl) Tx.z_range ve_int) (vg_name sc.nd (by rfl) (.inl (by rfl)) (by rfl)) (vss_cons (vs_pair (by rfl) sc.nd (by rfl) (by rfl) (by decide) (by rfl) (by rfl) (vsl_fr (ve_call (ok_l_draw Tx) (hr.mono (by decide)) (by rfl) Tx.m_l_draw Tx.F_l_draw.kp Tx.b_l_draw (tk.pass) (vas_slot (pv 0) (vas_val (ve_callB (c_len) (by rfl) Tx.z_len bt_len (va_cons (ve_var (pv 1)) va_nil)) vas_nil)))) (vsl_fr (ve_call (ok_l_pick Tx) (hr.mono (by decide)) (by rfl) Tx.m_l_pick Tx.F_l_pick.kp Tx.b_l_pick (tk.pass) (vas_slot (pv 0) (vas_val (ve_lst (va_cons ve_str (va_cons ve_str (va_cons ve_str (va_cons ve_str (va_cons ve_str (va_cons ve_str (va_cons ve_str (va_cons ve_str (va_cons ve_str (va_cons ve_str (va_cons ve_str va_nil)))))))))))) vas_nil)))) (by rfl) (by rfl) (by rfl)) (vss_cons (vs_set sc.nd (by rfl) (.inl (by rfl)) (ve_call (ok_l_pick Tx) (hr.mono (by decide)) (by rfl) Tx.m_l_pick Tx.F_l_pick.kp Tx.b_l_pick (tk.pass) (vas_slot (pv 0) (vas_val (ve_lst (va_cons (ve_op o_add (ve_slice o_sl (ve_var (pv 1)) vp_none (vp_some (ve_var (pv 5)))) (ve_slice o_sl (ve_var (pv 1)) (vp_some (ve_op o_add (ve_var (pv 5)) ve_int)) vp_none)) (va_cons (ve_op o_add (ve_var (pv 1)) (ve_lst (va_cons (ve_var (pv 6)) va_nil))) (va_cons (ve_op o_add (ve_op o_add (ve_slice o_sl (ve_var (pv 1)) vp_none (vp_some (ve_var (pv 5)))) (ve_lst (va_cons (ve_var (pv 6)) va_nil))) (ve_slice o_sl (ve_var (pv 1)) (vp_some (ve_op o_add (ve_var (pv 5)) ve_int)) vp_none)) (va_cons (ve_op o_add (ve_op o_add (ve_slice o_sl (ve_var (pv 1)) vp_none (vp_some (ve_var (pv 5)))) (ve_lst (va_cons (ve_var (pv 6)) va_nil))) (ve_slice o_sl (ve_var (pv 1)) (vp_some (ve_var (pv 5))) vp_none)) va_nil))))) vas_nil))) (by rfl)) (vss_cons (vs_set sc.nd (by rfl) (.inl (by rfl)) (ve_call (ok_l_wrong Tx) (hr.mono (by decide)) (by rfl) Tx.m_l_wrong Tx.F_l_wrong.kp Tx.b_l_wrong (tk.pass) (vas_val (ve_var (pv 7)) vas_nil)) (by rfl)) (vss_cons (vs_if (vt_cmp (o_ne hu) (ve_call (ok_l_line_fault Tx) (hr.mono (by decide)) (by rfl) Tx.m_l_line_fault Tx.F_l_line_fault.kp Tx.b_l_line_fault (tk.pass) (vas_val (ve_m1 PySem.F.slot_str_join PySem.F.type_str_join m_join ve_str (ve_var (pv 7))) vas_nil)) (ve_if (vt_cmp o_gt (ve_var (pv 8)) ve_int (by rfl)) (ve_tup (va_cons ve_str (va_cons ve_int (va_cons (ve_var (pv 8)) va_nil)))) ve_non) (by rfl)) (vss_cons (vs_ret ve_bl) vss_nil) vss_nil) vss_nil))))) (vss_cons (vs_ret ve_bl) vss_nil)))))
theorem ok_law (Tx : Txt K mg fa fd T base) : FnOk P w K mg base (L2.CX P w) 10 (fa 55) (fd 55) ["script"] (spV K mg T 1 m_law) := by
  have sc := sc_law
  exact fn_okT (N := N_law) (k := 9) (I := (fun _ => false)) (mb := b_law) Tx.F_law sc fun cdv A outer s H E hr tr tk po => by
    have hu := units_of hr
    exact (vss_cons (vs_setO sc.nd (by rfl) (.inl (by rfl)) (vo_call (ok_l_pen Tx) (hr.mono (by decide)) (by rfl) Tx.m_l_pen Tx.F_l_pen.kp Tx.b_l_pen (tk.pass) (vas_val (ve_var (pv 0)) vas_nil)) (by rfl)) (vss_cons (vs_for po (by rfl) (vi_range1 (by rfl) Tx.z_range ve_int) (vg_name sc.nd (by rfl) (.inl (by rfl)) (by rfl)) (vss_cons (vs_if (vt_not (vt_val (ve_call (ok_l_right Tx) (hr.mono (by decide)) (by rfl) Tx.m_l_right Tx.F_l_right.kp Tx.b_l_right (tk.pass) (vas_slot (pv 1) vas_nil)))) (vss_cons (vs_ret ve_bl) vss_nil) vss_nil) vss_nil)) (vss_cons (vs_set sc.nd (by rfl) (.inl (by rfl)) (ve_call (ok_l_pick Tx) (hr.mono (by decide)) (by rfl) Tx.m_l_pick Tx.F_l_pick.kp Tx.b_l_pick (tk.pass) (vas_slot (pv 1) (vas_val (ve_lst (va_cons ve_non (va_cons ve_int (va_cons ve_bl (va_cons (ve_lst (va_cons ve_str va_nil)) va_nil))))) vas_nil))) (by rfl)) (vss_cons (vs_if (vt_cmp (o_ne hu) (ve_call (ok_l_line_fault Tx) (hr.mono (by decide)) (by rfl) Tx.m_l_line_fault Tx.F_l_line_fault.kp Tx.b_l_line_fault (tk.pass) (vas_val (ve_var (pv 3)) vas_nil)) (ve_tup (va_cons ve_str (va_cons ve_int (va_cons ve_int va_nil)))) (by rfl)) (vss_cons (vs_ret ve_bl) vss_nil) vss_nil) (vss_cons (vs_setO sc.nd (by rfl) (.inl (by rfl)) (vo_lst (va_cons (ve_tup (va_cons ve_str (va_cons ve_int va_nil))) (va_cons (ve_tup (va_cons ve_str (va_cons ve_int va_nil))) (va_cons (ve_tup (va_cons ve_str (va_cons ve_int va_nil))) (va_cons (ve_tup (va_cons ve_str (va_cons ve_int va_nil))) (va_cons (ve_tup (va_cons ve_str (va_cons ve_int va_nil))) (va_cons (ve_tup (va_cons ve_str (va_cons ve_int va_nil))) (va_cons (ve_tup (va_cons ve_str (va_cons ve_int va_nil))) (va_cons (ve_tup (va_cons ve_str (va_cons ve_int va_nil))) (va_cons (ve_tup (va_cons ve_str (va_cons ve_int va_nil))) (va_cons (ve_tup (va_cons ve_str (va_cons ve_int va_nil))) (va_cons (ve_tup (va_cons ve_str (va_cons ve_int va_nil))) (va_cons (ve_tup (va_cons ve_str (va_cons ve_int va_nil))) va_nil))))))))))))) (by rfl)) (vss_cons (vs_extend (pv 4) (ve_lst (va_cons (ve_tup (va_cons ve_str (va_cons ve_int va_nil))) (va_cons (ve_tup (va_cons ve_str (va_cons ve_int va_nil))) (va_cons (ve_tup (va_cons ve_str (va_cons ve_int va_nil))) (va_cons (ve_tup (va_cons ve_str (va_cons ve_int va_nil))) (va_cons (ve_tup (va_cons ve_str (va_cons ve_int va_nil))) (va_cons (ve_tup (va_cons (ve_op o_add ve_str (ve_op o_mul ve_str ve_int)) (va_cons ve_int va_nil))) va_nil)))))))) (vss_cons (vs_if (vt_cmp (o_ne hu) (ve_O (vo_comp (by rfl) sc.nd tk (vl_mk (own := [("text", 5), ("token", 6)]) (vi_any (ve_var (pv 4))) (blkOk_by (by rfl)) (fun _ _ _ _ _ => (vg_tup (by rfl) (vgs_cons (vg_name sc.nd (by rfl) (.inl (by rfl)) (by rfl)) (vgs_cons (vg_name sc.nd (by rfl) (.inl (by rfl)) (by rfl)) vgs_nil)) (gLen_cons (gLen_cons gLen_nil)))) (fun _ _ _ _ _ => (vts_one (vt_cmp (o_ne hu) (ve_call (ok_l_line_fault Tx) (hr.mono (by decide)) (by rfl) Tx.m_l_line_fault Tx.F_l_line_fault.kp Tx.b_l_line_fault (pass0x) (vas_val (ve_var (pv 5)) vas_nil)) (ve_tup (va_cons ve_str (va_cons ve_int (va_cons (ve_var (pv 6)) va_nil)))) (by rfl)))) (fun _ _ _ _ _ _ _ tk => (ve_var (pv 5)))))) (ve_lst va_nil) (by rfl)) (vss_cons (vs_ret ve_bl) vss_nil) vss_nil) (vss_cons (vs_ret (ve_and (ve_call (ok_l_is Tx 8) (hr.mono (by decide)) (by rfl) Tx.m_l_is Tx.F_l_is.kp Tx.b_l_is (tk.pass) (vas_val (ve_call (ok_question_of_text Tx) (hr.mono (by decide)) (by rfl) Tx.m_question_of_text Tx.F_question_of_text.kp Tx.b_question_of_text (tk.pass) (vas_val ve_str vas_nil)) (vas_val (ve_tup (va_cons ve_str (va_cons ve_str va_nil))) vas_nil))) (ve_one (ve_call (ok_l_is Tx 8) (hr.mono (by decide)) (by rfl) Tx.m_l_is Tx.F_l_is.kp Tx.b_l_is (tk.pass) (vas_val (ve_call (ok_question_of_text Tx) (hr.mono (by decide)) (by rfl) Tx.m_question_of_text Tx.F_question_of_text.kp Tx.b_question_of_text (tk.pass) (vas_val (ve_op o_add ve_str (ve_op o_mul ve_str ve_int)) vas_nil)) (vas_val (ve_tup (va_cons ve_str (va_cons (ve_op o_mul (ve_tup (va_cons ve_int (va_cons ve_int (va_cons ve_int va_nil)))) ve_int) va_nil))) vas_nil)))))) vss_nil))))))))
end
end K75

set_option linter.all false
set_option maxRecDepth 100000
set_option maxHeartbeats 2000000
namespace K75
open PySem PySem.Spec PyProof.Rows L2 LamX VS
theorem lt_nat {i j : Nat} : pLt (.int i) (.int j) = some (.bl (decide (i < j))) := by
  show some (PV.bl (decide ((i : Int) < (j : Int)))) = _
  rw [show decide ((i : Int) < (j : Int)) = decide (i < j) from decide_eq_decide.mpr (by omega)]
theorem in_sign {c : Nat} {w : Str} : pIn (.str ⟨#[c]⟩) (.str w) = some (.bl (decide (c ∈ w.cps.toList))) := by
  show some (PV.bl (!(Builtin.Str.occurrences w ⟨#[c]⟩ 0 w.length 1).isEmpty)) = _
  rw [PySem.StrLaws.found_one]
theorem ix_str' {z : Str} {j c : Nat} (hz : z.length ≤ sizeLine) (h : z.cps.toList[j]? = some c) : pIx (.str z) (.int j) = some (.str ⟨#[c]⟩) := by
  show (if z.length ≤ sizeLine then (atI z.cps.toList j).map chr1 else none) = _
  rw [if_pos hz, atI_nat h]; rfl
def runN (zl wl : List Nat) (i : Nat) : Nat := ((zl.drop i).takeWhile (fun c => decide (c ∈ wl))).length
theorem runN_stop {zl wl : List Nat} {i : Nat} (h : runN zl wl i = 0) : ∀ c, zl[i]? = some c → decide (c ∈ wl) = false := fun c hc => by
  unfold runN at h
  have hi : i < zl.length := (List.getElem?_eq_some_iff.mp hc).1
  rw [List.drop_eq_getElem_cons hi, List.takeWhile_cons] at h
  have e : zl[i] = c := (List.getElem?_eq_some_iff.mp hc).2
  rw [e] at h
  cases hd : decide (c ∈ wl) with
  | false => rfl
  | true => rw [hd] at h; simp at h
theorem runN_go {zl wl : List Nat} {i n : Nat} (h : runN zl wl i = n + 1) : ∃ c, zl[i]? = some c ∧ decide (c ∈ wl) = true ∧ runN zl wl (i + 1) = n := by
  unfold runN at h
  by_cases hi : i < zl.length
  · rw [List.drop_eq_getElem_cons hi, List.takeWhile_cons] at h
    refine ⟨zl[i], List.getElem?_eq_getElem hi, ?_⟩
    cases hd : decide (zl[i] ∈ wl) with
    | false => rw [hd] at h; simp at h
    | true => rw [hd] at h; simp at h; exact ⟨rfl, h⟩
  · rw [List.drop_eq_nil_of_le (by omega)] at h; cases h
theorem ev_run (z w : Str) (i : Nat) (hz : z.length ≤ sizeLine) (hi : i ≤ z.length) : Gives m_run_of [.str z, .int i, .str w] (.int (i + runN z.cps.toList w.cps.toList i : Nat)) := by
  refine gives_of ?_
  have hlen : z.cps.toList.length = z.length := by simp [Str.length]
  have h16 : z.length ≤ 16777216 := by rw [← sizeLine_eq]; exact hz
  have key := while_eval (c := mAnd (mTest (mOp2 pLt (mVar 1) (mCallP pLen (mCons (mVar 0) (M.pure []))))) (mTest (mOp2 pIn (mOp2 pIx (mVar 0) (mVar 1)) (mVar 2))))
    (b := mSeq (mAug (fun i j => i + j) 1 (M.pure (.int 1))) mNext)
    (inv := fun n ρ => ∃ j : Nat, ρ = [.fr (.str z), .fr (.int j), .fr (.str w)] ∧ runN z.cps.toList w.cps.toList j = n ∧ j + n = i + runN z.cps.toList w.cps.toList i ∧ j ≤ z.length)
    (n := runN z.cps.toList w.cps.toList i) (ρ := [.fr (.str z), .fr (.int i), .fr (.str w)]) ⟨i, rfl, rfl, rfl, hi⟩ ?_ ?_
  · obtain ⟨ρ', e, j, rfl, e2, e3, _⟩ := key
    have e3 : j = i + runN z.cps.toList w.cps.toList i := by omega
    simp only [b_run_of, e_ok, e_err, e_bad, e_okS, e_errS, e_badS, e_nx, e_rt, e_bk, e_ct, e_ex, e_bd, e_bind, e_pure, e_some, e_none, e_op1, e_op2, e_cons, e_test, e_callP, e_if, e_and, e_or, e_not, e_andV, e_orV, e_andT, e_andF, e_orT, e_orF, e_chain, e_chT, e_chF, e_part, e_sl, e_var, e_varF, e_varO, e_look, e_lookF, e_lookO, e_look1, e_argV, e_argS, e_slot, e_slotF, e_slotO, e_call, e_frz, e_lstO, e_listO, e_anyI, e_sThen, e_seq, e_next, e_brk, e_cnt, e_ret, e_drop, e_set, e_setO, e_ifS, e_raise, e_exn, e_for, boolP, partP, List.getElem?_cons_zero, List.getElem?_cons_succ, List.set_cons_zero, List.set_cons_succ, if_true, if_false, Bool.false_eq_true, Bool.not_true, Bool.not_false, e_vrt, e_vnx, e_xer, e_append, e_appS, e_appK, e_aug, e_augS, e_augK, e_pair, e_fr, e_ow, pSz, pLen, pAdd, frzO, sizeLine_eq, List.length_cons, List.length_nil, Nat.reduceAdd, Nat.reduceLeDiff, Nat.reduceLT, Nat.zero_add, Nat.zero_le, Nat.reduceSub, List.nil_append, List.cons_append, List.append_nil, List.map_cons, List.map_nil, List.replicate, e, e3]
  · rintro ρ ⟨j, rfl, e1, e2, e3⟩
    refine ⟨_, ?_, j, rfl, e1, e2, e3⟩
    by_cases hj : j < z.length
    · have hj' : j < z.cps.toList.length := by omega
      have hc := List.getElem?_eq_getElem hj'
      have hs := runN_stop e1 _ hc
      simp only [e_ok, e_err, e_bad, e_okS, e_errS, e_badS, e_nx, e_rt, e_bk, e_ct, e_ex, e_bd, e_bind, e_pure, e_some, e_none, e_op1, e_op2, e_cons, e_test, e_callP, e_if, e_and, e_or, e_not, e_andV, e_orV, e_andT, e_andF, e_orT, e_orF, e_chain, e_chT, e_chF, e_part, e_sl, e_var, e_varF, e_varO, e_look, e_lookF, e_lookO, e_look1, e_argV, e_argS, e_slot, e_slotF, e_slotO, e_call, e_frz, e_lstO, e_listO, e_anyI, e_sThen, e_seq, e_next, e_brk, e_cnt, e_ret, e_drop, e_set, e_setO, e_ifS, e_raise, e_exn, e_for, boolP, partP, List.getElem?_cons_zero, List.getElem?_cons_succ, List.set_cons_zero, List.set_cons_succ, if_true, if_false, Bool.false_eq_true, Bool.not_true, Bool.not_false, e_vrt, e_vnx, e_xer, e_append, e_appS, e_appK, e_aug, e_augS, e_augK, e_pair, e_fr, e_ow, pSz, pLen, pAdd, frzO, sizeLine_eq, List.length_cons, List.length_nil, Nat.reduceAdd, Nat.reduceLeDiff, Nat.reduceLT, Nat.zero_add, Nat.zero_le, Nat.reduceSub, List.nil_append, List.cons_append, List.append_nil, List.map_cons, List.map_nil, List.replicate, lt_nat, if_pos h16, decide_eq_true hj, ix_str' hz hc, in_sign, hs]
    · simp only [e_ok, e_err, e_bad, e_okS, e_errS, e_badS, e_nx, e_rt, e_bk, e_ct, e_ex, e_bd, e_bind, e_pure, e_some, e_none, e_op1, e_op2, e_cons, e_test, e_callP, e_if, e_and, e_or, e_not, e_andV, e_orV, e_andT, e_andF, e_orT, e_orF, e_chain, e_chT, e_chF, e_part, e_sl, e_var, e_varF, e_varO, e_look, e_lookF, e_lookO, e_look1, e_argV, e_argS, e_slot, e_slotF, e_slotO, e_call, e_frz, e_lstO, e_listO, e_anyI, e_sThen, e_seq, e_next, e_brk, e_cnt, e_ret, e_drop, e_set, e_setO, e_ifS, e_raise, e_exn, e_for, boolP, partP, List.getElem?_cons_zero, List.getElem?_cons_succ, List.set_cons_zero, List.set_cons_succ, if_true, if_false, Bool.false_eq_true, Bool.not_true, Bool.not_false, e_vrt, e_vnx, e_xer, e_append, e_appS, e_appK, e_aug, e_augS, e_augK, e_pair, e_fr, e_ow, pSz, pLen, pAdd, frzO, sizeLine_eq, List.length_cons, List.length_nil, Nat.reduceAdd, Nat.reduceLeDiff, Nat.reduceLT, Nat.zero_add, Nat.zero_le, Nat.reduceSub, List.nil_append, List.cons_append, List.append_nil, List.map_cons, List.map_nil, List.replicate, lt_nat, if_pos h16, decide_eq_false hj]
  · rintro n ρ ⟨j, rfl, e1, e2, e3⟩
    obtain ⟨c, hc, hd, hr⟩ := runN_go e1
    have hj : j < z.length := by rw [← hlen]; exact (List.getElem?_eq_some_iff.mp hc).1
    refine ⟨[.fr (.str z), .fr (.int j), .fr (.str w)], [.fr (.str z), .fr (.int ((j + 1 : Nat) : Int)), .fr (.str w)], ?_, ?_, n, Nat.le_refl _, j + 1, rfl, hr, by omega, by omega⟩
    · simp only [e_ok, e_err, e_bad, e_okS, e_errS, e_badS, e_nx, e_rt, e_bk, e_ct, e_ex, e_bd, e_bind, e_pure, e_some, e_none, e_op1, e_op2, e_cons, e_test, e_callP, e_if, e_and, e_or, e_not, e_andV, e_orV, e_andT, e_andF, e_orT, e_orF, e_chain, e_chT, e_chF, e_part, e_sl, e_var, e_varF, e_varO, e_look, e_lookF, e_lookO, e_look1, e_argV, e_argS, e_slot, e_slotF, e_slotO, e_call, e_frz, e_lstO, e_listO, e_anyI, e_sThen, e_seq, e_next, e_brk, e_cnt, e_ret, e_drop, e_set, e_setO, e_ifS, e_raise, e_exn, e_for, boolP, partP, List.getElem?_cons_zero, List.getElem?_cons_succ, List.set_cons_zero, List.set_cons_succ, if_true, if_false, Bool.false_eq_true, Bool.not_true, Bool.not_false, e_vrt, e_vnx, e_xer, e_append, e_appS, e_appK, e_aug, e_augS, e_augK, e_pair, e_fr, e_ow, pSz, pLen, pAdd, frzO, sizeLine_eq, List.length_cons, List.length_nil, Nat.reduceAdd, Nat.reduceLeDiff, Nat.reduceLT, Nat.zero_add, Nat.zero_le, Nat.reduceSub, List.nil_append, List.cons_append, List.append_nil, List.map_cons, List.map_nil, List.replicate, lt_nat, if_pos h16, decide_eq_true hj, ix_str' hz hc, in_sign, hd]
    · simp only [e_ok, e_err, e_bad, e_okS, e_errS, e_badS, e_nx, e_rt, e_bk, e_ct, e_ex, e_bd, e_bind, e_pure, e_some, e_none, e_op1, e_op2, e_cons, e_test, e_callP, e_if, e_and, e_or, e_not, e_andV, e_orV, e_andT, e_andF, e_orT, e_orF, e_chain, e_chT, e_chF, e_part, e_sl, e_var, e_varF, e_varO, e_look, e_lookF, e_lookO, e_look1, e_argV, e_argS, e_slot, e_slotF, e_slotO, e_call, e_frz, e_lstO, e_listO, e_anyI, e_sThen, e_seq, e_next, e_brk, e_cnt, e_ret, e_drop, e_set, e_setO, e_ifS, e_raise, e_exn, e_for, boolP, partP, List.getElem?_cons_zero, List.getElem?_cons_succ, List.set_cons_zero, List.set_cons_succ, if_true, if_false, Bool.false_eq_true, Bool.not_true, Bool.not_false, e_vrt, e_vnx, e_xer, e_append, e_appS, e_appK, e_aug, e_augS, e_augK, e_pair, e_fr, e_ow, pSz, pLen, pAdd, frzO, sizeLine_eq, List.length_cons, List.length_nil, Nat.reduceAdd, Nat.reduceLeDiff, Nat.reduceLT, Nat.zero_add, Nat.zero_le, Nat.reduceSub, List.nil_append, List.cons_append, List.append_nil, List.map_cons, List.map_nil, List.replicate]
      rfl
def smallL : List Nat := ("abcdefghijklmnopqrstuvwxyz" : Str).cps.toList
def figL : List Nat := ("0123456789" : Str).cps.toList
def stepN (zl : List Nat) (i : Nat) : Nat := max 1 (max (runN zl smallL i) (runN zl figL i))
theorem runN_le (zl wl : List Nat) (i : Nat) : runN zl wl i ≤ zl.length - i := by
  unfold runN
  rw [← List.length_drop]
  exact (List.takeWhile_sublist _).length_le
theorem stepN_le {zl : List Nat} {i : Nat} (h : i < zl.length) : i + stepN zl i ≤ zl.length := by
  have h1 := runN_le zl smallL i
  have h2 := runN_le zl figL i
  unfold stepN
  omega
theorem stepN_pos (zl : List Nat) (i : Nat) : 1 ≤ stepN zl i := by unfold stepN; omega
theorem max3_step (zl : List Nat) (i : Nat) : pMax3 [.int (i + 1), .int ((i + runN zl smallL i : Nat) : Int), .int ((i + runN zl figL i : Nat) : Int)] = some (.int ((i + stepN zl i : Nat) : Int)) := by
  unfold stepN
  generalize runN zl smallL i = a
  generalize runN zl figL i = b
  show some (PV.int (if (if (i : Int) + 1 < ((i + a : Nat) : Int) then ((i + a : Nat) : Int) else (i : Int) + 1) < ((i + b : Nat) : Int) then ((i + b : Nat) : Int) else (if (i : Int) + 1 < ((i + a : Nat) : Int) then ((i + a : Nat) : Int) else (i : Int) + 1))) = _
  congr 2
  by_cases h1 : (i : Int) + 1 < ((i + a : Nat) : Int)
  · simp only [if_pos h1]
    split <;> omega
  · simp only [if_neg h1]
    split <;> omega
def strL (l : List Nat) : Str := ⟨l.toArray⟩
def toksAt (zl : List Nat) : Nat → Nat → List (List Nat)
  | 0, _ => []
  | f + 1, i => match zl[i]? with
    | none => []
    | some c => if c = 32 then toksAt zl f (i + 1) else (zl.drop i).take (stepN zl i) :: toksAt zl f (i + stepN zl i)
def toks (zl : List Nat) : List (List Nat) := toksAt zl zl.length 0
theorem toksAt_more {zl : List Nat} : ∀ {f f' i : Nat}, zl.length - i ≤ f → f ≤ f' → toksAt zl f' i = toksAt zl f i
  | 0, f', i, h, _ => by
    cases f' with
    | zero => rfl
    | succ f' =>
      unfold toksAt
      rw [List.getElem?_eq_none (by omega)]
  | f + 1, 0, i, _, h => by omega
  | f + 1, f' + 1, i, h, h2 => by
    unfold toksAt
    cases e : zl[i]? with
    | none => rfl
    | some c =>
      have hi := (List.getElem?_eq_some_iff.mp e).1
      have hp := stepN_pos zl i
      dsimp only
      rw [toksAt_more (f := f) (f' := f') (by omega) (by omega), toksAt_more (f := f) (f' := f') (i := i + stepN zl i) (by omega) (by omega)]
theorem is_space {c : Nat} : ((⟨#[c]⟩ : Str) == (" " : Str)) = decide (c = 32) := by
  have e : (" " : Str) = ⟨#[32]⟩ := by decide +kernel
  rw [e, Bool.eq_iff_iff]
  simp
theorem sl_cut {z : Str} {i n : Nat} (hz : z.length ≤ sizeLine) (hi : i + n ≤ z.length) : pSl (.str z) (some (i : Int)) (some ((i + n : Nat) : Int)) = some (.str (strL ((z.cps.toList.drop i).take n))) := by
  show (if z.length ≤ sizeLine then some (PV.str (cutS z (some (i : Int)) (some ((i + n : Nat) : Int)))) else none) = _
  rw [if_pos hz]
  unfold cutS strL
  have a1 : min i z.length = i := by omega
  have a2 : min (i + n) z.length = i + n := by omega
  rw [HT.sIx_nat, HT.sIx_nat, a1, a2, Nat.add_sub_cancel_left]
theorem ev_tokens (z : Str) (hz : z.length < 16777216) : Gives m_tokens_of [.str z] (.lst ((toks z.cps.toList).map fun l => .str (strL l))) := by
  refine gives_of ?_
  have hlen : z.cps.toList.length = z.length := by simp [Str.length]
  have h16 : z.length ≤ 16777216 := by omega
  have hsz : z.length ≤ sizeLine := by rw [sizeLine_eq]; exact h16
  generalize hzl : z.cps.toList = zl at *
  unfold b_tokens_of
  simp only [e_ok, e_err, e_bad, e_okS, e_errS, e_badS, e_nx, e_rt, e_bk, e_ct, e_ex, e_bd, e_bind, e_pure, e_some, e_none, e_op1, e_op2, e_cons, e_test, e_callP, e_if, e_and, e_or, e_not, e_andV, e_orV, e_andT, e_andF, e_orT, e_orF, e_chain, e_chT, e_chF, e_part, e_sl, e_var, e_varF, e_varO, e_look, e_lookF, e_lookO, e_look1, e_argV, e_argS, e_slot, e_slotF, e_slotO, e_call, e_frz, e_lstO, e_listO, e_anyI, e_sThen, e_seq, e_next, e_brk, e_cnt, e_ret, e_drop, e_set, e_setO, e_ifS, e_raise, e_exn, e_for, boolP, partP, List.getElem?_cons_zero, List.getElem?_cons_succ, List.set_cons_zero, List.set_cons_succ, if_true, if_false, Bool.false_eq_true, Bool.not_true, Bool.not_false, e_vrt, e_vnx, e_xer, e_append, e_appS, e_appK, e_aug, e_augS, e_augK, e_pair, e_fr, e_ow, pSz, pLen, pAdd, frzO, sizeLine_eq, List.length_cons, List.length_nil, Nat.reduceAdd, Nat.reduceLeDiff, Nat.reduceLT, Nat.zero_add, Nat.zero_le, Nat.reduceSub, List.nil_append, List.cons_append, List.append_nil, List.map_cons, List.map_nil, List.replicate]
  generalize hC : mTest (mOp2 pLt (mVar 2) (mCallP pLen (mCons (mVar 0) (M.pure [])))) = C
  generalize hB : mSeq (mIfS (mTest (mOp2 pEq (mOp2 pIx (mVar 0) (mVar 2)) (M.pure (.str " ")))) _ _) mNext = B
  have key := while_eval (c := C) (b := B)
    (inv := fun n ρ => ∃ (i : Nat) (acc : List PV) (s3 : Sl), ρ = [.fr (.str z), .ow (.lst acc), .fr (.int i), s3] ∧ n = zl.length - i ∧ i ≤ zl.length ∧ acc.length ≤ i ∧ acc ++ (toksAt zl n i).map (fun l => PV.str (strL l)) = (toks zl).map fun l => .str (strL l))
    (n := zl.length) (ρ := [.fr (.str z), .ow (.lst []), .fr (.int 0), .no]) ⟨0, [], .no, rfl, by omega, by omega, Nat.le_refl _, rfl⟩ ?_ ?_
  · obtain ⟨ρ', e, i, acc, s3, rfl, e2, e3, e4, e5⟩ := key
    rw [e]
    have e6 : acc = (toks zl).map fun l => .str (strL l) := by simpa [toksAt] using e5
    simp only [e_ok, e_err, e_bad, e_okS, e_errS, e_badS, e_nx, e_rt, e_bk, e_ct, e_ex, e_bd, e_bind, e_pure, e_some, e_none, e_op1, e_op2, e_cons, e_test, e_callP, e_if, e_and, e_or, e_not, e_andV, e_orV, e_andT, e_andF, e_orT, e_orF, e_chain, e_chT, e_chF, e_part, e_sl, e_var, e_varF, e_varO, e_look, e_lookF, e_lookO, e_look1, e_argV, e_argS, e_slot, e_slotF, e_slotO, e_call, e_frz, e_lstO, e_listO, e_anyI, e_sThen, e_seq, e_next, e_brk, e_cnt, e_ret, e_drop, e_set, e_setO, e_ifS, e_raise, e_exn, e_for, boolP, partP, List.getElem?_cons_zero, List.getElem?_cons_succ, List.set_cons_zero, List.set_cons_succ, if_true, if_false, Bool.false_eq_true, Bool.not_true, Bool.not_false, e_vrt, e_vnx, e_xer, e_append, e_appS, e_appK, e_aug, e_augS, e_augK, e_pair, e_fr, e_ow, pSz, pLen, pAdd, frzO, sizeLine_eq, List.length_cons, List.length_nil, Nat.reduceAdd, Nat.reduceLeDiff, Nat.reduceLT, Nat.zero_add, Nat.zero_le, Nat.reduceSub, List.nil_append, List.cons_append, List.append_nil, List.map_cons, List.map_nil, List.replicate, e6]
  · rintro ρ ⟨i, acc, s3, rfl, e1, e2, e3, e4⟩
    refine ⟨_, ?_, i, acc, s3, rfl, e1, e2, e3, e4⟩
    subst hC
    have hj : ¬ i < z.length := by omega
    simp only [e_ok, e_err, e_bad, e_okS, e_errS, e_badS, e_nx, e_rt, e_bk, e_ct, e_ex, e_bd, e_bind, e_pure, e_some, e_none, e_op1, e_op2, e_cons, e_test, e_callP, e_if, e_and, e_or, e_not, e_andV, e_orV, e_andT, e_andF, e_orT, e_orF, e_chain, e_chT, e_chF, e_part, e_sl, e_var, e_varF, e_varO, e_look, e_lookF, e_lookO, e_look1, e_argV, e_argS, e_slot, e_slotF, e_slotO, e_call, e_frz, e_lstO, e_listO, e_anyI, e_sThen, e_seq, e_next, e_brk, e_cnt, e_ret, e_drop, e_set, e_setO, e_ifS, e_raise, e_exn, e_for, boolP, partP, List.getElem?_cons_zero, List.getElem?_cons_succ, List.set_cons_zero, List.set_cons_succ, if_true, if_false, Bool.false_eq_true, Bool.not_true, Bool.not_false, e_vrt, e_vnx, e_xer, e_append, e_appS, e_appK, e_aug, e_augS, e_augK, e_pair, e_fr, e_ow, pSz, pLen, pAdd, frzO, sizeLine_eq, List.length_cons, List.length_nil, Nat.reduceAdd, Nat.reduceLeDiff, Nat.reduceLT, Nat.zero_add, Nat.zero_le, Nat.reduceSub, List.nil_append, List.cons_append, List.append_nil, List.map_cons, List.map_nil, List.replicate, lt_nat, if_pos h16, decide_eq_false hj]
  · rintro n ρ ⟨i, acc, s3, rfl, e1, e2, e3, e4⟩
    have hj : i < z.length := by omega
    have hi : i < zl.length := by omega
    have hc := List.getElem?_eq_getElem hi
    have hc' : z.cps.toList[i]? = some zl[i] := by rw [hzl]; exact hc
    refine ⟨[.fr (.str z), .ow (.lst acc), .fr (.int i), s3], ?_⟩
    by_cases hs : zl[i] = 32
    · refine ⟨[.fr (.str z), .ow (.lst acc), .fr (.int ((i + 1 : Nat) : Int)), s3], ?_, ?_, n, Nat.le_refl _, i + 1, acc, s3, rfl, by omega, by omega, by omega, ?_⟩
      · subst hC
        simp only [e_ok, e_err, e_bad, e_okS, e_errS, e_badS, e_nx, e_rt, e_bk, e_ct, e_ex, e_bd, e_bind, e_pure, e_some, e_none, e_op1, e_op2, e_cons, e_test, e_callP, e_if, e_and, e_or, e_not, e_andV, e_orV, e_andT, e_andF, e_orT, e_orF, e_chain, e_chT, e_chF, e_part, e_sl, e_var, e_varF, e_varO, e_look, e_lookF, e_lookO, e_look1, e_argV, e_argS, e_slot, e_slotF, e_slotO, e_call, e_frz, e_lstO, e_listO, e_anyI, e_sThen, e_seq, e_next, e_brk, e_cnt, e_ret, e_drop, e_set, e_setO, e_ifS, e_raise, e_exn, e_for, boolP, partP, List.getElem?_cons_zero, List.getElem?_cons_succ, List.set_cons_zero, List.set_cons_succ, if_true, if_false, Bool.false_eq_true, Bool.not_true, Bool.not_false, e_vrt, e_vnx, e_xer, e_append, e_appS, e_appK, e_aug, e_augS, e_augK, e_pair, e_fr, e_ow, pSz, pLen, pAdd, frzO, sizeLine_eq, List.length_cons, List.length_nil, Nat.reduceAdd, Nat.reduceLeDiff, Nat.reduceLT, Nat.zero_add, Nat.zero_le, Nat.reduceSub, List.nil_append, List.cons_append, List.append_nil, List.map_cons, List.map_nil, List.replicate, lt_nat, if_pos h16, decide_eq_true hj]
      · subst hB
        simp only [e_ok, e_err, e_bad, e_okS, e_errS, e_badS, e_nx, e_rt, e_bk, e_ct, e_ex, e_bd, e_bind, e_pure, e_some, e_none, e_op1, e_op2, e_cons, e_test, e_callP, e_if, e_and, e_or, e_not, e_andV, e_orV, e_andT, e_andF, e_orT, e_orF, e_chain, e_chT, e_chF, e_part, e_sl, e_var, e_varF, e_varO, e_look, e_lookF, e_lookO, e_look1, e_argV, e_argS, e_slot, e_slotF, e_slotO, e_call, e_frz, e_lstO, e_listO, e_anyI, e_sThen, e_seq, e_next, e_brk, e_cnt, e_ret, e_drop, e_set, e_setO, e_ifS, e_raise, e_exn, e_for, boolP, partP, List.getElem?_cons_zero, List.getElem?_cons_succ, List.set_cons_zero, List.set_cons_succ, if_true, if_false, Bool.false_eq_true, Bool.not_true, Bool.not_false, e_vrt, e_vnx, e_xer, e_append, e_appS, e_appK, e_aug, e_augS, e_augK, e_pair, e_fr, e_ow, pSz, pLen, pAdd, frzO, sizeLine_eq, List.length_cons, List.length_nil, Nat.reduceAdd, Nat.reduceLeDiff, Nat.reduceLT, Nat.zero_add, Nat.zero_le, Nat.reduceSub, List.nil_append, List.cons_append, List.append_nil, List.map_cons, List.map_nil, List.replicate, ix_str' hsz hc', q_eqS, is_space, decide_eq_true hs]
        rfl
      · rw [← e4]
        congr 2
        conv => rhs; unfold toksAt
        rw [hc]
        dsimp only
        rw [if_pos hs]
    · have hp := stepN_pos zl i
      have hle := stepN_le hi
      have r1 := ev_run z "abcdefghijklmnopqrstuvwxyz" i hsz (by omega)
      have r2 := ev_run z "0123456789" i hsz (by omega)
      rw [hzl] at r1 r2
      refine ⟨[.fr (.str z), .ow (.lst (acc ++ [.str (strL ((zl.drop i).take (stepN zl i)))])), .fr (.int ((i + stepN zl i : Nat) : Int)), .fr (.int ((i + stepN zl i : Nat) : Int))], ?_, ?_, zl.length - (i + stepN zl i), by omega, i + stepN zl i, _, _, rfl, rfl, hle, by simp; omega, ?_⟩
      · subst hC
        simp only [e_ok, e_err, e_bad, e_okS, e_errS, e_badS, e_nx, e_rt, e_bk, e_ct, e_ex, e_bd, e_bind, e_pure, e_some, e_none, e_op1, e_op2, e_cons, e_test, e_callP, e_if, e_and, e_or, e_not, e_andV, e_orV, e_andT, e_andF, e_orT, e_orF, e_chain, e_chT, e_chF, e_part, e_sl, e_var, e_varF, e_varO, e_look, e_lookF, e_lookO, e_look1, e_argV, e_argS, e_slot, e_slotF, e_slotO, e_call, e_frz, e_lstO, e_listO, e_anyI, e_sThen, e_seq, e_next, e_brk, e_cnt, e_ret, e_drop, e_set, e_setO, e_ifS, e_raise, e_exn, e_for, boolP, partP, List.getElem?_cons_zero, List.getElem?_cons_succ, List.set_cons_zero, List.set_cons_succ, if_true, if_false, Bool.false_eq_true, Bool.not_true, Bool.not_false, e_vrt, e_vnx, e_xer, e_append, e_appS, e_appK, e_aug, e_augS, e_augK, e_pair, e_fr, e_ow, pSz, pLen, pAdd, frzO, sizeLine_eq, List.length_cons, List.length_nil, Nat.reduceAdd, Nat.reduceLeDiff, Nat.reduceLT, Nat.zero_add, Nat.zero_le, Nat.reduceSub, List.nil_append, List.cons_append, List.append_nil, List.map_cons, List.map_nil, List.replicate, lt_nat, if_pos h16, decide_eq_true hj]
      · subst hB
        have m3 := max3_step zl i
        have sl := sl_cut (z := z) (i := i) (n := stepN zl i) hsz (by omega)
        rw [hzl] at sl
        have hacc : acc.length < 16777216 := by omega
        unfold smallL figL at m3
        simp only [e_ok, e_err, e_bad, e_okS, e_errS, e_badS, e_nx, e_rt, e_bk, e_ct, e_ex, e_bd, e_bind, e_pure, e_some, e_none, e_op1, e_op2, e_cons, e_test, e_callP, e_if, e_and, e_or, e_not, e_andV, e_orV, e_andT, e_andF, e_orT, e_orF, e_chain, e_chT, e_chF, e_part, e_sl, e_var, e_varF, e_varO, e_look, e_lookF, e_lookO, e_look1, e_argV, e_argS, e_slot, e_slotF, e_slotO, e_call, e_frz, e_lstO, e_listO, e_anyI, e_sThen, e_seq, e_next, e_brk, e_cnt, e_ret, e_drop, e_set, e_setO, e_ifS, e_raise, e_exn, e_for, boolP, partP, List.getElem?_cons_zero, List.getElem?_cons_succ, List.set_cons_zero, List.set_cons_succ, if_true, if_false, Bool.false_eq_true, Bool.not_true, Bool.not_false, e_vrt, e_vnx, e_xer, e_append, e_appS, e_appK, e_aug, e_augS, e_augK, e_pair, e_fr, e_ow, pSz, pLen, pAdd, frzO, sizeLine_eq, List.length_cons, List.length_nil, Nat.reduceAdd, Nat.reduceLeDiff, Nat.reduceLT, Nat.zero_add, Nat.zero_le, Nat.reduceSub, List.nil_append, List.cons_append, List.append_nil, List.map_cons, List.map_nil, List.replicate, ix_str' hsz hc', q_eqS, is_space, decide_eq_false hs, g_SMALL, g_FIGURES, c3 r1, c3 r2, m3, sl, if_pos hacc]
      · rw [← e4]
        conv => rhs; unfold toksAt
        rw [hc]
        dsimp only
        rw [if_neg hs, List.map_cons, List.append_assoc, List.singleton_append]
        rw [toksAt_more (f := zl.length - (i + stepN zl i)) (f' := n) (by omega) (by omega)]
theorem boolsP_map {α : Type} (t : α → Bool) : ∀ l : List α, boolsP (l.map fun c => PV.bl (t c)) = some (l.map t)
  | [] => rfl
  | c :: l => by
    show (boolsP (l.map fun c => PV.bl (t c))).map (t c :: ·) = _
    rw [boolsP_map t l]; rfl
theorem all_id {α : Type} (t : α → Bool) (l : List α) : (l.map t).all id = l.all t := by rw [List.all_map]; rfl
def signF (p : PV) : PV := (pIn p g_FIGURES).getD .non
theorem sign_fig {c : Nat} : pIn (.str ⟨#[c]⟩) g_FIGURES = some (.bl (decide (c ∈ figL))) := in_sign
theorem signF_chr {c : Nat} : signF (.str ⟨#[c]⟩) = .bl (decide (c ∈ figL)) := by unfold signF; rw [sign_fig]; rfl
theorem pAll_sign (z : Str) : pAll [.lst ((chrP z).map signF)] = some (.bl (z.cps.toList.all fun c => decide (c ∈ figL))) := by
  show (boolsP ((chrP z).map signF)).map (fun bs => PV.bl (bs.all id)) = _
  unfold chrP
  rw [List.map_map, show (signF ∘ fun c : Nat => PV.str ⟨#[c]⟩) = fun c => PV.bl (decide (c ∈ figL)) from funext fun c => signF_chr, boolsP_map, Option.map_some, all_id]
theorem chr_of {z : Str} {p : PV} (h : p ∈ chrP z) : ∃ c, p = .str ⟨#[c]⟩ ∧ c ∈ z.cps.toList := by
  obtain ⟨c, hc, rfl⟩ := List.mem_map.mp h
  exact ⟨c, rfl, hc⟩
theorem chrP_len (z : Str) : (chrP z).length = z.length := by simp [chrP, Str.length]
def isNum (l : List Nat) (most : Nat) : Bool := decide (l ≠ []) && decide (l.length ≤ most) && (l.all fun c => decide (c ∈ figL)) && (decide (l = [48]) || decide (l[0]? ≠ some 48))
theorem str_eq0 {l : List Nat} : (strL l == ("" : Str)) = decide (l = []) := by
  have e : ("" : Str) = strL [] := by decide +kernel
  rw [e, Bool.eq_iff_iff]
  simp [strL]
theorem str_eq1 {l : List Nat} : (strL l == ("0" : Str)) = decide (l = [48]) := by
  have e : ("0" : Str) = strL [48] := by decide +kernel
  rw [e, Bool.eq_iff_iff]
  simp [strL]
theorem sign_eq0 {c : Nat} : ((⟨#[c]⟩ : Str) == ("0" : Str)) = decide (c = 48) := by
  have e : ("0" : Str) = ⟨#[48]⟩ := by decide +kernel
  rw [e, Bool.eq_iff_iff]
  simp
theorem ev_numeral (l : List Nat) (most : Nat) (hz : l.length < 16777216) : Gives m_is_numeral [.str (strL l), .int most] (.bl (isNum l most)) := by
  refine gives_of ?_
  have h16 : (strL l).length ≤ 16777216 := by show l.toArray.size ≤ _; rw [List.size_toArray]; omega
  have hlen : (strL l).length = l.length := by show l.toArray.size = _; rw [List.size_toArray]
  have comp : ∀ s, mComp [2] (mAnyI (mVar 0)) (gSlot 2) (M.pure true) (mOp2 pIn (mVar 2) (M.pure g_FIGURES)) [.fr (.str (strL l)), s, .no] = .ok (.lst ((chrP (strL l)).map signF)) [.fr (.str (strL l)), s, .no] := fun s => by
    rw [comp_all (ρ1 := [.fr (.str (strL l)), s, .no]) (ps := chrP (strL l)) signF]
    · rfl
    · simp only [e_ok, e_err, e_bad, e_okS, e_errS, e_badS, e_nx, e_rt, e_bk, e_ct, e_ex, e_bd, e_bind, e_pure, e_some, e_none, e_op1, e_op2, e_cons, e_test, e_callP, e_if, e_and, e_or, e_not, e_andV, e_orV, e_andT, e_andF, e_orT, e_orF, e_chain, e_chT, e_chF, e_part, e_sl, e_var, e_varF, e_varO, e_look, e_lookF, e_lookO, e_look1, e_argV, e_argS, e_slot, e_slotF, e_slotO, e_call, e_frz, e_lstO, e_listO, e_anyI, e_sThen, e_seq, e_next, e_brk, e_cnt, e_ret, e_drop, e_set, e_setO, e_ifS, e_raise, e_exn, e_for, boolP, partP, List.getElem?_cons_zero, List.getElem?_cons_succ, List.set_cons_zero, List.set_cons_succ, if_true, if_false, Bool.false_eq_true, Bool.not_true, Bool.not_false, e_vrt, e_vnx, e_xer, e_append, e_appS, e_appK, e_aug, e_augS, e_augK, e_pair, e_fr, e_ow, pSz, pLen, pAdd, frzO, sizeLine_eq, List.length_cons, List.length_nil, Nat.reduceAdd, Nat.reduceLeDiff, Nat.reduceLT, Nat.zero_add, Nat.zero_le, Nat.reduceSub, List.nil_append, List.cons_append, List.append_nil, List.map_cons, List.map_nil, List.replicate, anyP]
    · rw [chrP_len, sizeLine_eq]; exact h16
    · intro p hp
      obtain ⟨c, rfl, _⟩ := chr_of hp
      refine ⟨[.fr (.str (strL l)), s, .fr (.str ⟨#[c]⟩)], [.fr (.str (strL l)), s, .fr (.str ⟨#[c]⟩)], rfl, ?_, rfl⟩
      simp only [e_ok, e_err, e_bad, e_okS, e_errS, e_badS, e_nx, e_rt, e_bk, e_ct, e_ex, e_bd, e_bind, e_pure, e_some, e_none, e_op1, e_op2, e_cons, e_test, e_callP, e_if, e_and, e_or, e_not, e_andV, e_orV, e_andT, e_andF, e_orT, e_orF, e_chain, e_chT, e_chF, e_part, e_sl, e_var, e_varF, e_varO, e_look, e_lookF, e_lookO, e_look1, e_argV, e_argS, e_slot, e_slotF, e_slotO, e_call, e_frz, e_lstO, e_listO, e_anyI, e_sThen, e_seq, e_next, e_brk, e_cnt, e_ret, e_drop, e_set, e_setO, e_ifS, e_raise, e_exn, e_for, boolP, partP, List.getElem?_cons_zero, List.getElem?_cons_succ, List.set_cons_zero, List.set_cons_succ, if_true, if_false, Bool.false_eq_true, Bool.not_true, Bool.not_false, e_vrt, e_vnx, e_xer, e_append, e_appS, e_appK, e_aug, e_augS, e_augK, e_pair, e_fr, e_ow, pSz, pLen, pAdd, frzO, sizeLine_eq, List.length_cons, List.length_nil, Nat.reduceAdd, Nat.reduceLeDiff, Nat.reduceLT, Nat.zero_add, Nat.zero_le, Nat.reduceSub, List.nil_append, List.cons_append, List.append_nil, List.map_cons, List.map_nil, List.replicate, sign_fig, signF_chr]
  have gt : pGt (.int ((strL l).length : Int)) (.int (most : Int)) = some (.bl (decide (most < l.length))) := by
    show some (PV.bl (decide ((most : Int) < ((strL l).length : Int)))) = _
    rw [hlen, show decide ((most : Int) < (l.length : Int)) = decide (most < l.length) from decide_eq_decide.mpr (by omega)]
  have e0 : (strL l == ("" : Str)) = decide (l = []) := str_eq0
  have e1 : (strL l == ("0" : Str)) = decide (l = [48]) := str_eq1
  have al : pAll [.lst ((chrP (strL l)).map signF)] = some (.bl (l.all fun c => decide (c ∈ figL))) := by rw [pAll_sign]; rfl
  by_cases h0 : l = []
  · simp only [b_is_numeral, e_ok, e_err, e_bad, e_okS, e_errS, e_badS, e_nx, e_rt, e_bk, e_ct, e_ex, e_bd, e_bind, e_pure, e_some, e_none, e_op1, e_op2, e_cons, e_test, e_callP, e_if, e_and, e_or, e_not, e_andV, e_orV, e_andT, e_andF, e_orT, e_orF, e_chain, e_chT, e_chF, e_part, e_sl, e_var, e_varF, e_varO, e_look, e_lookF, e_lookO, e_look1, e_argV, e_argS, e_slot, e_slotF, e_slotO, e_call, e_frz, e_lstO, e_listO, e_anyI, e_sThen, e_seq, e_next, e_brk, e_cnt, e_ret, e_drop, e_set, e_setO, e_ifS, e_raise, e_exn, e_for, boolP, partP, List.getElem?_cons_zero, List.getElem?_cons_succ, List.set_cons_zero, List.set_cons_succ, if_true, if_false, Bool.false_eq_true, Bool.not_true, Bool.not_false, e_vrt, e_vnx, e_xer, e_append, e_appS, e_appK, e_aug, e_augS, e_augK, e_pair, e_fr, e_ow, pSz, pLen, pAdd, frzO, sizeLine_eq, List.length_cons, List.length_nil, Nat.reduceAdd, Nat.reduceLeDiff, Nat.reduceLT, Nat.zero_add, Nat.zero_le, Nat.reduceSub, List.nil_append, List.cons_append, List.append_nil, List.map_cons, List.map_nil, List.replicate, q_eqS, e0, decide_eq_true h0]
    subst h0
    rfl
  · by_cases h1 : most < l.length
    · simp only [b_is_numeral, e_ok, e_err, e_bad, e_okS, e_errS, e_badS, e_nx, e_rt, e_bk, e_ct, e_ex, e_bd, e_bind, e_pure, e_some, e_none, e_op1, e_op2, e_cons, e_test, e_callP, e_if, e_and, e_or, e_not, e_andV, e_orV, e_andT, e_andF, e_orT, e_orF, e_chain, e_chT, e_chF, e_part, e_sl, e_var, e_varF, e_varO, e_look, e_lookF, e_lookO, e_look1, e_argV, e_argS, e_slot, e_slotF, e_slotO, e_call, e_frz, e_lstO, e_listO, e_anyI, e_sThen, e_seq, e_next, e_brk, e_cnt, e_ret, e_drop, e_set, e_setO, e_ifS, e_raise, e_exn, e_for, boolP, partP, List.getElem?_cons_zero, List.getElem?_cons_succ, List.set_cons_zero, List.set_cons_succ, if_true, if_false, Bool.false_eq_true, Bool.not_true, Bool.not_false, e_vrt, e_vnx, e_xer, e_append, e_appS, e_appK, e_aug, e_augS, e_augK, e_pair, e_fr, e_ow, pSz, pLen, pAdd, frzO, sizeLine_eq, List.length_cons, List.length_nil, Nat.reduceAdd, Nat.reduceLeDiff, Nat.reduceLT, Nat.zero_add, Nat.zero_le, Nat.reduceSub, List.nil_append, List.cons_append, List.append_nil, List.map_cons, List.map_nil, List.replicate, if_pos h16, q_eqS, e0, decide_eq_false h0, gt, decide_eq_true h1]
      have : decide (l.length ≤ most) = false := decide_eq_false (by omega)
      simp [isNum, this]
    · cases h2 : l.all fun c => decide (c ∈ figL) with
      | false =>
        simp only [b_is_numeral, e_ok, e_err, e_bad, e_okS, e_errS, e_badS, e_nx, e_rt, e_bk, e_ct, e_ex, e_bd, e_bind, e_pure, e_some, e_none, e_op1, e_op2, e_cons, e_test, e_callP, e_if, e_and, e_or, e_not, e_andV, e_orV, e_andT, e_andF, e_orT, e_orF, e_chain, e_chT, e_chF, e_part, e_sl, e_var, e_varF, e_varO, e_look, e_lookF, e_lookO, e_look1, e_argV, e_argS, e_slot, e_slotF, e_slotO, e_call, e_frz, e_lstO, e_listO, e_anyI, e_sThen, e_seq, e_next, e_brk, e_cnt, e_ret, e_drop, e_set, e_setO, e_ifS, e_raise, e_exn, e_for, boolP, partP, List.getElem?_cons_zero, List.getElem?_cons_succ, List.set_cons_zero, List.set_cons_succ, if_true, if_false, Bool.false_eq_true, Bool.not_true, Bool.not_false, e_vrt, e_vnx, e_xer, e_append, e_appS, e_appK, e_aug, e_augS, e_augK, e_pair, e_fr, e_ow, pSz, pLen, pAdd, frzO, sizeLine_eq, List.length_cons, List.length_nil, Nat.reduceAdd, Nat.reduceLeDiff, Nat.reduceLT, Nat.zero_add, Nat.zero_le, Nat.reduceSub, List.nil_append, List.cons_append, List.append_nil, List.map_cons, List.map_nil, List.replicate, comp, if_pos h16, q_eqS, e0, decide_eq_false h0, gt, decide_eq_false h1, al, h2]
        simp [isNum, h2]
      | true =>
        obtain ⟨c, hc⟩ : ∃ c, l[0]? = some c := by
          cases l with
          | nil => exact (h0 rfl).elim
          | cons c r => exact ⟨c, rfl⟩
        have ix : pIx (.str (strL l)) (.int 0) = some (.str ⟨#[c]⟩) := ix_str' (j := 0) (by rw [sizeLine_eq]; exact h16) hc
        have e2 : ((⟨#[c]⟩ : Str) == ("0" : Str)) = decide (c = 48) := sign_eq0
        have le : decide (l.length ≤ most) = true := decide_eq_true (by omega)
        by_cases h3 : l = [48]
        · simp only [b_is_numeral, e_ok, e_err, e_bad, e_okS, e_errS, e_badS, e_nx, e_rt, e_bk, e_ct, e_ex, e_bd, e_bind, e_pure, e_some, e_none, e_op1, e_op2, e_cons, e_test, e_callP, e_if, e_and, e_or, e_not, e_andV, e_orV, e_andT, e_andF, e_orT, e_orF, e_chain, e_chT, e_chF, e_part, e_sl, e_var, e_varF, e_varO, e_look, e_lookF, e_lookO, e_look1, e_argV, e_argS, e_slot, e_slotF, e_slotO, e_call, e_frz, e_lstO, e_listO, e_anyI, e_sThen, e_seq, e_next, e_brk, e_cnt, e_ret, e_drop, e_set, e_setO, e_ifS, e_raise, e_exn, e_for, boolP, partP, List.getElem?_cons_zero, List.getElem?_cons_succ, List.set_cons_zero, List.set_cons_succ, if_true, if_false, Bool.false_eq_true, Bool.not_true, Bool.not_false, e_vrt, e_vnx, e_xer, e_append, e_appS, e_appK, e_aug, e_augS, e_augK, e_pair, e_fr, e_ow, pSz, pLen, pAdd, frzO, sizeLine_eq, List.length_cons, List.length_nil, Nat.reduceAdd, Nat.reduceLeDiff, Nat.reduceLT, Nat.zero_add, Nat.zero_le, Nat.reduceSub, List.nil_append, List.cons_append, List.append_nil, List.map_cons, List.map_nil, List.replicate, comp, if_pos h16, q_eqS, q_neS, e0, e1, decide_eq_false h0, gt, decide_eq_false h1, al, h2, decide_eq_true h3]
          simp only [isNum, h2, le, decide_eq_true h3, decide_eq_true h0]
          rfl
        · simp only [b_is_numeral, e_ok, e_err, e_bad, e_okS, e_errS, e_badS, e_nx, e_rt, e_bk, e_ct, e_ex, e_bd, e_bind, e_pure, e_some, e_none, e_op1, e_op2, e_cons, e_test, e_callP, e_if, e_and, e_or, e_not, e_andV, e_orV, e_andT, e_andF, e_orT, e_orF, e_chain, e_chT, e_chF, e_part, e_sl, e_var, e_varF, e_varO, e_look, e_lookF, e_lookO, e_look1, e_argV, e_argS, e_slot, e_slotF, e_slotO, e_call, e_frz, e_lstO, e_listO, e_anyI, e_sThen, e_seq, e_next, e_brk, e_cnt, e_ret, e_drop, e_set, e_setO, e_ifS, e_raise, e_exn, e_for, boolP, partP, List.getElem?_cons_zero, List.getElem?_cons_succ, List.set_cons_zero, List.set_cons_succ, if_true, if_false, Bool.false_eq_true, Bool.not_true, Bool.not_false, e_vrt, e_vnx, e_xer, e_append, e_appS, e_appK, e_aug, e_augS, e_augK, e_pair, e_fr, e_ow, pSz, pLen, pAdd, frzO, sizeLine_eq, List.length_cons, List.length_nil, Nat.reduceAdd, Nat.reduceLeDiff, Nat.reduceLT, Nat.zero_add, Nat.zero_le, Nat.reduceSub, List.nil_append, List.cons_append, List.append_nil, List.map_cons, List.map_nil, List.replicate, comp, if_pos h16, q_eqS, q_neS, e0, e1, decide_eq_false h0, gt, decide_eq_false h1, al, h2, decide_eq_false h3, ix, e2]
          simp [isNum, h2, le, h3, h0, hc]
theorem int_one : ∀ c ∈ figL, PySem.intText? ⟨#[c]⟩ = some ((c : Int) - 48) := by decide +kernel
theorem int_two : ∀ c ∈ figL, ∀ d ∈ figL, PySem.intText? (strL [c, d]) = some (10 * ((c : Int) - 48) + ((d : Int) - 48)) := by decide +kernel
theorem fig_range : ∀ c ∈ figL, 48 ≤ c ∧ c ≤ 57 := by decide +kernel
def numV : List Nat → Int
  | [c] => (c : Int) - 48
  | [c, d] => 10 * ((c : Int) - 48) + ((d : Int) - 48)
  | _ => 0
theorem num_int {l : List Nat} (h : isNum l 2 = true) : pInt [.str (strL l)] = some (.int (numV l)) ∧ 0 ≤ numV l ∧ numV l ≤ 99 := by
  unfold isNum at h
  simp only [Bool.and_eq_true, decide_eq_true_eq, List.all_eq_true] at h
  obtain ⟨⟨⟨h1, h2⟩, h3⟩, _⟩ := h
  match l, h1, h2, h3 with
  | [c], _, _, h3 =>
    have hc := h3 c List.mem_cons_self
    obtain ⟨a, b⟩ := fig_range c hc
    refine ⟨?_, by show (0 : Int) ≤ (c : Int) - 48; omega, by show (c : Int) - 48 ≤ 99; omega⟩
    show (if (strL [c]).length ≤ 640 then (PySem.intText? (strL [c])).map PV.int else none) = _
    rw [if_pos (by show 1 ≤ 640; omega), show strL [c] = ⟨#[c]⟩ from rfl, int_one c hc]; rfl
  | [c, d], _, _, h3 =>
    have hc := h3 c List.mem_cons_self
    have hd := h3 d (List.mem_cons_of_mem _ List.mem_cons_self)
    obtain ⟨a, b⟩ := fig_range c hc
    obtain ⟨a2, b2⟩ := fig_range d hd
    refine ⟨?_, by show (0 : Int) ≤ 10 * ((c : Int) - 48) + ((d : Int) - 48); omega, by show 10 * ((c : Int) - 48) + ((d : Int) - 48) ≤ 99; omega⟩
    show (if (strL [c, d]).length ≤ 640 then (PySem.intText? (strL [c, d])).map PV.int else none) = _
    rw [if_pos (by show 2 ≤ 640; omega), int_two c hc d hd]; rfl
  | _ :: _ :: _ :: _, _, h2, _ => simp at h2
def bad (t l : Int) : Exn := ⟨"BadText", ["token", "line"], [.int t, .int l]⟩
abbrev S (l : List Nat) : PV := .str (strL l)
theorem ix_tok {ts : List (List Nat)} {i : Nat} {l : List Nat} (h : ts[i]? = some l) : pIx (.lst (ts.map S)) (.int i) = some (S l) := by
  show atI (ts.map S) i = some (S l)
  exact atI_nat (by rw [List.getElem?_map, h]; rfl)
theorem ge_nat {i j : Nat} : pGe (.int i) (.int j) = some (.bl (decide (j ≤ i))) := by
  show some (PV.bl (decide ((j : Int) ≤ (i : Int)))) = _
  rw [show decide ((j : Int) ≤ (i : Int)) = decide (j ≤ i) from decide_eq_decide.mpr (by omega)]
theorem le_int {i j : Int} : pLe (.int i) (.int j) = some (.bl (decide (i ≤ j))) := rfl
theorem ev_readnum {ts : List (List Nat)} {i : Nat} {line : Int} {l : List Nat} (hl : ts[i]? = some l) (hz : l.length < 16777216) (hn : isNum l 2 = true) : Gives m_read_numeral [.lst (ts.map S), .int i, .int line, .int 0, .int 99] (.int (numV l)) := by
  refine gives_of ?_
  obtain ⟨h1, h2, h3⟩ := num_int hn
  have hi : ¬ ts.length ≤ i := by
    have := (List.getElem?_eq_some_iff.mp hl).1
    omega
  have nm : Gives m_is_numeral [S l, .int 2] (.bl true) := by
    have := ev_numeral l 2 hz
    rw [hn] at this
    exact this
  simp only [b_read_numeral, e_ok, e_err, e_bad, e_okS, e_errS, e_badS, e_nx, e_rt, e_bk, e_ct, e_ex, e_bd, e_bind, e_pure, e_some, e_none, e_op1, e_op2, e_cons, e_test, e_callP, e_if, e_and, e_or, e_not, e_andV, e_orV, e_andT, e_andF, e_orT, e_orF, e_chain, e_chT, e_chF, e_part, e_sl, e_var, e_varF, e_varO, e_look, e_lookF, e_lookO, e_look1, e_argV, e_argS, e_slot, e_slotF, e_slotO, e_call, e_frz, e_lstO, e_listO, e_anyI, e_sThen, e_seq, e_next, e_brk, e_cnt, e_ret, e_drop, e_set, e_setO, e_ifS, e_raise, e_exn, e_for, boolP, partP, List.getElem?_cons_zero, List.getElem?_cons_succ, List.set_cons_zero, List.set_cons_succ, if_true, if_false, Bool.false_eq_true, Bool.not_true, Bool.not_false, e_vrt, e_vnx, e_xer, e_append, e_appS, e_appK, e_aug, e_augS, e_augK, e_pair, e_fr, e_ow, pSz, pLen, pAdd, frzO, sizeLine_eq, List.length_cons, List.length_nil, Nat.reduceAdd, Nat.reduceLeDiff, Nat.reduceLT, Nat.zero_add, Nat.zero_le, Nat.reduceSub, List.nil_append, List.cons_append, List.append_nil, List.map_cons, List.map_nil, List.replicate, g_MOST_FIGURES, List.length_map, ge_nat, decide_eq_false hi, ix_tok hl, c2 nm, h1, le_int, decide_eq_true h2, decide_eq_true h3]
theorem ev_readnum_bad {ts : List (List Nat)} {i : Nat} {line : Int} (hz : ∀ l ∈ ts, l.length < 16777216) (h : ∀ l, ts[i]? = some l → isNum l 2 = false) : Throws m_read_numeral [.lst (ts.map S), .int i, .int line, .int 0, .int 99] (bad (i + 1) line) := by
  refine throws_of ?_
  cases hl : ts[i]? with
  | none =>
    have hi : ts.length ≤ i := List.getElem?_eq_none_iff.mp hl
    simp only [b_read_numeral, e_ok, e_err, e_bad, e_okS, e_errS, e_badS, e_nx, e_rt, e_bk, e_ct, e_ex, e_bd, e_bind, e_pure, e_some, e_none, e_op1, e_op2, e_cons, e_test, e_callP, e_if, e_and, e_or, e_not, e_andV, e_orV, e_andT, e_andF, e_orT, e_orF, e_chain, e_chT, e_chF, e_part, e_sl, e_var, e_varF, e_varO, e_look, e_lookF, e_lookO, e_look1, e_argV, e_argS, e_slot, e_slotF, e_slotO, e_call, e_frz, e_lstO, e_listO, e_anyI, e_sThen, e_seq, e_next, e_brk, e_cnt, e_ret, e_drop, e_set, e_setO, e_ifS, e_raise, e_exn, e_for, boolP, partP, List.getElem?_cons_zero, List.getElem?_cons_succ, List.set_cons_zero, List.set_cons_succ, if_true, if_false, Bool.false_eq_true, Bool.not_true, Bool.not_false, e_vrt, e_vnx, e_xer, e_append, e_appS, e_appK, e_aug, e_augS, e_augK, e_pair, e_fr, e_ow, pSz, pLen, pAdd, frzO, sizeLine_eq, List.length_cons, List.length_nil, Nat.reduceAdd, Nat.reduceLeDiff, Nat.reduceLT, Nat.zero_add, Nat.zero_le, Nat.reduceSub, List.nil_append, List.cons_append, List.append_nil, List.map_cons, List.map_nil, List.replicate, List.length_map, ge_nat, decide_eq_true hi, List.reverse_cons, List.reverse_nil, and_self]
    rfl
  | some l =>
    have hi : ¬ ts.length ≤ i := by
      have := (List.getElem?_eq_some_iff.mp hl).1
      omega
    have nm : Gives m_is_numeral [S l, .int 2] (.bl false) := by
      have := ev_numeral l 2 (hz l (List.mem_of_getElem? hl))
      rw [h l hl] at this
      exact this
    simp only [b_read_numeral, e_ok, e_err, e_bad, e_okS, e_errS, e_badS, e_nx, e_rt, e_bk, e_ct, e_ex, e_bd, e_bind, e_pure, e_some, e_none, e_op1, e_op2, e_cons, e_test, e_callP, e_if, e_and, e_or, e_not, e_andV, e_orV, e_andT, e_andF, e_orT, e_orF, e_chain, e_chT, e_chF, e_part, e_sl, e_var, e_varF, e_varO, e_look, e_lookF, e_lookO, e_look1, e_argV, e_argS, e_slot, e_slotF, e_slotO, e_call, e_frz, e_lstO, e_listO, e_anyI, e_sThen, e_seq, e_next, e_brk, e_cnt, e_ret, e_drop, e_set, e_setO, e_ifS, e_raise, e_exn, e_for, boolP, partP, List.getElem?_cons_zero, List.getElem?_cons_succ, List.set_cons_zero, List.set_cons_succ, if_true, if_false, Bool.false_eq_true, Bool.not_true, Bool.not_false, e_vrt, e_vnx, e_xer, e_append, e_appS, e_appK, e_aug, e_augS, e_augK, e_pair, e_fr, e_ow, pSz, pLen, pAdd, frzO, sizeLine_eq, List.length_cons, List.length_nil, Nat.reduceAdd, Nat.reduceLeDiff, Nat.reduceLT, Nat.zero_add, Nat.zero_le, Nat.reduceSub, List.nil_append, List.cons_append, List.append_nil, List.map_cons, List.map_nil, List.replicate, g_MOST_FIGURES, List.length_map, ge_nat, decide_eq_false hi, ix_tok hl, c2 nm, List.reverse_cons, List.reverse_nil, and_self]
    rfl
def isLet (l : List Nat) : Bool := decide (l ≠ []) && decide (l.length ≤ 60) && (l.all fun c => decide (c ∈ figL))
def ltF (p : PV) : PV := (pInt [p]).elim .non fun q => (pLt q (.int 10)).getD .non
theorem int_sign {c : Nat} (h : c ∈ figL) : pInt [.str ⟨#[c]⟩] = some (.int ((c : Int) - 48)) := by
  show (if (⟨#[c]⟩ : Str).length ≤ 640 then (PySem.intText? ⟨#[c]⟩).map PV.int else none) = _
  rw [if_pos (by show 1 ≤ 640; omega), int_one c h]; rfl
theorem lt_ten {c : Nat} (h : c ∈ figL) : pLt (.int ((c : Int) - 48)) (.int 10) = some (.bl true) := by
  have := fig_range c h
  show some (PV.bl (decide ((c : Int) - 48 < 10))) = _
  rw [decide_eq_true (by omega)]
theorem ltF_chr {c : Nat} (h : c ∈ figL) : ltF (.str ⟨#[c]⟩) = .bl true := by
  unfold ltF
  rw [int_sign h]
  show (pLt (.int ((c : Int) - 48)) (.int 10)).getD .non = _
  rw [lt_ten h]; rfl
theorem pAll_true {α : Type} {f : α → PV} : ∀ {l : List α}, (∀ c ∈ l, f c = .bl true) → pAll [.lst (l.map f)] = some (.bl true) := fun {l} h => by
  have e : l.map f = l.map fun _ => PV.bl true := List.map_congr_left h
  rw [e]
  show (boolsP (l.map fun _ => PV.bl true)).map (fun bs => PV.bl (bs.all id)) = _
  rw [boolsP_map (fun _ => true), Option.map_some, all_id]
  simp
theorem ev_letters (l : List Nat) (hz : l.length < 16777216) : Gives m_is_letters [.str (strL l), .int 10, .int 60] (.bl (isLet l)) := by
  refine gives_of ?_
  have h16 : (strL l).length ≤ 16777216 := by show l.toArray.size ≤ _; rw [List.size_toArray]; omega
  have hlen : (strL l).length = l.length := by show l.toArray.size = _; rw [List.size_toArray]
  have comp : ∀ s t, mComp [3] (mAnyI (mVar 0)) (gSlot 3) (M.pure true) (mOp2 pIn (mVar 3) (M.pure g_FIGURES)) [.fr (.str (strL l)), s, t, .no] = .ok (.lst ((chrP (strL l)).map signF)) [.fr (.str (strL l)), s, t, .no] := fun s t => by
    rw [comp_all (ρ1 := [.fr (.str (strL l)), s, t, .no]) (ps := chrP (strL l)) signF]
    · rfl
    · simp only [e_ok, e_err, e_bad, e_okS, e_errS, e_badS, e_nx, e_rt, e_bk, e_ct, e_ex, e_bd, e_bind, e_pure, e_some, e_none, e_op1, e_op2, e_cons, e_test, e_callP, e_if, e_and, e_or, e_not, e_andV, e_orV, e_andT, e_andF, e_orT, e_orF, e_chain, e_chT, e_chF, e_part, e_sl, e_var, e_varF, e_varO, e_look, e_lookF, e_lookO, e_look1, e_argV, e_argS, e_slot, e_slotF, e_slotO, e_call, e_frz, e_lstO, e_listO, e_anyI, e_sThen, e_seq, e_next, e_brk, e_cnt, e_ret, e_drop, e_set, e_setO, e_ifS, e_raise, e_exn, e_for, boolP, partP, List.getElem?_cons_zero, List.getElem?_cons_succ, List.set_cons_zero, List.set_cons_succ, if_true, if_false, Bool.false_eq_true, Bool.not_true, Bool.not_false, e_vrt, e_vnx, e_xer, e_append, e_appS, e_appK, e_aug, e_augS, e_augK, e_pair, e_fr, e_ow, pSz, pLen, pAdd, frzO, sizeLine_eq, List.length_cons, List.length_nil, Nat.reduceAdd, Nat.reduceLeDiff, Nat.reduceLT, Nat.zero_add, Nat.zero_le, Nat.reduceSub, List.nil_append, List.cons_append, List.append_nil, List.map_cons, List.map_nil, List.replicate, anyP]
    · rw [chrP_len, sizeLine_eq]; exact h16
    · intro p hp
      obtain ⟨c, rfl, _⟩ := chr_of hp
      refine ⟨[.fr (.str (strL l)), s, t, .fr (.str ⟨#[c]⟩)], [.fr (.str (strL l)), s, t, .fr (.str ⟨#[c]⟩)], rfl, ?_, rfl⟩
      simp only [e_ok, e_err, e_bad, e_okS, e_errS, e_badS, e_nx, e_rt, e_bk, e_ct, e_ex, e_bd, e_bind, e_pure, e_some, e_none, e_op1, e_op2, e_cons, e_test, e_callP, e_if, e_and, e_or, e_not, e_andV, e_orV, e_andT, e_andF, e_orT, e_orF, e_chain, e_chT, e_chF, e_part, e_sl, e_var, e_varF, e_varO, e_look, e_lookF, e_lookO, e_look1, e_argV, e_argS, e_slot, e_slotF, e_slotO, e_call, e_frz, e_lstO, e_listO, e_anyI, e_sThen, e_seq, e_next, e_brk, e_cnt, e_ret, e_drop, e_set, e_setO, e_ifS, e_raise, e_exn, e_for, boolP, partP, List.getElem?_cons_zero, List.getElem?_cons_succ, List.set_cons_zero, List.set_cons_succ, if_true, if_false, Bool.false_eq_true, Bool.not_true, Bool.not_false, e_vrt, e_vnx, e_xer, e_append, e_appS, e_appK, e_aug, e_augS, e_augK, e_pair, e_fr, e_ow, pSz, pLen, pAdd, frzO, sizeLine_eq, List.length_cons, List.length_nil, Nat.reduceAdd, Nat.reduceLeDiff, Nat.reduceLT, Nat.zero_add, Nat.zero_le, Nat.reduceSub, List.nil_append, List.cons_append, List.append_nil, List.map_cons, List.map_nil, List.replicate, sign_fig, signF_chr]
  have gt : pGt (.int ((strL l).length : Int)) (.int 60) = some (.bl (decide (60 < l.length))) := by
    show some (PV.bl (decide ((60 : Int) < ((strL l).length : Int)))) = _
    rw [hlen, show decide ((60 : Int) < (l.length : Int)) = decide (60 < l.length) from decide_eq_decide.mpr (by omega)]
  have e0 : (strL l == ("" : Str)) = decide (l = []) := str_eq0
  have al : pAll [.lst ((chrP (strL l)).map signF)] = some (.bl (l.all fun c => decide (c ∈ figL))) := by rw [pAll_sign]; rfl
  by_cases h0 : l = []
  · simp only [b_is_letters, e_ok, e_err, e_bad, e_okS, e_errS, e_badS, e_nx, e_rt, e_bk, e_ct, e_ex, e_bd, e_bind, e_pure, e_some, e_none, e_op1, e_op2, e_cons, e_test, e_callP, e_if, e_and, e_or, e_not, e_andV, e_orV, e_andT, e_andF, e_orT, e_orF, e_chain, e_chT, e_chF, e_part, e_sl, e_var, e_varF, e_varO, e_look, e_lookF, e_lookO, e_look1, e_argV, e_argS, e_slot, e_slotF, e_slotO, e_call, e_frz, e_lstO, e_listO, e_anyI, e_sThen, e_seq, e_next, e_brk, e_cnt, e_ret, e_drop, e_set, e_setO, e_ifS, e_raise, e_exn, e_for, boolP, partP, List.getElem?_cons_zero, List.getElem?_cons_succ, List.set_cons_zero, List.set_cons_succ, if_true, if_false, Bool.false_eq_true, Bool.not_true, Bool.not_false, e_vrt, e_vnx, e_xer, e_append, e_appS, e_appK, e_aug, e_augS, e_augK, e_pair, e_fr, e_ow, pSz, pLen, pAdd, frzO, sizeLine_eq, List.length_cons, List.length_nil, Nat.reduceAdd, Nat.reduceLeDiff, Nat.reduceLT, Nat.zero_add, Nat.zero_le, Nat.reduceSub, List.nil_append, List.cons_append, List.append_nil, List.map_cons, List.map_nil, List.replicate, q_eqS, e0, decide_eq_true h0]
    subst h0
    rfl
  · by_cases h1 : 60 < l.length
    · simp only [b_is_letters, e_ok, e_err, e_bad, e_okS, e_errS, e_badS, e_nx, e_rt, e_bk, e_ct, e_ex, e_bd, e_bind, e_pure, e_some, e_none, e_op1, e_op2, e_cons, e_test, e_callP, e_if, e_and, e_or, e_not, e_andV, e_orV, e_andT, e_andF, e_orT, e_orF, e_chain, e_chT, e_chF, e_part, e_sl, e_var, e_varF, e_varO, e_look, e_lookF, e_lookO, e_look1, e_argV, e_argS, e_slot, e_slotF, e_slotO, e_call, e_frz, e_lstO, e_listO, e_anyI, e_sThen, e_seq, e_next, e_brk, e_cnt, e_ret, e_drop, e_set, e_setO, e_ifS, e_raise, e_exn, e_for, boolP, partP, List.getElem?_cons_zero, List.getElem?_cons_succ, List.set_cons_zero, List.set_cons_succ, if_true, if_false, Bool.false_eq_true, Bool.not_true, Bool.not_false, e_vrt, e_vnx, e_xer, e_append, e_appS, e_appK, e_aug, e_augS, e_augK, e_pair, e_fr, e_ow, pSz, pLen, pAdd, frzO, sizeLine_eq, List.length_cons, List.length_nil, Nat.reduceAdd, Nat.reduceLeDiff, Nat.reduceLT, Nat.zero_add, Nat.zero_le, Nat.reduceSub, List.nil_append, List.cons_append, List.append_nil, List.map_cons, List.map_nil, List.replicate, if_pos h16, q_eqS, e0, decide_eq_false h0, gt, decide_eq_true h1]
      have : decide (l.length ≤ 60) = false := decide_eq_false (by omega)
      simp [isLet, this]
    · cases h2 : l.all fun c => decide (c ∈ figL) with
      | false =>
        simp only [b_is_letters, e_ok, e_err, e_bad, e_okS, e_errS, e_badS, e_nx, e_rt, e_bk, e_ct, e_ex, e_bd, e_bind, e_pure, e_some, e_none, e_op1, e_op2, e_cons, e_test, e_callP, e_if, e_and, e_or, e_not, e_andV, e_orV, e_andT, e_andF, e_orT, e_orF, e_chain, e_chT, e_chF, e_part, e_sl, e_var, e_varF, e_varO, e_look, e_lookF, e_lookO, e_look1, e_argV, e_argS, e_slot, e_slotF, e_slotO, e_call, e_frz, e_lstO, e_listO, e_anyI, e_sThen, e_seq, e_next, e_brk, e_cnt, e_ret, e_drop, e_set, e_setO, e_ifS, e_raise, e_exn, e_for, boolP, partP, List.getElem?_cons_zero, List.getElem?_cons_succ, List.set_cons_zero, List.set_cons_succ, if_true, if_false, Bool.false_eq_true, Bool.not_true, Bool.not_false, e_vrt, e_vnx, e_xer, e_append, e_appS, e_appK, e_aug, e_augS, e_augK, e_pair, e_fr, e_ow, pSz, pLen, pAdd, frzO, sizeLine_eq, List.length_cons, List.length_nil, Nat.reduceAdd, Nat.reduceLeDiff, Nat.reduceLT, Nat.zero_add, Nat.zero_le, Nat.reduceSub, List.nil_append, List.cons_append, List.append_nil, List.map_cons, List.map_nil, List.replicate, comp, if_pos h16, q_eqS, e0, decide_eq_false h0, gt, decide_eq_false h1, al, h2]
        simp [isLet, h2]
      | true =>
        have le : decide (l.length ≤ 60) = true := decide_eq_true (by omega)
        have fig : ∀ c ∈ l, c ∈ figL := fun c hc => of_decide_eq_true (List.all_eq_true.mp h2 c hc)
        have comp2 : mComp [3] (mAnyI (mVar 0)) (gSlot 3) (M.pure true) (mOp2 pLt (mCallP pInt (mCons (mVar 3) (M.pure []))) (mVar 1)) [.fr (.str (strL l)), .fr (.int 10), .fr (.int 60), .no] = .ok (.lst ((chrP (strL l)).map ltF)) [.fr (.str (strL l)), .fr (.int 10), .fr (.int 60), .no] := by
          rw [comp_all (ρ1 := [.fr (.str (strL l)), .fr (.int 10), .fr (.int 60), .no]) (ps := chrP (strL l)) ltF]
          · rfl
          · simp only [e_ok, e_err, e_bad, e_okS, e_errS, e_badS, e_nx, e_rt, e_bk, e_ct, e_ex, e_bd, e_bind, e_pure, e_some, e_none, e_op1, e_op2, e_cons, e_test, e_callP, e_if, e_and, e_or, e_not, e_andV, e_orV, e_andT, e_andF, e_orT, e_orF, e_chain, e_chT, e_chF, e_part, e_sl, e_var, e_varF, e_varO, e_look, e_lookF, e_lookO, e_look1, e_argV, e_argS, e_slot, e_slotF, e_slotO, e_call, e_frz, e_lstO, e_listO, e_anyI, e_sThen, e_seq, e_next, e_brk, e_cnt, e_ret, e_drop, e_set, e_setO, e_ifS, e_raise, e_exn, e_for, boolP, partP, List.getElem?_cons_zero, List.getElem?_cons_succ, List.set_cons_zero, List.set_cons_succ, if_true, if_false, Bool.false_eq_true, Bool.not_true, Bool.not_false, e_vrt, e_vnx, e_xer, e_append, e_appS, e_appK, e_aug, e_augS, e_augK, e_pair, e_fr, e_ow, pSz, pLen, pAdd, frzO, sizeLine_eq, List.length_cons, List.length_nil, Nat.reduceAdd, Nat.reduceLeDiff, Nat.reduceLT, Nat.zero_add, Nat.zero_le, Nat.reduceSub, List.nil_append, List.cons_append, List.append_nil, List.map_cons, List.map_nil, List.replicate, anyP]
          · rw [chrP_len, sizeLine_eq]; exact h16
          · intro p hp
            obtain ⟨c, rfl, hc⟩ := chr_of hp
            have hf := fig c hc
            refine ⟨[.fr (.str (strL l)), .fr (.int 10), .fr (.int 60), .fr (.str ⟨#[c]⟩)], [.fr (.str (strL l)), .fr (.int 10), .fr (.int 60), .fr (.str ⟨#[c]⟩)], rfl, ?_, rfl⟩
            simp only [e_ok, e_err, e_bad, e_okS, e_errS, e_badS, e_nx, e_rt, e_bk, e_ct, e_ex, e_bd, e_bind, e_pure, e_some, e_none, e_op1, e_op2, e_cons, e_test, e_callP, e_if, e_and, e_or, e_not, e_andV, e_orV, e_andT, e_andF, e_orT, e_orF, e_chain, e_chT, e_chF, e_part, e_sl, e_var, e_varF, e_varO, e_look, e_lookF, e_lookO, e_look1, e_argV, e_argS, e_slot, e_slotF, e_slotO, e_call, e_frz, e_lstO, e_listO, e_anyI, e_sThen, e_seq, e_next, e_brk, e_cnt, e_ret, e_drop, e_set, e_setO, e_ifS, e_raise, e_exn, e_for, boolP, partP, List.getElem?_cons_zero, List.getElem?_cons_succ, List.set_cons_zero, List.set_cons_succ, if_true, if_false, Bool.false_eq_true, Bool.not_true, Bool.not_false, e_vrt, e_vnx, e_xer, e_append, e_appS, e_appK, e_aug, e_augS, e_augK, e_pair, e_fr, e_ow, pSz, pLen, pAdd, frzO, sizeLine_eq, List.length_cons, List.length_nil, Nat.reduceAdd, Nat.reduceLeDiff, Nat.reduceLT, Nat.zero_add, Nat.zero_le, Nat.reduceSub, List.nil_append, List.cons_append, List.append_nil, List.map_cons, List.map_nil, List.replicate, int_sign hf, lt_ten hf, ltF_chr hf]
        have al2 : pAll [.lst ((chrP (strL l)).map ltF)] = some (.bl true) := by
          unfold chrP
          rw [List.map_map]
          exact pAll_true fun c hc => ltF_chr (fig c hc)
        simp only [b_is_letters, e_ok, e_err, e_bad, e_okS, e_errS, e_badS, e_nx, e_rt, e_bk, e_ct, e_ex, e_bd, e_bind, e_pure, e_some, e_none, e_op1, e_op2, e_cons, e_test, e_callP, e_if, e_and, e_or, e_not, e_andV, e_orV, e_andT, e_andF, e_orT, e_orF, e_chain, e_chT, e_chF, e_part, e_sl, e_var, e_varF, e_varO, e_look, e_lookF, e_lookO, e_look1, e_argV, e_argS, e_slot, e_slotF, e_slotO, e_call, e_frz, e_lstO, e_listO, e_anyI, e_sThen, e_seq, e_next, e_brk, e_cnt, e_ret, e_drop, e_set, e_setO, e_ifS, e_raise, e_exn, e_for, boolP, partP, List.getElem?_cons_zero, List.getElem?_cons_succ, List.set_cons_zero, List.set_cons_succ, if_true, if_false, Bool.false_eq_true, Bool.not_true, Bool.not_false, e_vrt, e_vnx, e_xer, e_append, e_appS, e_appK, e_aug, e_augS, e_augK, e_pair, e_fr, e_ow, pSz, pLen, pAdd, frzO, sizeLine_eq, List.length_cons, List.length_nil, Nat.reduceAdd, Nat.reduceLeDiff, Nat.reduceLT, Nat.zero_add, Nat.zero_le, Nat.reduceSub, List.nil_append, List.cons_append, List.append_nil, List.map_cons, List.map_nil, List.replicate, comp, comp2, if_pos h16, q_eqS, e0, decide_eq_false h0, gt, decide_eq_false h1, al, h2, al2]
        simp [isLet, h2, le, h0]
def wordV (l : List Nat) : List PV := l.map fun (c : Nat) => PV.int ((c : Int) - 48)
def intF (p : PV) : PV := (pInt [p]).getD .non
theorem intF_chr {c : Nat} (h : c ∈ figL) : intF (.str ⟨#[c]⟩) = .int ((c : Int) - 48) := by unfold intF; rw [int_sign h]; rfl
theorem ev_word (l : List Nat) (hz : l.length < 16777216) (fig : ∀ c ∈ l, c ∈ figL) : Gives m_word_in [S l] (.tup (wordV l)) := by
  refine gives_of ?_
  have h16 : (strL l).length ≤ 16777216 := by show l.toArray.size ≤ _; rw [List.size_toArray]; omega
  have comp : mComp [1] (mAnyI (mVar 0)) (gSlot 1) (M.pure true) (mCallP pInt (mCons (mVar 1) (M.pure []))) [.fr (.str (strL l)), .no] = .ok (.lst ((chrP (strL l)).map intF)) [.fr (.str (strL l)), .no] := by
    rw [comp_all (ρ1 := [.fr (.str (strL l)), .no]) (ps := chrP (strL l)) intF]
    · rfl
    · simp only [e_ok, e_err, e_bad, e_okS, e_errS, e_badS, e_nx, e_rt, e_bk, e_ct, e_ex, e_bd, e_bind, e_pure, e_some, e_none, e_op1, e_op2, e_cons, e_test, e_callP, e_if, e_and, e_or, e_not, e_andV, e_orV, e_andT, e_andF, e_orT, e_orF, e_chain, e_chT, e_chF, e_part, e_sl, e_var, e_varF, e_varO, e_look, e_lookF, e_lookO, e_look1, e_argV, e_argS, e_slot, e_slotF, e_slotO, e_call, e_frz, e_lstO, e_listO, e_anyI, e_sThen, e_seq, e_next, e_brk, e_cnt, e_ret, e_drop, e_set, e_setO, e_ifS, e_raise, e_exn, e_for, boolP, partP, List.getElem?_cons_zero, List.getElem?_cons_succ, List.set_cons_zero, List.set_cons_succ, if_true, if_false, Bool.false_eq_true, Bool.not_true, Bool.not_false, e_vrt, e_vnx, e_xer, e_append, e_appS, e_appK, e_aug, e_augS, e_augK, e_pair, e_fr, e_ow, pSz, pLen, pAdd, frzO, sizeLine_eq, List.length_cons, List.length_nil, Nat.reduceAdd, Nat.reduceLeDiff, Nat.reduceLT, Nat.zero_add, Nat.zero_le, Nat.reduceSub, List.nil_append, List.cons_append, List.append_nil, List.map_cons, List.map_nil, List.replicate, anyP]
    · rw [chrP_len, sizeLine_eq]; exact h16
    · intro p hp
      obtain ⟨c, rfl, hc⟩ := chr_of hp
      have hf := fig c hc
      refine ⟨[.fr (.str (strL l)), .fr (.str ⟨#[c]⟩)], [.fr (.str (strL l)), .fr (.str ⟨#[c]⟩)], rfl, ?_, rfl⟩
      simp only [e_ok, e_err, e_bad, e_okS, e_errS, e_badS, e_nx, e_rt, e_bk, e_ct, e_ex, e_bd, e_bind, e_pure, e_some, e_none, e_op1, e_op2, e_cons, e_test, e_callP, e_if, e_and, e_or, e_not, e_andV, e_orV, e_andT, e_andF, e_orT, e_orF, e_chain, e_chT, e_chF, e_part, e_sl, e_var, e_varF, e_varO, e_look, e_lookF, e_lookO, e_look1, e_argV, e_argS, e_slot, e_slotF, e_slotO, e_call, e_frz, e_lstO, e_listO, e_anyI, e_sThen, e_seq, e_next, e_brk, e_cnt, e_ret, e_drop, e_set, e_setO, e_ifS, e_raise, e_exn, e_for, boolP, partP, List.getElem?_cons_zero, List.getElem?_cons_succ, List.set_cons_zero, List.set_cons_succ, if_true, if_false, Bool.false_eq_true, Bool.not_true, Bool.not_false, e_vrt, e_vnx, e_xer, e_append, e_appS, e_appK, e_aug, e_augS, e_augK, e_pair, e_fr, e_ow, pSz, pLen, pAdd, frzO, sizeLine_eq, List.length_cons, List.length_nil, Nat.reduceAdd, Nat.reduceLeDiff, Nat.reduceLT, Nat.zero_add, Nat.zero_le, Nat.reduceSub, List.nil_append, List.cons_append, List.append_nil, List.map_cons, List.map_nil, List.replicate, int_sign hf, intF_chr hf]
  have e : (chrP (strL l)).map intF = wordV l := by
    unfold chrP wordV
    rw [List.map_map]
    exact List.map_congr_left fun c hc => intF_chr (fig c hc)
  simp only [b_word_in, e_ok, e_err, e_bad, e_okS, e_errS, e_badS, e_nx, e_rt, e_bk, e_ct, e_ex, e_bd, e_bind, e_pure, e_some, e_none, e_op1, e_op2, e_cons, e_test, e_callP, e_if, e_and, e_or, e_not, e_andV, e_orV, e_andT, e_andF, e_orT, e_orF, e_chain, e_chT, e_chF, e_part, e_sl, e_var, e_varF, e_varO, e_look, e_lookF, e_lookO, e_look1, e_argV, e_argS, e_slot, e_slotF, e_slotO, e_call, e_frz, e_lstO, e_listO, e_anyI, e_sThen, e_seq, e_next, e_brk, e_cnt, e_ret, e_drop, e_set, e_setO, e_ifS, e_raise, e_exn, e_for, boolP, partP, List.getElem?_cons_zero, List.getElem?_cons_succ, List.set_cons_zero, List.set_cons_succ, if_true, if_false, Bool.false_eq_true, Bool.not_true, Bool.not_false, e_vrt, e_vnx, e_xer, e_append, e_appS, e_appK, e_aug, e_augS, e_augK, e_pair, e_fr, e_ow, pSz, pLen, pAdd, frzO, sizeLine_eq, List.length_cons, List.length_nil, Nat.reduceAdd, Nat.reduceLeDiff, Nat.reduceLT, Nat.zero_add, Nat.zero_le, Nat.reduceSub, List.nil_append, List.cons_append, List.append_nil, List.map_cons, List.map_nil, List.replicate, comp, e, pTupOf]
def tokE (l : List Nat) : Bool := decide (l = [101])
theorem str_eqe {l : List Nat} : (strL l == ("e" : Str)) = tokE l := by
  have e : ("e" : Str) = strL [101] := by decide +kernel
  unfold tokE
  rw [e, Bool.eq_iff_iff]
  simp [strL]
theorem ev_readword {ts : List (List Nat)} {i : Nat} {line : Int} {l : List Nat} (hl : ts[i]? = some l) (hz : l.length < 16777216) (hn : tokE l = false) (hw : isLet l = true) : Gives m_read_word [.lst (ts.map S), .int i, .int line] (.tup (wordV l)) := by
  refine gives_of ?_
  have hi : i < ts.length := (List.getElem?_eq_some_iff.mp hl).1
  have nm : Gives m_is_letters [S l, .int 10, .int 60] (.bl true) := by
    have := ev_letters l hz
    rw [hw] at this
    exact this
  have fig : ∀ c ∈ l, c ∈ figL := fun c hc => by
    unfold isLet at hw
    simp only [Bool.and_eq_true] at hw
    exact of_decide_eq_true (List.all_eq_true.mp hw.2 c hc)
  simp only [b_read_word, e_ok, e_err, e_bad, e_okS, e_errS, e_badS, e_nx, e_rt, e_bk, e_ct, e_ex, e_bd, e_bind, e_pure, e_some, e_none, e_op1, e_op2, e_cons, e_test, e_callP, e_if, e_and, e_or, e_not, e_andV, e_orV, e_andT, e_andF, e_orT, e_orF, e_chain, e_chT, e_chF, e_part, e_sl, e_var, e_varF, e_varO, e_look, e_lookF, e_lookO, e_look1, e_argV, e_argS, e_slot, e_slotF, e_slotO, e_call, e_frz, e_lstO, e_listO, e_anyI, e_sThen, e_seq, e_next, e_brk, e_cnt, e_ret, e_drop, e_set, e_setO, e_ifS, e_raise, e_exn, e_for, boolP, partP, List.getElem?_cons_zero, List.getElem?_cons_succ, List.set_cons_zero, List.set_cons_succ, if_true, if_false, Bool.false_eq_true, Bool.not_true, Bool.not_false, e_vrt, e_vnx, e_xer, e_append, e_appS, e_appK, e_aug, e_augS, e_augK, e_pair, e_fr, e_ow, pSz, pLen, pAdd, frzO, sizeLine_eq, List.length_cons, List.length_nil, Nat.reduceAdd, Nat.reduceLeDiff, Nat.reduceLT, Nat.zero_add, Nat.zero_le, Nat.reduceSub, List.nil_append, List.cons_append, List.append_nil, List.map_cons, List.map_nil, List.replicate, g_MOST_LONG, List.length_map, lt_nat, decide_eq_true hi, ix_tok hl, q_eqS, str_eqe, hn, c3 nm, c1 (ev_word l hz fig)]
theorem ev_readword_e {ts : List (List Nat)} {i : Nat} {line : Int} {l : List Nat} (hl : ts[i]? = some l) (hn : tokE l = true) : Gives m_read_word [.lst (ts.map S), .int i, .int line] (.tup []) := by
  refine gives_of ?_
  have hi : i < ts.length := (List.getElem?_eq_some_iff.mp hl).1
  simp only [b_read_word, e_ok, e_err, e_bad, e_okS, e_errS, e_badS, e_nx, e_rt, e_bk, e_ct, e_ex, e_bd, e_bind, e_pure, e_some, e_none, e_op1, e_op2, e_cons, e_test, e_callP, e_if, e_and, e_or, e_not, e_andV, e_orV, e_andT, e_andF, e_orT, e_orF, e_chain, e_chT, e_chF, e_part, e_sl, e_var, e_varF, e_varO, e_look, e_lookF, e_lookO, e_look1, e_argV, e_argS, e_slot, e_slotF, e_slotO, e_call, e_frz, e_lstO, e_listO, e_anyI, e_sThen, e_seq, e_next, e_brk, e_cnt, e_ret, e_drop, e_set, e_setO, e_ifS, e_raise, e_exn, e_for, boolP, partP, List.getElem?_cons_zero, List.getElem?_cons_succ, List.set_cons_zero, List.set_cons_succ, if_true, if_false, Bool.false_eq_true, Bool.not_true, Bool.not_false, e_vrt, e_vnx, e_xer, e_append, e_appS, e_appK, e_aug, e_augS, e_augK, e_pair, e_fr, e_ow, pSz, pLen, pAdd, frzO, sizeLine_eq, List.length_cons, List.length_nil, Nat.reduceAdd, Nat.reduceLeDiff, Nat.reduceLT, Nat.zero_add, Nat.zero_le, Nat.reduceSub, List.nil_append, List.cons_append, List.append_nil, List.map_cons, List.map_nil, List.replicate, List.length_map, lt_nat, decide_eq_true hi, ix_tok hl, q_eqS, str_eqe, hn]
theorem ev_readword_bad {ts : List (List Nat)} {i : Nat} {line : Int} (hz : ∀ l ∈ ts, l.length < 16777216) (h : ∀ l, ts[i]? = some l → tokE l = false ∧ isLet l = false) : Throws m_read_word [.lst (ts.map S), .int i, .int line] (bad (i + 1) line) := by
  refine throws_of ?_
  cases hl : ts[i]? with
  | none =>
    have hi : ¬ i < ts.length := by
      have := List.getElem?_eq_none_iff.mp hl
      omega
    have nm : Gives m_is_letters [.str (strL []), .int 10, .int 60] (.bl false) := ev_letters [] (by decide)
    have e : ("" : Str) = strL [] := by decide +kernel
    have e2 : (strL [] == ("e" : Str)) = false := by rw [str_eqe]; rfl
    simp only [b_read_word, e_ok, e_err, e_bad, e_okS, e_errS, e_badS, e_nx, e_rt, e_bk, e_ct, e_ex, e_bd, e_bind, e_pure, e_some, e_none, e_op1, e_op2, e_cons, e_test, e_callP, e_if, e_and, e_or, e_not, e_andV, e_orV, e_andT, e_andF, e_orT, e_orF, e_chain, e_chT, e_chF, e_part, e_sl, e_var, e_varF, e_varO, e_look, e_lookF, e_lookO, e_look1, e_argV, e_argS, e_slot, e_slotF, e_slotO, e_call, e_frz, e_lstO, e_listO, e_anyI, e_sThen, e_seq, e_next, e_brk, e_cnt, e_ret, e_drop, e_set, e_setO, e_ifS, e_raise, e_exn, e_for, boolP, partP, List.getElem?_cons_zero, List.getElem?_cons_succ, List.set_cons_zero, List.set_cons_succ, if_true, if_false, Bool.false_eq_true, Bool.not_true, Bool.not_false, e_vrt, e_vnx, e_xer, e_append, e_appS, e_appK, e_aug, e_augS, e_augK, e_pair, e_fr, e_ow, pSz, pLen, pAdd, frzO, sizeLine_eq, List.length_cons, List.length_nil, Nat.reduceAdd, Nat.reduceLeDiff, Nat.reduceLT, Nat.zero_add, Nat.zero_le, Nat.reduceSub, List.nil_append, List.cons_append, List.append_nil, List.map_cons, List.map_nil, List.replicate, g_MOST_LONG, List.length_map, lt_nat, decide_eq_false hi, q_eqS, e, e2, c3 nm, List.reverse_cons, List.reverse_nil, and_self]
    rfl
  | some l =>
    have hi : i < ts.length := (List.getElem?_eq_some_iff.mp hl).1
    have nm : Gives m_is_letters [S l, .int 10, .int 60] (.bl false) := by
      have := ev_letters l (hz l (List.mem_of_getElem? hl))
      rw [(h l hl).2] at this
      exact this
    simp only [b_read_word, e_ok, e_err, e_bad, e_okS, e_errS, e_badS, e_nx, e_rt, e_bk, e_ct, e_ex, e_bd, e_bind, e_pure, e_some, e_none, e_op1, e_op2, e_cons, e_test, e_callP, e_if, e_and, e_or, e_not, e_andV, e_orV, e_andT, e_andF, e_orT, e_orF, e_chain, e_chT, e_chF, e_part, e_sl, e_var, e_varF, e_varO, e_look, e_lookF, e_lookO, e_look1, e_argV, e_argS, e_slot, e_slotF, e_slotO, e_call, e_frz, e_lstO, e_listO, e_anyI, e_sThen, e_seq, e_next, e_brk, e_cnt, e_ret, e_drop, e_set, e_setO, e_ifS, e_raise, e_exn, e_for, boolP, partP, List.getElem?_cons_zero, List.getElem?_cons_succ, List.set_cons_zero, List.set_cons_succ, if_true, if_false, Bool.false_eq_true, Bool.not_true, Bool.not_false, e_vrt, e_vnx, e_xer, e_append, e_appS, e_appK, e_aug, e_augS, e_augK, e_pair, e_fr, e_ow, pSz, pLen, pAdd, frzO, sizeLine_eq, List.length_cons, List.length_nil, Nat.reduceAdd, Nat.reduceLeDiff, Nat.reduceLT, Nat.zero_add, Nat.zero_le, Nat.reduceSub, List.nil_append, List.cons_append, List.append_nil, List.map_cons, List.map_nil, List.replicate, g_MOST_LONG, List.length_map, lt_nat, decide_eq_true hi, ix_tok hl, q_eqS, str_eqe, (h l hl).1, c3 nm, List.reverse_cons, List.reverse_nil, and_self]
    rfl
theorem ev_end {ts : List (List Nat)} {i : Nat} {line : Int} (h : ts.length ≤ i) : Gives m_need_end [.lst (ts.map S), .int i, .int line] .non := by
  refine gives_of ?_
  simp only [b_need_end, e_ok, e_err, e_bad, e_okS, e_errS, e_badS, e_nx, e_rt, e_bk, e_ct, e_ex, e_bd, e_bind, e_pure, e_some, e_none, e_op1, e_op2, e_cons, e_test, e_callP, e_if, e_and, e_or, e_not, e_andV, e_orV, e_andT, e_andF, e_orT, e_orF, e_chain, e_chT, e_chF, e_part, e_sl, e_var, e_varF, e_varO, e_look, e_lookF, e_lookO, e_look1, e_argV, e_argS, e_slot, e_slotF, e_slotO, e_call, e_frz, e_lstO, e_listO, e_anyI, e_sThen, e_seq, e_next, e_brk, e_cnt, e_ret, e_drop, e_set, e_setO, e_ifS, e_raise, e_exn, e_for, boolP, partP, List.getElem?_cons_zero, List.getElem?_cons_succ, List.set_cons_zero, List.set_cons_succ, if_true, if_false, Bool.false_eq_true, Bool.not_true, Bool.not_false, e_vrt, e_vnx, e_xer, e_append, e_appS, e_appK, e_aug, e_augS, e_augK, e_pair, e_fr, e_ow, pSz, pLen, pAdd, frzO, sizeLine_eq, List.length_cons, List.length_nil, Nat.reduceAdd, Nat.reduceLeDiff, Nat.reduceLT, Nat.zero_add, Nat.zero_le, Nat.reduceSub, List.nil_append, List.cons_append, List.append_nil, List.map_cons, List.map_nil, List.replicate, List.length_map, lt_nat, decide_eq_false (show ¬ i < ts.length by omega)]
theorem ev_end_bad {ts : List (List Nat)} {i : Nat} {line : Int} (h : i < ts.length) : Throws m_need_end [.lst (ts.map S), .int i, .int line] (bad (i + 1) line) := by
  refine throws_of ?_
  simp only [b_need_end, e_ok, e_err, e_bad, e_okS, e_errS, e_badS, e_nx, e_rt, e_bk, e_ct, e_ex, e_bd, e_bind, e_pure, e_some, e_none, e_op1, e_op2, e_cons, e_test, e_callP, e_if, e_and, e_or, e_not, e_andV, e_orV, e_andT, e_andF, e_orT, e_orF, e_chain, e_chT, e_chF, e_part, e_sl, e_var, e_varF, e_varO, e_look, e_lookF, e_lookO, e_look1, e_argV, e_argS, e_slot, e_slotF, e_slotO, e_call, e_frz, e_lstO, e_listO, e_anyI, e_sThen, e_seq, e_next, e_brk, e_cnt, e_ret, e_drop, e_set, e_setO, e_ifS, e_raise, e_exn, e_for, boolP, partP, List.getElem?_cons_zero, List.getElem?_cons_succ, List.set_cons_zero, List.set_cons_succ, if_true, if_false, Bool.false_eq_true, Bool.not_true, Bool.not_false, e_vrt, e_vnx, e_xer, e_append, e_appS, e_appK, e_aug, e_augS, e_augK, e_pair, e_fr, e_ow, pSz, pLen, pAdd, frzO, sizeLine_eq, List.length_cons, List.length_nil, Nat.reduceAdd, Nat.reduceLeDiff, Nat.reduceLT, Nat.zero_add, Nat.zero_le, Nat.reduceSub, List.nil_append, List.cons_append, List.append_nil, List.map_cons, List.map_nil, List.replicate, List.length_map, lt_nat, decide_eq_true h, List.reverse_cons, List.reverse_nil, and_self]
  rfl
theorem ev_string (z : Str) : Gives m_need_string [.str z] .non := by
  refine gives_of ?_
  have e : pIsi [.str z, .ty "str"] = some (.bl true) := rfl
  simp only [b_need_string, e_ok, e_err, e_bad, e_okS, e_errS, e_badS, e_nx, e_rt, e_bk, e_ct, e_ex, e_bd, e_bind, e_pure, e_some, e_none, e_op1, e_op2, e_cons, e_test, e_callP, e_if, e_and, e_or, e_not, e_andV, e_orV, e_andT, e_andF, e_orT, e_orF, e_chain, e_chT, e_chF, e_part, e_sl, e_var, e_varF, e_varO, e_look, e_lookF, e_lookO, e_look1, e_argV, e_argS, e_slot, e_slotF, e_slotO, e_call, e_frz, e_lstO, e_listO, e_anyI, e_sThen, e_seq, e_next, e_brk, e_cnt, e_ret, e_drop, e_set, e_setO, e_ifS, e_raise, e_exn, e_for, boolP, partP, List.getElem?_cons_zero, List.getElem?_cons_succ, List.set_cons_zero, List.set_cons_succ, if_true, if_false, Bool.false_eq_true, Bool.not_true, Bool.not_false, e_vrt, e_vnx, e_xer, e_append, e_appS, e_appK, e_aug, e_augS, e_augK, e_pair, e_fr, e_ow, pSz, pLen, pAdd, frzO, sizeLine_eq, List.length_cons, List.length_nil, Nat.reduceAdd, Nat.reduceLeDiff, Nat.reduceLT, Nat.zero_add, Nat.zero_le, Nat.reduceSub, List.nil_append, List.cons_append, List.append_nil, List.map_cons, List.map_nil, List.replicate, e]
theorem ev_string_bad {p : PV} (h : pIsi [p, .ty "str"] = some (.bl false)) : Throws m_need_string [p] (bad 0 0) := by
  refine throws_of ?_
  simp only [b_need_string, e_ok, e_err, e_bad, e_okS, e_errS, e_badS, e_nx, e_rt, e_bk, e_ct, e_ex, e_bd, e_bind, e_pure, e_some, e_none, e_op1, e_op2, e_cons, e_test, e_callP, e_if, e_and, e_or, e_not, e_andV, e_orV, e_andT, e_andF, e_orT, e_orF, e_chain, e_chT, e_chF, e_part, e_sl, e_var, e_varF, e_varO, e_look, e_lookF, e_lookO, e_look1, e_argV, e_argS, e_slot, e_slotF, e_slotO, e_call, e_frz, e_lstO, e_listO, e_anyI, e_sThen, e_seq, e_next, e_brk, e_cnt, e_ret, e_drop, e_set, e_setO, e_ifS, e_raise, e_exn, e_for, boolP, partP, List.getElem?_cons_zero, List.getElem?_cons_succ, List.set_cons_zero, List.set_cons_succ, if_true, if_false, Bool.false_eq_true, Bool.not_true, Bool.not_false, e_vrt, e_vnx, e_xer, e_append, e_appS, e_appK, e_aug, e_augS, e_augK, e_pair, e_fr, e_ow, pSz, pLen, pAdd, frzO, sizeLine_eq, List.length_cons, List.length_nil, Nat.reduceAdd, Nat.reduceLeDiff, Nat.reduceLT, Nat.zero_add, Nat.zero_le, Nat.reduceSub, List.nil_append, List.cons_append, List.append_nil, List.map_cons, List.map_nil, List.replicate, h, List.reverse_cons, List.reverse_nil, and_self]
  rfl
end K75

set_option linter.all false
set_option maxRecDepth 100000
set_option maxHeartbeats 2000000
namespace K75
open PySem PySem.Spec PyProof.Rows L2 LamX VS
def sp (c : Nat) : Bool := decide (c = 32)
theorem sp_goes : (" " : Str).cps.contains = sp := by
  funext c
  have e : (" " : Str).cps = #[32] := by decide +kernel
  rw [e]
  unfold sp
  rw [Bool.eq_iff_iff]
  simp [Array.contains]
theorem drop_takeWhile (p : Nat → Bool) : ∀ l : List Nat, l.drop (l.takeWhile p).length = l.dropWhile p
  | [] => rfl
  | a :: l => by
    rw [List.takeWhile_cons, List.dropWhile_cons]
    cases p a with
    | true => exact drop_takeWhile p l
    | false => rfl
theorem strSub_l (l : List Nat) (i j : Nat) : Builtin.Str.strSub (strL l) i j = strL ((l.drop i).take (j - i)) := by
  unfold Builtin.Str.strSub strL
  simp
theorem strL_len (l : List Nat) : (strL l).length = l.length := by show l.toArray.size = _; simp
theorem strL_list (l : List Nat) : (strL l).cps.toList = l := by show l.toArray.toList = _; simp
theorem strL_inj {a b : List Nat} : strL a = strL b ↔ a = b := by simp [strL]
theorem lstrip_eq (l : List Nat) : Txt.lstripChars (strL l) " " = strL (l.dropWhile sp) := by
  unfold Txt.lstripChars
  rw [stripBy_eq, sp_goes, strSub_l]
  show strL ((l.drop ((strL l).cps.toList.takeWhile sp).length).take ((strL l).length - ((strL l).cps.toList.takeWhile sp).length)) = _
  rw [strL_len, strL_list, List.take_of_length_le (by simp), drop_takeWhile]
theorem strL_nil : ("" : Str) = strL [] := by decide +kernel
theorem takeWhile_full {p : Nat → Bool} : ∀ {l : List Nat}, (l.takeWhile p).length = l.length → l.all p = true
  | [], _ => rfl
  | a :: l, h => by
    rw [List.takeWhile_cons] at h
    cases hp : p a with
    | true =>
      rw [hp] at h
      simp only [if_true, List.length_cons, Nat.add_right_cancel_iff] at h
      rw [List.all_cons, hp, takeWhile_full h]; rfl
    | false => rw [hp] at h; simp at h
theorem dropW_nil : ∀ l : List Nat, l.all sp = true ↔ l.dropWhile sp = []
  | [] => by simp
  | a :: l => by
    rw [List.all_cons, List.dropWhile_cons]
    cases sp a with
    | true => simpa using dropW_nil l
    | false => simp
theorem strip_empty (l : List Nat) : (Txt.stripChars (strL l) " " == ("" : Str)) = l.all sp := by
  unfold Txt.stripChars
  rw [stripBy_eq, sp_goes, strSub_l]
  have lo : stripLo sp true (strL l) = (l.takeWhile sp).length := by unfold stripLo; rw [if_pos rfl, strL_list]
  have hi : stripHi sp true (strL l) (l.takeWhile sp).length = l.length - ((l.dropWhile sp).reverse.takeWhile sp).length := by
    unfold stripHi
    rw [if_pos rfl, strL_list, strL_len, drop_takeWhile]
  rw [lo, hi, drop_takeWhile, strL_nil, Bool.eq_iff_iff, beq_iff_eq, strL_inj]
  have hlen : (l.takeWhile sp).length + (l.dropWhile sp).length = l.length := by
    rw [← List.length_append, List.takeWhile_append_dropWhile]
  have hd : ∀ a r, l.dropWhile sp = a :: r → sp a = false := fun a r h => by
    have := List.head?_dropWhile_not sp l
    rw [h] at this
    simpa using this
  have hall : l.all sp = true ↔ l.dropWhile sp = [] := dropW_nil l
  rw [hall]
  have hT : ((l.dropWhile sp).reverse.takeWhile sp).length ≤ (l.dropWhile sp).length := by
    have := (List.takeWhile_sublist (l := (l.dropWhile sp).reverse) sp).length_le
    rwa [List.length_reverse] at this
  generalize l.dropWhile sp = m at *
  constructor
  · intro h
    have h2 := congrArg List.length h
    rw [List.length_take, List.length_nil] at h2
    have h3 : (m.reverse.takeWhile sp).length = m.reverse.length := by rw [List.length_reverse]; omega
    have h4 := takeWhile_full h3
    cases m with
    | nil => rfl
    | cons a r =>
      have := hd a r rfl
      rw [List.all_reverse, List.all_cons, this] at h4
      cases h4
  · intro h
    subst h
    simp
theorem s1_lstrip {l : List Nat} (h : l.length ≤ 16777216) : pS1 Txt.lstripChars (.str (strL l)) [.str " "] = some (S (l.dropWhile sp)) := by
  show (if (strL l).length ≤ sizeLine then some (PV.str (Txt.lstripChars (strL l) " ")) else none) = _
  rw [if_pos (by rw [strL_len, sizeLine_eq]; exact h), lstrip_eq]
theorem s1_strip {l : List Nat} (h : l.length ≤ 16777216) : pS1 Txt.stripChars (.str (strL l)) [.str " "] = some (.str (Txt.stripChars (strL l) " ")) := by
  show (if (strL l).length ≤ sizeLine then some (PV.str (Txt.stripChars (strL l) " ")) else none) = _
  rw [if_pos (by rw [strL_len, sizeLine_eq]; exact h)]
theorem sl_from {l : List Nat} {n : Nat} (h : l.length ≤ 16777216) : pSl (.str (strL l)) (some (n : Int)) none = some (S (l.drop n)) := by
  show (if (strL l).length ≤ sizeLine then some (PV.str (cutS (strL l) (some (n : Int)) none)) else none) = _
  rw [if_pos (by rw [strL_len, sizeLine_eq]; exact h)]
  unfold cutS
  rw [HT.sIx_nat, HT.sIx_none, strL_len, strL_list]
  congr 2
  show strL _ = strL _
  rw [strL_inj]
  by_cases hn : n ≤ l.length
  · rw [Nat.min_eq_left hn, List.take_of_length_le (by simp)]
  · rw [Nat.min_eq_right (by omega), List.drop_eq_nil_of_le (Nat.le_refl _), List.drop_eq_nil_of_le (by omega)]
    simp
theorem dropW_len (l : List Nat) : (l.dropWhile sp).length ≤ l.length := (List.dropWhile_sublist _).length_le
def restL (l : List Nat) (n : Nat) : List Nat := ((l.dropWhile sp).drop n).dropWhile sp
theorem restL_len (l : List Nat) (n : Nat) : (restL l n).length ≤ l.length := by
  unfold restL
  have h1 := dropW_len l
  have h2 := dropW_len ((l.dropWhile sp).drop n)
  rw [List.length_drop] at h2
  omega
theorem ev_rest {l h : List Nat} (hz : l.length < 16777216) (hh : h.length < 16777216) : Gives m_rest_behind [S l, S h] (S (restL l h.length)) := by
  refine gives_of ?_
  have h1 := dropW_len l
  have a1 := s1_lstrip (l := l) (by omega)
  have a2 := sl_from (l := l.dropWhile sp) (n := h.length) (by omega)
  have a3 := s1_lstrip (l := (l.dropWhile sp).drop h.length) (by rw [List.length_drop]; omega)
  have l1 : (strL h).length ≤ 16777216 := by rw [strL_len]; omega
  have e1 : mM1 (pS1 Txt.lstripChars) (mVar 0) (M.pure (.str " ")) [.fr (S l), .fr (S h)] = .ok (S (l.dropWhile sp)) [.fr (S l), .fr (S h)] := by
    rw [e_m1 (o := mVar 0) (z := strL l) (ρ' := [.fr (S l), .fr (S h)]) rfl]
    simp only [e_ok, e_err, e_bad, e_okS, e_errS, e_badS, e_nx, e_rt, e_bk, e_ct, e_ex, e_bd, e_bind, e_pure, e_some, e_none, e_op1, e_op2, e_cons, e_test, e_callP, e_if, e_and, e_or, e_not, e_andV, e_orV, e_andT, e_andF, e_orT, e_orF, e_chain, e_chT, e_chF, e_part, e_sl, e_var, e_varF, e_varO, e_look, e_lookF, e_lookO, e_look1, e_argV, e_argS, e_slot, e_slotF, e_slotO, e_call, e_frz, e_lstO, e_listO, e_anyI, e_sThen, e_seq, e_next, e_brk, e_cnt, e_ret, e_drop, e_set, e_setO, e_ifS, e_raise, e_exn, e_for, boolP, partP, List.getElem?_cons_zero, List.getElem?_cons_succ, List.set_cons_zero, List.set_cons_succ, if_true, if_false, Bool.false_eq_true, Bool.not_true, Bool.not_false, e_vrt, e_vnx, e_xer, e_append, e_appS, e_appK, e_aug, e_augS, e_augK, e_pair, e_fr, e_ow, pSz, pLen, pAdd, frzO, sizeLine_eq, List.length_cons, List.length_nil, Nat.reduceAdd, Nat.reduceLeDiff, Nat.reduceLT, Nat.zero_add, Nat.zero_le, Nat.reduceSub, List.nil_append, List.cons_append, List.append_nil, List.map_cons, List.map_nil, List.replicate, a1]
  have e2 : mSl pSl (mM1 (pS1 Txt.lstripChars) (mVar 0) (M.pure (.str " "))) (mPart (mCallP pLen (mCons (mVar 1) (M.pure [])))) (M.pure none) [.fr (S l), .fr (S h)] = .ok (S ((l.dropWhile sp).drop h.length)) [.fr (S l), .fr (S h)] := by
    rw [e_sl, e1]
    simp only [e_ok, e_err, e_bad, e_okS, e_errS, e_badS, e_nx, e_rt, e_bk, e_ct, e_ex, e_bd, e_bind, e_pure, e_some, e_none, e_op1, e_op2, e_cons, e_test, e_callP, e_if, e_and, e_or, e_not, e_andV, e_orV, e_andT, e_andF, e_orT, e_orF, e_chain, e_chT, e_chF, e_part, e_sl, e_var, e_varF, e_varO, e_look, e_lookF, e_lookO, e_look1, e_argV, e_argS, e_slot, e_slotF, e_slotO, e_call, e_frz, e_lstO, e_listO, e_anyI, e_sThen, e_seq, e_next, e_brk, e_cnt, e_ret, e_drop, e_set, e_setO, e_ifS, e_raise, e_exn, e_for, boolP, partP, List.getElem?_cons_zero, List.getElem?_cons_succ, List.set_cons_zero, List.set_cons_succ, if_true, if_false, Bool.false_eq_true, Bool.not_true, Bool.not_false, e_vrt, e_vnx, e_xer, e_append, e_appS, e_appK, e_aug, e_augS, e_augK, e_pair, e_fr, e_ow, pSz, pLen, pAdd, frzO, sizeLine_eq, List.length_cons, List.length_nil, Nat.reduceAdd, Nat.reduceLeDiff, Nat.reduceLT, Nat.zero_add, Nat.zero_le, Nat.reduceSub, List.nil_append, List.cons_append, List.append_nil, List.map_cons, List.map_nil, List.replicate, strL_len, if_pos (show h.length ≤ 16777216 by omega), a2]
  have e3 : mM1 (pS1 Txt.lstripChars) (mSl pSl (mM1 (pS1 Txt.lstripChars) (mVar 0) (M.pure (.str " "))) (mPart (mCallP pLen (mCons (mVar 1) (M.pure [])))) (M.pure none)) (M.pure (.str " ")) [.fr (S l), .fr (S h)] = .ok (S (restL l h.length)) [.fr (S l), .fr (S h)] := by
    rw [e_m1 e2]
    simp only [e_ok, e_err, e_bad, e_okS, e_errS, e_badS, e_nx, e_rt, e_bk, e_ct, e_ex, e_bd, e_bind, e_pure, e_some, e_none, e_op1, e_op2, e_cons, e_test, e_callP, e_if, e_and, e_or, e_not, e_andV, e_orV, e_andT, e_andF, e_orT, e_orF, e_chain, e_chT, e_chF, e_part, e_sl, e_var, e_varF, e_varO, e_look, e_lookF, e_lookO, e_look1, e_argV, e_argS, e_slot, e_slotF, e_slotO, e_call, e_frz, e_lstO, e_listO, e_anyI, e_sThen, e_seq, e_next, e_brk, e_cnt, e_ret, e_drop, e_set, e_setO, e_ifS, e_raise, e_exn, e_for, boolP, partP, List.getElem?_cons_zero, List.getElem?_cons_succ, List.set_cons_zero, List.set_cons_succ, if_true, if_false, Bool.false_eq_true, Bool.not_true, Bool.not_false, e_vrt, e_vnx, e_xer, e_append, e_appS, e_appK, e_aug, e_augS, e_augK, e_pair, e_fr, e_ow, pSz, pLen, pAdd, frzO, sizeLine_eq, List.length_cons, List.length_nil, Nat.reduceAdd, Nat.reduceLeDiff, Nat.reduceLT, Nat.zero_add, Nat.zero_le, Nat.reduceSub, List.nil_append, List.cons_append, List.append_nil, List.map_cons, List.map_nil, List.replicate, a3]
    rfl
  simp only [b_rest_behind, e_ok, e_err, e_bad, e_okS, e_errS, e_badS, e_nx, e_rt, e_bk, e_ct, e_ex, e_bd, e_bind, e_pure, e_some, e_none, e_op1, e_op2, e_cons, e_test, e_callP, e_if, e_and, e_or, e_not, e_andV, e_orV, e_andT, e_andF, e_orT, e_orF, e_chain, e_chT, e_chF, e_part, e_sl, e_var, e_varF, e_varO, e_look, e_lookF, e_lookO, e_look1, e_argV, e_argS, e_slot, e_slotF, e_slotO, e_call, e_frz, e_lstO, e_listO, e_anyI, e_sThen, e_seq, e_next, e_brk, e_cnt, e_ret, e_drop, e_set, e_setO, e_ifS, e_raise, e_exn, e_for, boolP, partP, List.getElem?_cons_zero, List.getElem?_cons_succ, List.set_cons_zero, List.set_cons_succ, if_true, if_false, Bool.false_eq_true, Bool.not_true, Bool.not_false, e_vrt, e_vnx, e_xer, e_append, e_appS, e_appK, e_aug, e_augS, e_augK, e_pair, e_fr, e_ow, pSz, pLen, pAdd, frzO, sizeLine_eq, List.length_cons, List.length_nil, Nat.reduceAdd, Nat.reduceLeDiff, Nat.reduceLT, Nat.zero_add, Nat.zero_le, Nat.reduceSub, List.nil_append, List.cons_append, List.append_nil, List.map_cons, List.map_nil, List.replicate, e3]
def semi (c : Nat) : Nat := if c = 59 then 10 else c
theorem ev_inner {l h : List Nat} {line : Int} (hz : l.length < 8000000) (hh : h.length < 16777216) (hs : (restL l h.length).all sp = false) : Gives m_read_inner [S l, S h, .int line] (.str (Txt.replace (strL (restL l h.length)) ";" "\n")) := by
  refine gives_of ?_
  have hr := restL_len l h.length
  have gr := ev_rest (l := l) (h := h) (by omega) hh
  have a1 := s1_strip (l := restL l h.length) (by omega)
  have a2 : pRepl ";" "\n" (S (restL l h.length)) = some (.str (Txt.replace (strL (restL l h.length)) ";" "\n")) := by
    show (if (strL (restL l h.length)).length + ((strL (restL l h.length)).length + 1) * ("\n" : Str).length ≤ 16777216 then some (PV.str (Txt.replace (strL (restL l h.length)) ";" "\n")) else none) = _
    rw [if_pos (by rw [strL_len, show ("\n" : Str).length = 1 by decide +kernel]; omega)]
  have e1 : mM1 (pS1 Txt.stripChars) (mVar 3) (M.pure (.str " ")) [.fr (S l), .fr (S h), .fr (.int line), .fr (S (restL l h.length))] = .ok (.str (Txt.stripChars (strL (restL l h.length)) " ")) [.fr (S l), .fr (S h), .fr (.int line), .fr (S (restL l h.length))] := by
    rw [e_m1 (o := mVar 3) (z := strL (restL l h.length)) (ρ' := [.fr (S l), .fr (S h), .fr (.int line), .fr (S (restL l h.length))]) rfl]
    simp only [e_ok, e_err, e_bad, e_okS, e_errS, e_badS, e_nx, e_rt, e_bk, e_ct, e_ex, e_bd, e_bind, e_pure, e_some, e_none, e_op1, e_op2, e_cons, e_test, e_callP, e_if, e_and, e_or, e_not, e_andV, e_orV, e_andT, e_andF, e_orT, e_orF, e_chain, e_chT, e_chF, e_part, e_sl, e_var, e_varF, e_varO, e_look, e_lookF, e_lookO, e_look1, e_argV, e_argS, e_slot, e_slotF, e_slotO, e_call, e_frz, e_lstO, e_listO, e_anyI, e_sThen, e_seq, e_next, e_brk, e_cnt, e_ret, e_drop, e_set, e_setO, e_ifS, e_raise, e_exn, e_for, boolP, partP, List.getElem?_cons_zero, List.getElem?_cons_succ, List.set_cons_zero, List.set_cons_succ, if_true, if_false, Bool.false_eq_true, Bool.not_true, Bool.not_false, e_vrt, e_vnx, e_xer, e_append, e_appS, e_appK, e_aug, e_augS, e_augK, e_pair, e_fr, e_ow, pSz, pLen, pAdd, frzO, sizeLine_eq, List.length_cons, List.length_nil, Nat.reduceAdd, Nat.reduceLeDiff, Nat.reduceLT, Nat.zero_add, Nat.zero_le, Nat.reduceSub, List.nil_append, List.cons_append, List.append_nil, List.map_cons, List.map_nil, List.replicate, a1]
  simp only [b_read_inner, e_ok, e_err, e_bad, e_okS, e_errS, e_badS, e_nx, e_rt, e_bk, e_ct, e_ex, e_bd, e_bind, e_pure, e_some, e_none, e_op1, e_op2, e_cons, e_test, e_callP, e_if, e_and, e_or, e_not, e_andV, e_orV, e_andT, e_andF, e_orT, e_orF, e_chain, e_chT, e_chF, e_part, e_sl, e_var, e_varF, e_varO, e_look, e_lookF, e_lookO, e_look1, e_argV, e_argS, e_slot, e_slotF, e_slotO, e_call, e_frz, e_lstO, e_listO, e_anyI, e_sThen, e_seq, e_next, e_brk, e_cnt, e_ret, e_drop, e_set, e_setO, e_ifS, e_raise, e_exn, e_for, boolP, partP, List.getElem?_cons_zero, List.getElem?_cons_succ, List.set_cons_zero, List.set_cons_succ, if_true, if_false, Bool.false_eq_true, Bool.not_true, Bool.not_false, e_vrt, e_vnx, e_xer, e_append, e_appS, e_appK, e_aug, e_augS, e_augK, e_pair, e_fr, e_ow, pSz, pLen, pAdd, frzO, sizeLine_eq, List.length_cons, List.length_nil, Nat.reduceAdd, Nat.reduceLeDiff, Nat.reduceLT, Nat.zero_add, Nat.zero_le, Nat.reduceSub, List.nil_append, List.cons_append, List.append_nil, List.map_cons, List.map_nil, List.replicate, c2 gr, e1, q_eqS, strip_empty, hs, a2]
theorem ev_inner_bad {l h : List Nat} {line : Int} (hz : l.length < 8000000) (hh : h.length < 16777216) (hs : (restL l h.length).all sp = true) : Throws m_read_inner [S l, S h, .int line] (bad 2 line) := by
  refine throws_of ?_
  have hr := restL_len l h.length
  have gr := ev_rest (l := l) (h := h) (by omega) hh
  have a1 := s1_strip (l := restL l h.length) (by omega)
  have e1 : mM1 (pS1 Txt.stripChars) (mVar 3) (M.pure (.str " ")) [.fr (S l), .fr (S h), .fr (.int line), .fr (S (restL l h.length))] = .ok (.str (Txt.stripChars (strL (restL l h.length)) " ")) [.fr (S l), .fr (S h), .fr (.int line), .fr (S (restL l h.length))] := by
    rw [e_m1 (o := mVar 3) (z := strL (restL l h.length)) (ρ' := [.fr (S l), .fr (S h), .fr (.int line), .fr (S (restL l h.length))]) rfl]
    simp only [e_ok, e_err, e_bad, e_okS, e_errS, e_badS, e_nx, e_rt, e_bk, e_ct, e_ex, e_bd, e_bind, e_pure, e_some, e_none, e_op1, e_op2, e_cons, e_test, e_callP, e_if, e_and, e_or, e_not, e_andV, e_orV, e_andT, e_andF, e_orT, e_orF, e_chain, e_chT, e_chF, e_part, e_sl, e_var, e_varF, e_varO, e_look, e_lookF, e_lookO, e_look1, e_argV, e_argS, e_slot, e_slotF, e_slotO, e_call, e_frz, e_lstO, e_listO, e_anyI, e_sThen, e_seq, e_next, e_brk, e_cnt, e_ret, e_drop, e_set, e_setO, e_ifS, e_raise, e_exn, e_for, boolP, partP, List.getElem?_cons_zero, List.getElem?_cons_succ, List.set_cons_zero, List.set_cons_succ, if_true, if_false, Bool.false_eq_true, Bool.not_true, Bool.not_false, e_vrt, e_vnx, e_xer, e_append, e_appS, e_appK, e_aug, e_augS, e_augK, e_pair, e_fr, e_ow, pSz, pLen, pAdd, frzO, sizeLine_eq, List.length_cons, List.length_nil, Nat.reduceAdd, Nat.reduceLeDiff, Nat.reduceLT, Nat.zero_add, Nat.zero_le, Nat.reduceSub, List.nil_append, List.cons_append, List.append_nil, List.map_cons, List.map_nil, List.replicate, a1]
  simp only [b_read_inner, e_ok, e_err, e_bad, e_okS, e_errS, e_badS, e_nx, e_rt, e_bk, e_ct, e_ex, e_bd, e_bind, e_pure, e_some, e_none, e_op1, e_op2, e_cons, e_test, e_callP, e_if, e_and, e_or, e_not, e_andV, e_orV, e_andT, e_andF, e_orT, e_orF, e_chain, e_chT, e_chF, e_part, e_sl, e_var, e_varF, e_varO, e_look, e_lookF, e_lookO, e_look1, e_argV, e_argS, e_slot, e_slotF, e_slotO, e_call, e_frz, e_lstO, e_listO, e_anyI, e_sThen, e_seq, e_next, e_brk, e_cnt, e_ret, e_drop, e_set, e_setO, e_ifS, e_raise, e_exn, e_for, boolP, partP, List.getElem?_cons_zero, List.getElem?_cons_succ, List.set_cons_zero, List.set_cons_succ, if_true, if_false, Bool.false_eq_true, Bool.not_true, Bool.not_false, e_vrt, e_vnx, e_xer, e_append, e_appS, e_appK, e_aug, e_augS, e_augK, e_pair, e_fr, e_ow, pSz, pLen, pAdd, frzO, sizeLine_eq, List.length_cons, List.length_nil, Nat.reduceAdd, Nat.reduceLeDiff, Nat.reduceLT, Nat.zero_add, Nat.zero_le, Nat.reduceSub, List.nil_append, List.cons_append, List.append_nil, List.map_cons, List.map_nil, List.replicate, c2 gr, e1, q_eqS, strip_empty, hs, List.reverse_cons, List.reverse_nil, and_self]
  rfl
end K75

set_option linter.all false
set_option maxRecDepth 100000
set_option maxHeartbeats 2000000
namespace K75
open PySem PySem.Spec PyProof.Rows L2 LamX VS
/-! ### the question of a line -/
abbrev cl (x : Str) : List Nat := x.cps.toList
theorem strL_cl (x : Str) : strL (cl x) = x := rfl
theorem eq_cl {x : Str} {l : List Nat} : (x == strL l) = decide (l = cl x) := by
  rw [Bool.eq_iff_iff, beq_iff_eq, decide_eq_true_eq]
  constructor
  · intro h; rw [h]; exact (strL_list l).symm
  · intro h; rw [h]; rfl
theorem cl_eq {x : Str} {l : List Nat} : (strL l == x) = decide (l = cl x) := by
  rw [← eq_cl, Bool.eq_iff_iff, beq_iff_eq, beq_iff_eq]; exact eq_comm
def okL (l : List Nat) : Bool := l.all fun c => decide (c < 1114112)
theorem okL_str {l : List Nat} (h : okL l = true) : PyData.strOk (strL l) = true := by
  unfold PyData.strOk
  rw [← Array.all_toList]
  exact h
theorem toksAt_mem {zl : List Nat} : ∀ {f i : Nat} {t : List Nat}, t ∈ toksAt zl f i → ∃ j n, t = (zl.drop j).take n
  | 0, _, _, h => nomatch h
  | f + 1, i, t, h => by
    unfold toksAt at h
    split at h
    · cases h
    · split at h
      · exact toksAt_mem h
      · rcases List.mem_cons.mp h with h | h
        · exact ⟨_, _, h⟩
        · exact toksAt_mem h
theorem toks_len {zl t : List Nat} (h : t ∈ toks zl) : t.length ≤ zl.length := by
  obtain ⟨j, n, rfl⟩ := toksAt_mem h
  rw [List.length_take, List.length_drop]
  omega
theorem toks_ok {zl t : List Nat} (hz : okL zl = true) (h : t ∈ toks zl) : okL t = true := by
  obtain ⟨j, n, rfl⟩ := toksAt_mem h
  unfold okL at hz ⊢
  rw [List.all_eq_true] at hz ⊢
  exact fun c hc => hz c (List.mem_of_mem_drop (List.mem_of_mem_take hc))
def fF (x : Str) : Bool := [("flow" : Str), "sided"].any fun y : Str => y == x
def fB (x : Str) : Bool := [("barred" : Str), "rooms", "period", "ring", "zeta", "least", "parts", "sign"].any fun y : Str => y == x
def fN (x : Str) : Bool := [("count" : Str), "closed", "rate", "below"].any fun y : Str => y == x
def fA (x : Str) : Bool := x == "allowed"
def fW (x : Str) : Bool := x == "below"
theorem in_F {x : Str} : pIn (.str x) (.tup [.str "flow", .str "sided"]) = some (.bl (fF x)) := in_tup ["flow", "sided"]
theorem in_B {x : Str} : pIn (.str x) g_BARE = some (.bl (fB x)) := in_tup ["barred", "rooms", "period", "ring", "zeta", "least", "parts", "sign"]
theorem in_N {x : Str} : pIn (.str x) g_NUMBERED = some (.bl (fN x)) := in_tup ["count", "closed", "rate", "below"]
theorem map_S (ts : List (List Nat)) : ts.map S = (ts.map strL).map PV.str := by rw [List.map_map]; rfl
structure Line (l : List Nat) (ts : List (List Nat)) : Prop where
  len : l.length < 8000000
  ok : okL l = true
  ts : toks l = ts
section
variable {l : List Nat} {ts : List (List Nat)}
theorem Line.tok (h : Line l ts) : Gives m_tokens_of [S l] (.lst (ts.map S)) := by
  have := ev_tokens (strL l) (by rw [strL_len]; have := h.len; omega)
  rw [strL_list, h.ts] at this
  exact this
theorem Line.small (h : Line l ts) : ∀ t ∈ ts, t.length < 16777216 := fun t ht => by
  have := toks_len (h.ts ▸ ht)
  have := h.len
  omega
theorem Line.ne (h : Line l ts) : pNe (.lst (ts.map S)) (.lst []) = some (.bl (!ts.isEmpty)) := by
  rw [map_S, ne_nil fun s hs => ?_]
  · cases ts <;> rfl
  · obtain ⟨t, ht, rfl⟩ := List.mem_map.mp hs
    exact okL_str (toks_ok h.ok (h.ts ▸ ht))
end
theorem q_top {l : List Nat} {p : PV} (h : Gives m_question_in [S l, .int 1] p) : Gives m_question_of_text [S l] p := by
  refine gives_of ?_
  simp only [b_question_of_text, e_ok, e_err, e_bad, e_okS, e_errS, e_badS, e_nx, e_rt, e_bk, e_ct, e_ex, e_bd, e_bind, e_pure, e_some, e_none, e_op1, e_op2, e_cons, e_test, e_callP, e_if, e_and, e_or, e_not, e_andV, e_orV, e_andT, e_andF, e_orT, e_orF, e_chain, e_chT, e_chF, e_part, e_sl, e_var, e_varF, e_varO, e_look, e_lookF, e_lookO, e_look1, e_argV, e_argS, e_slot, e_slotF, e_slotO, e_call, e_frz, e_lstO, e_listO, e_anyI, e_sThen, e_seq, e_next, e_brk, e_cnt, e_ret, e_drop, e_set, e_setO, e_ifS, e_raise, e_exn, e_for, boolP, partP, List.getElem?_cons_zero, List.getElem?_cons_succ, List.set_cons_zero, List.set_cons_succ, if_true, if_false, Bool.false_eq_true, Bool.not_true, Bool.not_false, e_vrt, e_vnx, e_xer, e_append, e_appS, e_appK, e_aug, e_augS, e_augK, e_pair, e_fr, e_ow, pSz, pLen, pAdd, frzO, sizeLine_eq, List.length_cons, List.length_nil, Nat.reduceAdd, Nat.reduceLeDiff, Nat.reduceLT, Nat.zero_add, Nat.zero_le, Nat.reduceSub, List.nil_append, List.cons_append, List.append_nil, List.map_cons, List.map_nil, List.replicate, c1 (ev_string (strL l)), c2 h]
theorem q_topE {l : List Nat} {x : Exn} (h : Throws m_question_in [S l, .int 1] x) : Throws m_question_of_text [S l] x := by
  refine throws_of ?_
  simp only [b_question_of_text, e_ok, e_err, e_bad, e_okS, e_errS, e_badS, e_nx, e_rt, e_bk, e_ct, e_ex, e_bd, e_bind, e_pure, e_some, e_none, e_op1, e_op2, e_cons, e_test, e_callP, e_if, e_and, e_or, e_not, e_andV, e_orV, e_andT, e_andF, e_orT, e_orF, e_chain, e_chT, e_chF, e_part, e_sl, e_var, e_varF, e_varO, e_look, e_lookF, e_lookO, e_look1, e_argV, e_argS, e_slot, e_slotF, e_slotO, e_call, e_frz, e_lstO, e_listO, e_anyI, e_sThen, e_seq, e_next, e_brk, e_cnt, e_ret, e_drop, e_set, e_setO, e_ifS, e_raise, e_exn, e_for, boolP, partP, List.getElem?_cons_zero, List.getElem?_cons_succ, List.set_cons_zero, List.set_cons_succ, if_true, if_false, Bool.false_eq_true, Bool.not_true, Bool.not_false, e_vrt, e_vnx, e_xer, e_append, e_appS, e_appK, e_aug, e_augS, e_augK, e_pair, e_fr, e_ow, pSz, pLen, pAdd, frzO, sizeLine_eq, List.length_cons, List.length_nil, Nat.reduceAdd, Nat.reduceLeDiff, Nat.reduceLT, Nat.zero_add, Nat.zero_le, Nat.reduceSub, List.nil_append, List.cons_append, List.append_nil, List.map_cons, List.map_nil, List.replicate, c1 (ev_string (strL l)), c2e h]
theorem head_ix {t : List Nat} {ts : List (List Nat)} : pIx (.lst (S t :: ts.map S)) (.int 0) = some (S t) := ix_tok (ts := t :: ts) (i := 0) rfl
theorem Line.ne1 {l h : List Nat} {r : List (List Nat)} (L : Line l (h :: r)) : pNe (.lst (S h :: r.map S)) (.lst []) = some (.bl true) := L.ne
theorem Line.ne0 {l : List Nat} (L : Line l []) : pNe (.lst []) (.lst []) = some (.bl false) := L.ne
theorem end_ok {ts : List PV} {us : List (List Nat)} (i : Nat) (e : ts = us.map S) (h : us.length ≤ i) : Gives m_need_end [.lst ts, .int (i : Nat), .int 1] .non := by rw [e]; exact ev_end h
theorem end_bad {ts : List PV} {us : List (List Nat)} (i : Nat) (e : ts = us.map S) (h : i < us.length) : Throws m_need_end [.lst ts, .int (i : Nat), .int 1] (bad (i + 1) 1) := by rw [e]; exact ev_end_bad h
theorem ev_q_flow {l h : List Nat} {r : List (List Nat)} (L : Line l (h :: r)) (hF : fF (strL h) = true) (hs : (restL l h.length).all sp = false) : Gives m_question_of_text [S l] (.tup [S h, .str (Txt.replace (strL (restL l h.length)) ";" "\n")]) := by
  refine q_top (gives_of ?_)
  have hh := L.small h List.mem_cons_self
  have gi := ev_inner (l := l) (h := h) (line := 1) L.len hh hs
  simp only [b_question_in, e_ok, e_err, e_bad, e_okS, e_errS, e_badS, e_nx, e_rt, e_bk, e_ct, e_ex, e_bd, e_bind, e_pure, e_some, e_none, e_op1, e_op2, e_cons, e_test, e_callP, e_if, e_and, e_or, e_not, e_andV, e_orV, e_andT, e_andF, e_orT, e_orF, e_chain, e_chT, e_chF, e_part, e_sl, e_var, e_varF, e_varO, e_look, e_lookF, e_lookO, e_look1, e_argV, e_argS, e_slot, e_slotF, e_slotO, e_call, e_frz, e_lstO, e_listO, e_anyI, e_sThen, e_seq, e_next, e_brk, e_cnt, e_ret, e_drop, e_set, e_setO, e_ifS, e_raise, e_exn, e_for, boolP, partP, List.getElem?_cons_zero, List.getElem?_cons_succ, List.set_cons_zero, List.set_cons_succ, if_true, if_false, Bool.false_eq_true, Bool.not_true, Bool.not_false, e_vrt, e_vnx, e_xer, e_append, e_appS, e_appK, e_aug, e_augS, e_augK, e_pair, e_fr, e_ow, pSz, pLen, pAdd, frzO, sizeLine_eq, List.length_cons, List.length_nil, Nat.reduceAdd, Nat.reduceLeDiff, Nat.reduceLT, Nat.zero_add, Nat.zero_le, Nat.reduceSub, List.nil_append, List.cons_append, List.append_nil, List.map_cons, List.map_nil, List.replicate, c1 L.tok, L.ne1, head_ix, in_F, hF, c3 gi]
theorem ev_q_flow_bad {l h : List Nat} {r : List (List Nat)} (L : Line l (h :: r)) (hF : fF (strL h) = true) (hs : (restL l h.length).all sp = true) : Throws m_question_of_text [S l] (bad 2 1) := by
  refine q_topE (throws_of ?_)
  have hh := L.small h List.mem_cons_self
  have gi := ev_inner_bad (l := l) (h := h) (line := 1) L.len hh hs
  simp only [b_question_in, e_ok, e_err, e_bad, e_okS, e_errS, e_badS, e_nx, e_rt, e_bk, e_ct, e_ex, e_bd, e_bind, e_pure, e_some, e_none, e_op1, e_op2, e_cons, e_test, e_callP, e_if, e_and, e_or, e_not, e_andV, e_orV, e_andT, e_andF, e_orT, e_orF, e_chain, e_chT, e_chF, e_part, e_sl, e_var, e_varF, e_varO, e_look, e_lookF, e_lookO, e_look1, e_argV, e_argS, e_slot, e_slotF, e_slotO, e_call, e_frz, e_lstO, e_listO, e_anyI, e_sThen, e_seq, e_next, e_brk, e_cnt, e_ret, e_drop, e_set, e_setO, e_ifS, e_raise, e_exn, e_for, boolP, partP, List.getElem?_cons_zero, List.getElem?_cons_succ, List.set_cons_zero, List.set_cons_succ, if_true, if_false, Bool.false_eq_true, Bool.not_true, Bool.not_false, e_vrt, e_vnx, e_xer, e_append, e_appS, e_appK, e_aug, e_augS, e_augK, e_pair, e_fr, e_ow, pSz, pLen, pAdd, frzO, sizeLine_eq, List.length_cons, List.length_nil, Nat.reduceAdd, Nat.reduceLeDiff, Nat.reduceLT, Nat.zero_add, Nat.zero_le, Nat.reduceSub, List.nil_append, List.cons_append, List.append_nil, List.map_cons, List.map_nil, List.replicate, c1 L.tok, L.ne1, head_ix, in_F, hF, c3e gi]
theorem fin1 {ts : List (List Nat)} (h : ts.length ≤ 1) : Gives m_need_end [.lst (ts.map S), .int ((1 : Nat) : Int), .int 1] .non := ev_end h
theorem ev_q_bare {l h : List Nat} (L : Line l [h]) (hF : fF (strL h) = false) (hB : fB (strL h) = true) : Gives m_question_of_text [S l] (.tup [S h]) := by
  refine q_top (gives_of ?_)
  have ne1 : pNe (.lst [S h]) (.lst []) = some (.bl true) := L.ne1
  have hi : pIx (.lst [S h]) (.int 0) = some (S h) := head_ix (ts := [])
  simp only [b_question_in, e_ok, e_err, e_bad, e_okS, e_errS, e_badS, e_nx, e_rt, e_bk, e_ct, e_ex, e_bd, e_bind, e_pure, e_some, e_none, e_op1, e_op2, e_cons, e_test, e_callP, e_if, e_and, e_or, e_not, e_andV, e_orV, e_andT, e_andF, e_orT, e_orF, e_chain, e_chT, e_chF, e_part, e_sl, e_var, e_varF, e_varO, e_look, e_lookF, e_lookO, e_look1, e_argV, e_argS, e_slot, e_slotF, e_slotO, e_call, e_frz, e_lstO, e_listO, e_anyI, e_sThen, e_seq, e_next, e_brk, e_cnt, e_ret, e_drop, e_set, e_setO, e_ifS, e_raise, e_exn, e_for, boolP, partP, List.getElem?_cons_zero, List.getElem?_cons_succ, List.set_cons_zero, List.set_cons_succ, if_true, if_false, Bool.false_eq_true, Bool.not_true, Bool.not_false, e_vrt, e_vnx, e_xer, e_append, e_appS, e_appK, e_aug, e_augS, e_augK, e_pair, e_fr, e_ow, pSz, pLen, pAdd, frzO, sizeLine_eq, List.length_cons, List.length_nil, Nat.reduceAdd, Nat.reduceLeDiff, Nat.reduceLT, Nat.zero_add, Nat.zero_le, Nat.reduceSub, List.nil_append, List.cons_append, List.append_nil, List.map_cons, List.map_nil, List.replicate, c1 L.tok, ne1, hi, in_F, hF, in_B, hB, c3 (end_ok (ts := [S h]) (us := [h]) 1 rfl (by simp))]
theorem ev_q_bare_bad {l h : List Nat} {r : List (List Nat)} (L : Line l (h :: r)) (hr : r ≠ []) (hF : fF (strL h) = false) (hB : fB (strL h) = true) : Throws m_question_of_text [S l] (bad 2 1) := by
  refine q_topE (throws_of ?_)
  have hl : 1 < (h :: r).length := by cases r with | nil => exact (hr rfl).elim | cons => simp
  simp only [b_question_in, e_ok, e_err, e_bad, e_okS, e_errS, e_badS, e_nx, e_rt, e_bk, e_ct, e_ex, e_bd, e_bind, e_pure, e_some, e_none, e_op1, e_op2, e_cons, e_test, e_callP, e_if, e_and, e_or, e_not, e_andV, e_orV, e_andT, e_andF, e_orT, e_orF, e_chain, e_chT, e_chF, e_part, e_sl, e_var, e_varF, e_varO, e_look, e_lookF, e_lookO, e_look1, e_argV, e_argS, e_slot, e_slotF, e_slotO, e_call, e_frz, e_lstO, e_listO, e_anyI, e_sThen, e_seq, e_next, e_brk, e_cnt, e_ret, e_drop, e_set, e_setO, e_ifS, e_raise, e_exn, e_for, boolP, partP, List.getElem?_cons_zero, List.getElem?_cons_succ, List.set_cons_zero, List.set_cons_succ, if_true, if_false, Bool.false_eq_true, Bool.not_true, Bool.not_false, e_vrt, e_vnx, e_xer, e_append, e_appS, e_appK, e_aug, e_augS, e_augK, e_pair, e_fr, e_ow, pSz, pLen, pAdd, frzO, sizeLine_eq, List.length_cons, List.length_nil, Nat.reduceAdd, Nat.reduceLeDiff, Nat.reduceLT, Nat.zero_add, Nat.zero_le, Nat.reduceSub, List.nil_append, List.cons_append, List.append_nil, List.map_cons, List.map_nil, List.replicate, c1 L.tok, L.ne1, head_ix, in_F, hF, in_B, hB, c3e (end_bad (ts := S h :: r.map S) (us := h :: r) 1 rfl hl)]
  rfl
theorem ev_q_word {l h : List Nat} {r : List (List Nat)} {w : List PV} (L : Line l (h :: r)) (hr : r.length = 1) (hF : fF (strL h) = false) (hB : fB (strL h) = false) (hA : fA (strL h) = true) (hw : Gives m_read_word [.lst (S h :: r.map S), .int 1, .int 1] (.tup w)) : Gives m_question_of_text [S l] (.tup [S h, .tup w]) := by
  refine q_top (gives_of ?_)
  have e : (strL h == ("allowed" : Str)) = true := hA
  simp only [b_question_in, e_ok, e_err, e_bad, e_okS, e_errS, e_badS, e_nx, e_rt, e_bk, e_ct, e_ex, e_bd, e_bind, e_pure, e_some, e_none, e_op1, e_op2, e_cons, e_test, e_callP, e_if, e_and, e_or, e_not, e_andV, e_orV, e_andT, e_andF, e_orT, e_orF, e_chain, e_chT, e_chF, e_part, e_sl, e_var, e_varF, e_varO, e_look, e_lookF, e_lookO, e_look1, e_argV, e_argS, e_slot, e_slotF, e_slotO, e_call, e_frz, e_lstO, e_listO, e_anyI, e_sThen, e_seq, e_next, e_brk, e_cnt, e_ret, e_drop, e_set, e_setO, e_ifS, e_raise, e_exn, e_for, boolP, partP, List.getElem?_cons_zero, List.getElem?_cons_succ, List.set_cons_zero, List.set_cons_succ, if_true, if_false, Bool.false_eq_true, Bool.not_true, Bool.not_false, e_vrt, e_vnx, e_xer, e_append, e_appS, e_appK, e_aug, e_augS, e_augK, e_pair, e_fr, e_ow, pSz, pLen, pAdd, frzO, sizeLine_eq, List.length_cons, List.length_nil, Nat.reduceAdd, Nat.reduceLeDiff, Nat.reduceLT, Nat.zero_add, Nat.zero_le, Nat.reduceSub, List.nil_append, List.cons_append, List.append_nil, List.map_cons, List.map_nil, List.replicate, c1 L.tok, L.ne1, head_ix, in_F, hF, in_B, hB, q_eqS, e, c3 hw, c3 (end_ok (ts := S h :: r.map S) (us := h :: r) 2 rfl (by simp [hr]))]
theorem ev_q_word_more {l h : List Nat} {r : List (List Nat)} {w : List PV} (L : Line l (h :: r)) (hr : 1 < r.length) (hF : fF (strL h) = false) (hB : fB (strL h) = false) (hA : fA (strL h) = true) (hw : Gives m_read_word [.lst (S h :: r.map S), .int 1, .int 1] (.tup w)) : Throws m_question_of_text [S l] (bad 3 1) := by
  refine q_topE (throws_of ?_)
  have e : (strL h == ("allowed" : Str)) = true := hA
  simp only [b_question_in, e_ok, e_err, e_bad, e_okS, e_errS, e_badS, e_nx, e_rt, e_bk, e_ct, e_ex, e_bd, e_bind, e_pure, e_some, e_none, e_op1, e_op2, e_cons, e_test, e_callP, e_if, e_and, e_or, e_not, e_andV, e_orV, e_andT, e_andF, e_orT, e_orF, e_chain, e_chT, e_chF, e_part, e_sl, e_var, e_varF, e_varO, e_look, e_lookF, e_lookO, e_look1, e_argV, e_argS, e_slot, e_slotF, e_slotO, e_call, e_frz, e_lstO, e_listO, e_anyI, e_sThen, e_seq, e_next, e_brk, e_cnt, e_ret, e_drop, e_set, e_setO, e_ifS, e_raise, e_exn, e_for, boolP, partP, List.getElem?_cons_zero, List.getElem?_cons_succ, List.set_cons_zero, List.set_cons_succ, if_true, if_false, Bool.false_eq_true, Bool.not_true, Bool.not_false, e_vrt, e_vnx, e_xer, e_append, e_appS, e_appK, e_aug, e_augS, e_augK, e_pair, e_fr, e_ow, pSz, pLen, pAdd, frzO, sizeLine_eq, List.length_cons, List.length_nil, Nat.reduceAdd, Nat.reduceLeDiff, Nat.reduceLT, Nat.zero_add, Nat.zero_le, Nat.reduceSub, List.nil_append, List.cons_append, List.append_nil, List.map_cons, List.map_nil, List.replicate, c1 L.tok, L.ne1, head_ix, in_F, hF, in_B, hB, q_eqS, e, c3 hw, c3e (end_bad (ts := S h :: r.map S) (us := h :: r) 2 rfl (by simp; omega))]
  rfl
theorem ev_q_word_bad {l h : List Nat} {r : List (List Nat)} (L : Line l (h :: r)) (hF : fF (strL h) = false) (hB : fB (strL h) = false) (hA : fA (strL h) = true) (hw : Throws m_read_word [.lst (S h :: r.map S), .int 1, .int 1] (bad (1 + 1) 1)) : Throws m_question_of_text [S l] (bad 2 1) := by
  refine q_topE (throws_of ?_)
  have e : (strL h == ("allowed" : Str)) = true := hA
  simp only [b_question_in, e_ok, e_err, e_bad, e_okS, e_errS, e_badS, e_nx, e_rt, e_bk, e_ct, e_ex, e_bd, e_bind, e_pure, e_some, e_none, e_op1, e_op2, e_cons, e_test, e_callP, e_if, e_and, e_or, e_not, e_andV, e_orV, e_andT, e_andF, e_orT, e_orF, e_chain, e_chT, e_chF, e_part, e_sl, e_var, e_varF, e_varO, e_look, e_lookF, e_lookO, e_look1, e_argV, e_argS, e_slot, e_slotF, e_slotO, e_call, e_frz, e_lstO, e_listO, e_anyI, e_sThen, e_seq, e_next, e_brk, e_cnt, e_ret, e_drop, e_set, e_setO, e_ifS, e_raise, e_exn, e_for, boolP, partP, List.getElem?_cons_zero, List.getElem?_cons_succ, List.set_cons_zero, List.set_cons_succ, if_true, if_false, Bool.false_eq_true, Bool.not_true, Bool.not_false, e_vrt, e_vnx, e_xer, e_append, e_appS, e_appK, e_aug, e_augS, e_augK, e_pair, e_fr, e_ow, pSz, pLen, pAdd, frzO, sizeLine_eq, List.length_cons, List.length_nil, Nat.reduceAdd, Nat.reduceLeDiff, Nat.reduceLT, Nat.zero_add, Nat.zero_le, Nat.reduceSub, List.nil_append, List.cons_append, List.append_nil, List.map_cons, List.map_nil, List.replicate, c1 L.tok, L.ne1, head_ix, in_F, hF, in_B, hB, q_eqS, e, c3e hw]
  rfl
theorem ev_q_none {l h : List Nat} {r : List (List Nat)} (L : Line l (h :: r)) (hF : fF (strL h) = false) (hB : fB (strL h) = false) (hA : fA (strL h) = false) (hN : fN (strL h) = false) : Throws m_question_of_text [S l] (bad 1 1) := by
  refine q_topE (throws_of ?_)
  have e : (strL h == ("allowed" : Str)) = false := hA
  simp only [b_question_in, e_ok, e_err, e_bad, e_okS, e_errS, e_badS, e_nx, e_rt, e_bk, e_ct, e_ex, e_bd, e_bind, e_pure, e_some, e_none, e_op1, e_op2, e_cons, e_test, e_callP, e_if, e_and, e_or, e_not, e_andV, e_orV, e_andT, e_andF, e_orT, e_orF, e_chain, e_chT, e_chF, e_part, e_sl, e_var, e_varF, e_varO, e_look, e_lookF, e_lookO, e_look1, e_argV, e_argS, e_slot, e_slotF, e_slotO, e_call, e_frz, e_lstO, e_listO, e_anyI, e_sThen, e_seq, e_next, e_brk, e_cnt, e_ret, e_drop, e_set, e_setO, e_ifS, e_raise, e_exn, e_for, boolP, partP, List.getElem?_cons_zero, List.getElem?_cons_succ, List.set_cons_zero, List.set_cons_succ, if_true, if_false, Bool.false_eq_true, Bool.not_true, Bool.not_false, e_vrt, e_vnx, e_xer, e_append, e_appS, e_appK, e_aug, e_augS, e_augK, e_pair, e_fr, e_ow, pSz, pLen, pAdd, frzO, sizeLine_eq, List.length_cons, List.length_nil, Nat.reduceAdd, Nat.reduceLeDiff, Nat.reduceLT, Nat.zero_add, Nat.zero_le, Nat.reduceSub, List.nil_append, List.cons_append, List.append_nil, List.map_cons, List.map_nil, List.replicate, c1 L.tok, L.ne1, head_ix, in_F, hF, in_B, hB, q_eqS, e, in_N, hN, List.reverse_cons, List.reverse_nil, and_self]
  rfl
theorem ev_q_empty {l : List Nat} (L : Line l []) : Throws m_question_of_text [S l] (bad 1 1) := by
  refine q_topE (throws_of ?_)
  have e : (("" : Str) == ("allowed" : Str)) = false := by decide +kernel
  have hF : fF "" = false := by decide +kernel
  have hB : fB "" = false := by decide +kernel
  have hN : fN "" = false := by decide +kernel
  simp only [b_question_in, e_ok, e_err, e_bad, e_okS, e_errS, e_badS, e_nx, e_rt, e_bk, e_ct, e_ex, e_bd, e_bind, e_pure, e_some, e_none, e_op1, e_op2, e_cons, e_test, e_callP, e_if, e_and, e_or, e_not, e_andV, e_orV, e_andT, e_andF, e_orT, e_orF, e_chain, e_chT, e_chF, e_part, e_sl, e_var, e_varF, e_varO, e_look, e_lookF, e_lookO, e_look1, e_argV, e_argS, e_slot, e_slotF, e_slotO, e_call, e_frz, e_lstO, e_listO, e_anyI, e_sThen, e_seq, e_next, e_brk, e_cnt, e_ret, e_drop, e_set, e_setO, e_ifS, e_raise, e_exn, e_for, boolP, partP, List.getElem?_cons_zero, List.getElem?_cons_succ, List.set_cons_zero, List.set_cons_succ, if_true, if_false, Bool.false_eq_true, Bool.not_true, Bool.not_false, e_vrt, e_vnx, e_xer, e_append, e_appS, e_appK, e_aug, e_augS, e_augK, e_pair, e_fr, e_ow, pSz, pLen, pAdd, frzO, sizeLine_eq, List.length_cons, List.length_nil, Nat.reduceAdd, Nat.reduceLeDiff, Nat.reduceLT, Nat.zero_add, Nat.zero_le, Nat.reduceSub, List.nil_append, List.cons_append, List.append_nil, List.map_cons, List.map_nil, List.replicate, c1 L.tok, L.ne0, in_F, hF, in_B, hB, q_eqS, e, in_N, hN, List.reverse_cons, List.reverse_nil, and_self]
  rfl
end K75

set_option linter.all false
set_option maxRecDepth 100000
set_option maxHeartbeats 2000000
namespace K75
open PySem PySem.Spec PyProof.Rows L2 LamX VS
/-! ### lines of numbers -/
theorem rng12 : pRange2 (.int 1) (.int 2) = some [.int 1] := rfl
theorem rng13 : pRange2 (.int 1) (.int 3) = some [.int 1, .int 2] := rfl
theorem e_range2 {m n : M PV} {ρ : PEnv} : mRange2 m n ρ = Res.bnd (m ρ) fun p => M.bind n fun q => M.lift (pRange2 p q) := e_bind
def nf (ts : List (List Nat)) : PV → PV
  | .int i => .int (numV (ts.getD i.toNat []))
  | _ => .non
abbrev rdN : M PV := mCall m_read_numeral (mArgV (mVar 2) (mArgV (mVar 6) (mArgV (mVar 1) (mArgV (M.pure (.int 0)) (mArgV (M.pure g_MOST_SHOWN) (M.pure []))))))
section
variable {l h : List Nat} {r : List (List Nat)}
theorem readnum_at {ts : List (List Nat)} {i : Nat} {t : List Nat} {ps : List PV} {a b c d : Sl} (hp : ps = ts.map S) (hl : ts[i]? = some t) (hz : t.length < 16777216) (hn : isNum t 2 = true) : rdN [a, .fr (.int 1), .fr (.lst ps), b, c, d, .fr (.int i)] = .ok (nf ts (.int i)) [a, .fr (.int 1), .fr (.lst ps), b, c, d, .fr (.int i)] := by
  have g := ev_readnum (line := 1) hl hz hn
  rw [← hp] at g
  have e : nf ts (.int i) = .int (numV t) := by
    show PV.int (numV (ts.getD (i : Int).toNat [])) = _
    rw [Int.toNat_natCast, List.getD_eq_getElem?_getD, hl]; rfl
  rw [e]
  simp only [e_ok, e_err, e_bad, e_okS, e_errS, e_badS, e_nx, e_rt, e_bk, e_ct, e_ex, e_bd, e_bind, e_pure, e_some, e_none, e_op1, e_op2, e_cons, e_test, e_callP, e_if, e_and, e_or, e_not, e_andV, e_orV, e_andT, e_andF, e_orT, e_orF, e_chain, e_chT, e_chF, e_part, e_sl, e_var, e_varF, e_varO, e_look, e_lookF, e_lookO, e_look1, e_argV, e_argS, e_slot, e_slotF, e_slotO, e_call, e_frz, e_lstO, e_listO, e_anyI, e_sThen, e_seq, e_next, e_brk, e_cnt, e_ret, e_drop, e_set, e_setO, e_ifS, e_raise, e_exn, e_for, boolP, partP, List.getElem?_cons_zero, List.getElem?_cons_succ, List.set_cons_zero, List.set_cons_succ, if_true, if_false, Bool.false_eq_true, Bool.not_true, Bool.not_false, e_vrt, e_vnx, e_xer, e_append, e_appS, e_appK, e_aug, e_augS, e_augK, e_pair, e_fr, e_ow, pSz, pLen, pAdd, frzO, sizeLine_eq, List.length_cons, List.length_nil, Nat.reduceAdd, Nat.reduceLeDiff, Nat.reduceLT, Nat.zero_add, Nat.zero_le, Nat.reduceSub, List.nil_append, List.cons_append, List.append_nil, List.map_cons, List.map_nil, List.replicate, g_MOST_SHOWN, c5 g]
theorem readnum_bad_at {ts : List (List Nat)} {i : Nat} {ps : List PV} {a b c d : Sl} (hp : ps = ts.map S) (hz : ∀ t ∈ ts, t.length < 16777216) (hn : ∀ t, ts[i]? = some t → isNum t 2 = false) : rdN [a, .fr (.int 1), .fr (.lst ps), b, c, d, .fr (.int i)] = .err (bad (i + 1) 1) [a, .fr (.int 1), .fr (.lst ps), b, c, d, .fr (.int i)] := by
  have g := ev_readnum_bad (line := 1) hz hn
  rw [← hp] at g
  simp only [e_ok, e_err, e_bad, e_okS, e_errS, e_badS, e_nx, e_rt, e_bk, e_ct, e_ex, e_bd, e_bind, e_pure, e_some, e_none, e_op1, e_op2, e_cons, e_test, e_callP, e_if, e_and, e_or, e_not, e_andV, e_orV, e_andT, e_andF, e_orT, e_orF, e_chain, e_chT, e_chF, e_part, e_sl, e_var, e_varF, e_varO, e_look, e_lookF, e_lookO, e_look1, e_argV, e_argS, e_slot, e_slotF, e_slotO, e_call, e_frz, e_lstO, e_listO, e_anyI, e_sThen, e_seq, e_next, e_brk, e_cnt, e_ret, e_drop, e_set, e_setO, e_ifS, e_raise, e_exn, e_for, boolP, partP, List.getElem?_cons_zero, List.getElem?_cons_succ, List.set_cons_zero, List.set_cons_succ, if_true, if_false, Bool.false_eq_true, Bool.not_true, Bool.not_false, e_vrt, e_vnx, e_xer, e_append, e_appS, e_appK, e_aug, e_augS, e_augK, e_pair, e_fr, e_ow, pSz, pLen, pAdd, frzO, sizeLine_eq, List.length_cons, List.length_nil, Nat.reduceAdd, Nat.reduceLeDiff, Nat.reduceLT, Nat.zero_add, Nat.zero_le, Nat.reduceSub, List.nil_append, List.cons_append, List.append_nil, List.map_cons, List.map_nil, List.replicate, g_MOST_SHOWN, c5e g]
abbrev cpN : M OV := mComp [6] (mRange2 (M.pure (.int 1)) (mVar 5)) (gSlot 6) (M.pure true) rdN
theorem cp1 {ts : List (List Nat)} {t : List Nat} {ps : List PV} {a b c : Sl} (hp : ps = ts.map S) (hl : ts[1]? = some t) (hz : t.length < 16777216) (hn : isNum t 2 = true) : cpN [a, .fr (.int 1), .fr (.lst ps), b, c, .fr (.int 2), .no] = .ok (.lst [nf ts (.int 1)]) [a, .fr (.int 1), .fr (.lst ps), b, c, .fr (.int 2), .no] := by
  unfold cpN
  rw [comp_all (ρ1 := [a, .fr (.int 1), .fr (.lst ps), b, c, .fr (.int 2), .no]) (ps := [.int 1]) (nf ts)]
  · rfl
  · simp only [e_range2, e_ok, e_err, e_bad, e_okS, e_errS, e_badS, e_nx, e_rt, e_bk, e_ct, e_ex, e_bd, e_bind, e_pure, e_some, e_none, e_op1, e_op2, e_cons, e_test, e_callP, e_if, e_and, e_or, e_not, e_andV, e_orV, e_andT, e_andF, e_orT, e_orF, e_chain, e_chT, e_chF, e_part, e_sl, e_var, e_varF, e_varO, e_look, e_lookF, e_lookO, e_look1, e_argV, e_argS, e_slot, e_slotF, e_slotO, e_call, e_frz, e_lstO, e_listO, e_anyI, e_sThen, e_seq, e_next, e_brk, e_cnt, e_ret, e_drop, e_set, e_setO, e_ifS, e_raise, e_exn, e_for, boolP, partP, List.getElem?_cons_zero, List.getElem?_cons_succ, List.set_cons_zero, List.set_cons_succ, if_true, if_false, Bool.false_eq_true, Bool.not_true, Bool.not_false, e_vrt, e_vnx, e_xer, e_append, e_appS, e_appK, e_aug, e_augS, e_augK, e_pair, e_fr, e_ow, pSz, pLen, pAdd, frzO, sizeLine_eq, List.length_cons, List.length_nil, Nat.reduceAdd, Nat.reduceLeDiff, Nat.reduceLT, Nat.zero_add, Nat.zero_le, Nat.reduceSub, List.nil_append, List.cons_append, List.append_nil, List.map_cons, List.map_nil, List.replicate, rng12]
  · decide
  · intro p hpm
    obtain rfl := List.mem_singleton.mp hpm
    exact ⟨_, _, rfl, readnum_at (i := 1) hp hl hz hn, rfl⟩
theorem cp1_bad {ts : List (List Nat)} {ps : List PV} {a b c : Sl} (hp : ps = ts.map S) (hz : ∀ t ∈ ts, t.length < 16777216) (hn : ∀ t, ts[1]? = some t → isNum t 2 = false) : cpN [a, .fr (.int 1), .fr (.lst ps), b, c, .fr (.int 2), .no] = .err (bad 2 1) [a, .fr (.int 1), .fr (.lst ps), b, c, .fr (.int 2), .no] := by
  unfold cpN
  rw [comp_err (ρ1 := [a, .fr (.int 1), .fr (.lst ps), b, c, .fr (.int 2), .no]) (ps := []) (p := .int 1) (ps2 := []) (x := bad 2 1) (nf ts) (ρ4 := [a, .fr (.int 1), .fr (.lst ps), b, c, .fr (.int 2), .fr (.int 1)])]
  · rfl
  · simp only [e_range2, e_ok, e_err, e_bad, e_okS, e_errS, e_badS, e_nx, e_rt, e_bk, e_ct, e_ex, e_bd, e_bind, e_pure, e_some, e_none, e_op1, e_op2, e_cons, e_test, e_callP, e_if, e_and, e_or, e_not, e_andV, e_orV, e_andT, e_andF, e_orT, e_orF, e_chain, e_chT, e_chF, e_part, e_sl, e_var, e_varF, e_varO, e_look, e_lookF, e_lookO, e_look1, e_argV, e_argS, e_slot, e_slotF, e_slotO, e_call, e_frz, e_lstO, e_listO, e_anyI, e_sThen, e_seq, e_next, e_brk, e_cnt, e_ret, e_drop, e_set, e_setO, e_ifS, e_raise, e_exn, e_for, boolP, partP, List.getElem?_cons_zero, List.getElem?_cons_succ, List.set_cons_zero, List.set_cons_succ, if_true, if_false, Bool.false_eq_true, Bool.not_true, Bool.not_false, e_vrt, e_vnx, e_xer, e_append, e_appS, e_appK, e_aug, e_augS, e_augK, e_pair, e_fr, e_ow, pSz, pLen, pAdd, frzO, sizeLine_eq, List.length_cons, List.length_nil, Nat.reduceAdd, Nat.reduceLeDiff, Nat.reduceLT, Nat.zero_add, Nat.zero_le, Nat.reduceSub, List.nil_append, List.cons_append, List.append_nil, List.map_cons, List.map_nil, List.replicate, rng12]
  · decide
  · exact rfl
  · exact readnum_bad_at (i := 1) hp hz hn
  · intro q hq; cases hq
theorem cp2 {ts : List (List Nat)} {t u : List Nat} {ps : List PV} {a b c : Sl} (hp : ps = ts.map S) (hl : ts[1]? = some t) (hz : t.length < 16777216) (hn : isNum t 2 = true) (hl2 : ts[2]? = some u) (hz2 : u.length < 16777216) (hn2 : isNum u 2 = true) : cpN [a, .fr (.int 1), .fr (.lst ps), b, c, .fr (.int 3), .no] = .ok (.lst [nf ts (.int 1), nf ts (.int 2)]) [a, .fr (.int 1), .fr (.lst ps), b, c, .fr (.int 3), .no] := by
  unfold cpN
  rw [comp_all (ρ1 := [a, .fr (.int 1), .fr (.lst ps), b, c, .fr (.int 3), .no]) (ps := [.int 1, .int 2]) (nf ts)]
  · rfl
  · simp only [e_range2, e_ok, e_err, e_bad, e_okS, e_errS, e_badS, e_nx, e_rt, e_bk, e_ct, e_ex, e_bd, e_bind, e_pure, e_some, e_none, e_op1, e_op2, e_cons, e_test, e_callP, e_if, e_and, e_or, e_not, e_andV, e_orV, e_andT, e_andF, e_orT, e_orF, e_chain, e_chT, e_chF, e_part, e_sl, e_var, e_varF, e_varO, e_look, e_lookF, e_lookO, e_look1, e_argV, e_argS, e_slot, e_slotF, e_slotO, e_call, e_frz, e_lstO, e_listO, e_anyI, e_sThen, e_seq, e_next, e_brk, e_cnt, e_ret, e_drop, e_set, e_setO, e_ifS, e_raise, e_exn, e_for, boolP, partP, List.getElem?_cons_zero, List.getElem?_cons_succ, List.set_cons_zero, List.set_cons_succ, if_true, if_false, Bool.false_eq_true, Bool.not_true, Bool.not_false, e_vrt, e_vnx, e_xer, e_append, e_appS, e_appK, e_aug, e_augS, e_augK, e_pair, e_fr, e_ow, pSz, pLen, pAdd, frzO, sizeLine_eq, List.length_cons, List.length_nil, Nat.reduceAdd, Nat.reduceLeDiff, Nat.reduceLT, Nat.zero_add, Nat.zero_le, Nat.reduceSub, List.nil_append, List.cons_append, List.append_nil, List.map_cons, List.map_nil, List.replicate, rng13]
  · decide
  · intro p hpm
    rcases List.mem_cons.mp hpm with e | e
    · subst e; exact ⟨_, _, rfl, readnum_at (i := 1) hp hl hz hn, rfl⟩
    · obtain rfl := List.mem_singleton.mp e
      exact ⟨_, _, rfl, readnum_at (i := 2) hp hl2 hz2 hn2, rfl⟩
theorem cp2_bad1 {ts : List (List Nat)} {ps : List PV} {a b c : Sl} (hp : ps = ts.map S) (hz : ∀ t ∈ ts, t.length < 16777216) (hn : ∀ t, ts[1]? = some t → isNum t 2 = false) : cpN [a, .fr (.int 1), .fr (.lst ps), b, c, .fr (.int 3), .no] = .err (bad 2 1) [a, .fr (.int 1), .fr (.lst ps), b, c, .fr (.int 3), .no] := by
  unfold cpN
  rw [comp_err (ρ1 := [a, .fr (.int 1), .fr (.lst ps), b, c, .fr (.int 3), .no]) (ps := []) (p := .int 1) (ps2 := [.int 2]) (x := bad 2 1) (nf ts) (ρ4 := [a, .fr (.int 1), .fr (.lst ps), b, c, .fr (.int 3), .fr (.int 1)])]
  · rfl
  · simp only [e_range2, e_ok, e_err, e_bad, e_okS, e_errS, e_badS, e_nx, e_rt, e_bk, e_ct, e_ex, e_bd, e_bind, e_pure, e_some, e_none, e_op1, e_op2, e_cons, e_test, e_callP, e_if, e_and, e_or, e_not, e_andV, e_orV, e_andT, e_andF, e_orT, e_orF, e_chain, e_chT, e_chF, e_part, e_sl, e_var, e_varF, e_varO, e_look, e_lookF, e_lookO, e_look1, e_argV, e_argS, e_slot, e_slotF, e_slotO, e_call, e_frz, e_lstO, e_listO, e_anyI, e_sThen, e_seq, e_next, e_brk, e_cnt, e_ret, e_drop, e_set, e_setO, e_ifS, e_raise, e_exn, e_for, boolP, partP, List.getElem?_cons_zero, List.getElem?_cons_succ, List.set_cons_zero, List.set_cons_succ, if_true, if_false, Bool.false_eq_true, Bool.not_true, Bool.not_false, e_vrt, e_vnx, e_xer, e_append, e_appS, e_appK, e_aug, e_augS, e_augK, e_pair, e_fr, e_ow, pSz, pLen, pAdd, frzO, sizeLine_eq, List.length_cons, List.length_nil, Nat.reduceAdd, Nat.reduceLeDiff, Nat.reduceLT, Nat.zero_add, Nat.zero_le, Nat.reduceSub, List.nil_append, List.cons_append, List.append_nil, List.map_cons, List.map_nil, List.replicate, rng13]
  · decide
  · exact rfl
  · exact readnum_bad_at (i := 1) hp hz hn
  · intro q hq; cases hq
theorem cp2_bad2 {ts : List (List Nat)} {t : List Nat} {ps : List PV} {a b c : Sl} (hp : ps = ts.map S) (hz : ∀ t ∈ ts, t.length < 16777216) (hl : ts[1]? = some t) (hn1 : isNum t 2 = true) (hn : ∀ t, ts[2]? = some t → isNum t 2 = false) : cpN [a, .fr (.int 1), .fr (.lst ps), b, c, .fr (.int 3), .no] = .err (bad 3 1) [a, .fr (.int 1), .fr (.lst ps), b, c, .fr (.int 3), .no] := by
  unfold cpN
  rw [comp_err (ρ1 := [a, .fr (.int 1), .fr (.lst ps), b, c, .fr (.int 3), .no]) (ps := [.int 1]) (p := .int 2) (ps2 := []) (x := bad 3 1) (nf ts) (ρ4 := [a, .fr (.int 1), .fr (.lst ps), b, c, .fr (.int 3), .fr (.int 2)])]
  · rfl
  · simp only [e_range2, e_ok, e_err, e_bad, e_okS, e_errS, e_badS, e_nx, e_rt, e_bk, e_ct, e_ex, e_bd, e_bind, e_pure, e_some, e_none, e_op1, e_op2, e_cons, e_test, e_callP, e_if, e_and, e_or, e_not, e_andV, e_orV, e_andT, e_andF, e_orT, e_orF, e_chain, e_chT, e_chF, e_part, e_sl, e_var, e_varF, e_varO, e_look, e_lookF, e_lookO, e_look1, e_argV, e_argS, e_slot, e_slotF, e_slotO, e_call, e_frz, e_lstO, e_listO, e_anyI, e_sThen, e_seq, e_next, e_brk, e_cnt, e_ret, e_drop, e_set, e_setO, e_ifS, e_raise, e_exn, e_for, boolP, partP, List.getElem?_cons_zero, List.getElem?_cons_succ, List.set_cons_zero, List.set_cons_succ, if_true, if_false, Bool.false_eq_true, Bool.not_true, Bool.not_false, e_vrt, e_vnx, e_xer, e_append, e_appS, e_appK, e_aug, e_augS, e_augK, e_pair, e_fr, e_ow, pSz, pLen, pAdd, frzO, sizeLine_eq, List.length_cons, List.length_nil, Nat.reduceAdd, Nat.reduceLeDiff, Nat.reduceLT, Nat.zero_add, Nat.zero_le, Nat.reduceSub, List.nil_append, List.cons_append, List.append_nil, List.map_cons, List.map_nil, List.replicate, rng13]
  · decide
  · exact rfl
  · exact readnum_bad_at (i := 2) hp hz hn
  · intro q hq
    obtain rfl := List.mem_singleton.mp hq
    exact ⟨_, _, rfl, readnum_at (i := 1) hp hl (hz t (List.mem_of_getElem? hl)) hn1, rfl⟩
theorem tupOf {ps : List PV} : pTupOf [.lst ps] = some (.tup ps) := rfl
abbrev tl (h : List Nat) (r : List (List Nat)) : List PV := S h :: r.map S
structure NumHead (h : List Nat) : Prop where
  F : fF (strL h) = false
  B : fB (strL h) = false
  A : fA (strL h) = false
  N : fN (strL h) = true
theorem ev_q_num (L : Line l (h :: r)) (H : NumHead h) (hW : fW (strL h) = false) {t : List Nat} (hl : (h :: r)[1]? = some t) (hn : isNum t 2 = true) (hr : r.length = 1) : Gives m_question_of_text [S l] (.tup [S h, .int (numV t)]) := by
  refine q_top (gives_of ?_)
  have e : (strL h == ("allowed" : Str)) = false := H.A
  have e2 : (strL h == ("below" : Str)) = false := hW
  have ht := L.small t (List.mem_of_getElem? hl)
  have hc := fun a b c => cp1 (ps := tl h r) (a := a) (b := b) (c := c) (ts := h :: r) rfl hl ht hn
  have e3 : nf (h :: r) (.int 1) = .int (numV t) := by
    show PV.int (numV ((h :: r).getD 1 [])) = _
    rw [List.getD_eq_getElem?_getD, hl]; rfl
  simp only [b_question_in, e_ok, e_err, e_bad, e_okS, e_errS, e_badS, e_nx, e_rt, e_bk, e_ct, e_ex, e_bd, e_bind, e_pure, e_some, e_none, e_op1, e_op2, e_cons, e_test, e_callP, e_if, e_and, e_or, e_not, e_andV, e_orV, e_andT, e_andF, e_orT, e_orF, e_chain, e_chT, e_chF, e_part, e_sl, e_var, e_varF, e_varO, e_look, e_lookF, e_lookO, e_look1, e_argV, e_argS, e_slot, e_slotF, e_slotO, e_call, e_frz, e_lstO, e_listO, e_anyI, e_sThen, e_seq, e_next, e_brk, e_cnt, e_ret, e_drop, e_set, e_setO, e_ifS, e_raise, e_exn, e_for, boolP, partP, List.getElem?_cons_zero, List.getElem?_cons_succ, List.set_cons_zero, List.set_cons_succ, if_true, if_false, Bool.false_eq_true, Bool.not_true, Bool.not_false, e_vrt, e_vnx, e_xer, e_append, e_appS, e_appK, e_aug, e_augS, e_augK, e_pair, e_fr, e_ow, pSz, pLen, pAdd, frzO, sizeLine_eq, List.length_cons, List.length_nil, Nat.reduceAdd, Nat.reduceLeDiff, Nat.reduceLT, Nat.zero_add, Nat.zero_le, Nat.reduceSub, List.nil_append, List.cons_append, List.append_nil, List.map_cons, List.map_nil, List.replicate, c1 L.tok, L.ne1, head_ix, in_F, H.F, in_B, H.B, q_eqS, e, in_N, H.N, e2, hc, tupOf, e3, c3 (end_ok (ts := tl h r) (us := h :: r) 2 rfl (by simp [hr]))]
theorem ev_q_num_more (L : Line l (h :: r)) (H : NumHead h) (hW : fW (strL h) = false) {t : List Nat} (hl : (h :: r)[1]? = some t) (hn : isNum t 2 = true) (hr : 1 < r.length) : Throws m_question_of_text [S l] (bad 3 1) := by
  refine q_topE (throws_of ?_)
  have e : (strL h == ("allowed" : Str)) = false := H.A
  have e2 : (strL h == ("below" : Str)) = false := hW
  have ht := L.small t (List.mem_of_getElem? hl)
  have hc := fun a b c => cp1 (ps := tl h r) (a := a) (b := b) (c := c) (ts := h :: r) rfl hl ht hn
  simp only [b_question_in, e_ok, e_err, e_bad, e_okS, e_errS, e_badS, e_nx, e_rt, e_bk, e_ct, e_ex, e_bd, e_bind, e_pure, e_some, e_none, e_op1, e_op2, e_cons, e_test, e_callP, e_if, e_and, e_or, e_not, e_andV, e_orV, e_andT, e_andF, e_orT, e_orF, e_chain, e_chT, e_chF, e_part, e_sl, e_var, e_varF, e_varO, e_look, e_lookF, e_lookO, e_look1, e_argV, e_argS, e_slot, e_slotF, e_slotO, e_call, e_frz, e_lstO, e_listO, e_anyI, e_sThen, e_seq, e_next, e_brk, e_cnt, e_ret, e_drop, e_set, e_setO, e_ifS, e_raise, e_exn, e_for, boolP, partP, List.getElem?_cons_zero, List.getElem?_cons_succ, List.set_cons_zero, List.set_cons_succ, if_true, if_false, Bool.false_eq_true, Bool.not_true, Bool.not_false, e_vrt, e_vnx, e_xer, e_append, e_appS, e_appK, e_aug, e_augS, e_augK, e_pair, e_fr, e_ow, pSz, pLen, pAdd, frzO, sizeLine_eq, List.length_cons, List.length_nil, Nat.reduceAdd, Nat.reduceLeDiff, Nat.reduceLT, Nat.zero_add, Nat.zero_le, Nat.reduceSub, List.nil_append, List.cons_append, List.append_nil, List.map_cons, List.map_nil, List.replicate, c1 L.tok, L.ne1, head_ix, in_F, H.F, in_B, H.B, q_eqS, e, in_N, H.N, e2, hc, tupOf, c3e (end_bad (ts := tl h r) (us := h :: r) 2 rfl (by simp; omega))]
  rfl
theorem ev_q_num_bad (L : Line l (h :: r)) (H : NumHead h) (hW : fW (strL h) = false) (hn : ∀ t, (h :: r)[1]? = some t → isNum t 2 = false) : Throws m_question_of_text [S l] (bad 2 1) := by
  refine q_topE (throws_of ?_)
  have e : (strL h == ("allowed" : Str)) = false := H.A
  have e2 : (strL h == ("below" : Str)) = false := hW
  have hc := fun a b c => cp1_bad (ps := tl h r) (a := a) (b := b) (c := c) (ts := h :: r) rfl L.small hn
  simp only [b_question_in, e_ok, e_err, e_bad, e_okS, e_errS, e_badS, e_nx, e_rt, e_bk, e_ct, e_ex, e_bd, e_bind, e_pure, e_some, e_none, e_op1, e_op2, e_cons, e_test, e_callP, e_if, e_and, e_or, e_not, e_andV, e_orV, e_andT, e_andF, e_orT, e_orF, e_chain, e_chT, e_chF, e_part, e_sl, e_var, e_varF, e_varO, e_look, e_lookF, e_lookO, e_look1, e_argV, e_argS, e_slot, e_slotF, e_slotO, e_call, e_frz, e_lstO, e_listO, e_anyI, e_sThen, e_seq, e_next, e_brk, e_cnt, e_ret, e_drop, e_set, e_setO, e_ifS, e_raise, e_exn, e_for, boolP, partP, List.getElem?_cons_zero, List.getElem?_cons_succ, List.set_cons_zero, List.set_cons_succ, if_true, if_false, Bool.false_eq_true, Bool.not_true, Bool.not_false, e_vrt, e_vnx, e_xer, e_append, e_appS, e_appK, e_aug, e_augS, e_augK, e_pair, e_fr, e_ow, pSz, pLen, pAdd, frzO, sizeLine_eq, List.length_cons, List.length_nil, Nat.reduceAdd, Nat.reduceLeDiff, Nat.reduceLT, Nat.zero_add, Nat.zero_le, Nat.reduceSub, List.nil_append, List.cons_append, List.append_nil, List.map_cons, List.map_nil, List.replicate, c1 L.tok, L.ne1, head_ix, in_F, H.F, in_B, H.B, q_eqS, e, in_N, H.N, e2, hc]
theorem ev_q_two (L : Line l (h :: r)) (H : NumHead h) (hW : fW (strL h) = true) {t u : List Nat} (hl : (h :: r)[1]? = some t) (hn : isNum t 2 = true) (hl2 : (h :: r)[2]? = some u) (hn2 : isNum u 2 = true) (hr : r.length = 2) : Gives m_question_of_text [S l] (.tup [S h, .int (numV t), .int (numV u)]) := by
  refine q_top (gives_of ?_)
  have e : (strL h == ("allowed" : Str)) = false := H.A
  have e2 : (strL h == ("below" : Str)) = true := hW
  have ht := L.small t (List.mem_of_getElem? hl)
  have hu := L.small u (List.mem_of_getElem? hl2)
  have hc := fun a b c => cp2 (ps := tl h r) (a := a) (b := b) (c := c) (ts := h :: r) rfl hl ht hn hl2 hu hn2
  have e3 : nf (h :: r) (.int 1) = .int (numV t) := by
    show PV.int (numV ((h :: r).getD 1 [])) = _
    rw [List.getD_eq_getElem?_getD, hl]; rfl
  have e4 : nf (h :: r) (.int 2) = .int (numV u) := by
    show PV.int (numV ((h :: r).getD 2 [])) = _
    rw [List.getD_eq_getElem?_getD, hl2]; rfl
  simp only [b_question_in, e_ok, e_err, e_bad, e_okS, e_errS, e_badS, e_nx, e_rt, e_bk, e_ct, e_ex, e_bd, e_bind, e_pure, e_some, e_none, e_op1, e_op2, e_cons, e_test, e_callP, e_if, e_and, e_or, e_not, e_andV, e_orV, e_andT, e_andF, e_orT, e_orF, e_chain, e_chT, e_chF, e_part, e_sl, e_var, e_varF, e_varO, e_look, e_lookF, e_lookO, e_look1, e_argV, e_argS, e_slot, e_slotF, e_slotO, e_call, e_frz, e_lstO, e_listO, e_anyI, e_sThen, e_seq, e_next, e_brk, e_cnt, e_ret, e_drop, e_set, e_setO, e_ifS, e_raise, e_exn, e_for, boolP, partP, List.getElem?_cons_zero, List.getElem?_cons_succ, List.set_cons_zero, List.set_cons_succ, if_true, if_false, Bool.false_eq_true, Bool.not_true, Bool.not_false, e_vrt, e_vnx, e_xer, e_append, e_appS, e_appK, e_aug, e_augS, e_augK, e_pair, e_fr, e_ow, pSz, pLen, pAdd, frzO, sizeLine_eq, List.length_cons, List.length_nil, Nat.reduceAdd, Nat.reduceLeDiff, Nat.reduceLT, Nat.zero_add, Nat.zero_le, Nat.reduceSub, List.nil_append, List.cons_append, List.append_nil, List.map_cons, List.map_nil, List.replicate, c1 L.tok, L.ne1, head_ix, in_F, H.F, in_B, H.B, q_eqS, e, in_N, H.N, e2, hc, tupOf, e3, e4, c3 (end_ok (ts := tl h r) (us := h :: r) 3 rfl (by simp [hr]))]
theorem ev_q_two_more (L : Line l (h :: r)) (H : NumHead h) (hW : fW (strL h) = true) {t u : List Nat} (hl : (h :: r)[1]? = some t) (hn : isNum t 2 = true) (hl2 : (h :: r)[2]? = some u) (hn2 : isNum u 2 = true) (hr : 2 < r.length) : Throws m_question_of_text [S l] (bad 4 1) := by
  refine q_topE (throws_of ?_)
  have e : (strL h == ("allowed" : Str)) = false := H.A
  have e2 : (strL h == ("below" : Str)) = true := hW
  have ht := L.small t (List.mem_of_getElem? hl)
  have hu := L.small u (List.mem_of_getElem? hl2)
  have hc := fun a b c => cp2 (ps := tl h r) (a := a) (b := b) (c := c) (ts := h :: r) rfl hl ht hn hl2 hu hn2
  simp only [b_question_in, e_ok, e_err, e_bad, e_okS, e_errS, e_badS, e_nx, e_rt, e_bk, e_ct, e_ex, e_bd, e_bind, e_pure, e_some, e_none, e_op1, e_op2, e_cons, e_test, e_callP, e_if, e_and, e_or, e_not, e_andV, e_orV, e_andT, e_andF, e_orT, e_orF, e_chain, e_chT, e_chF, e_part, e_sl, e_var, e_varF, e_varO, e_look, e_lookF, e_lookO, e_look1, e_argV, e_argS, e_slot, e_slotF, e_slotO, e_call, e_frz, e_lstO, e_listO, e_anyI, e_sThen, e_seq, e_next, e_brk, e_cnt, e_ret, e_drop, e_set, e_setO, e_ifS, e_raise, e_exn, e_for, boolP, partP, List.getElem?_cons_zero, List.getElem?_cons_succ, List.set_cons_zero, List.set_cons_succ, if_true, if_false, Bool.false_eq_true, Bool.not_true, Bool.not_false, e_vrt, e_vnx, e_xer, e_append, e_appS, e_appK, e_aug, e_augS, e_augK, e_pair, e_fr, e_ow, pSz, pLen, pAdd, frzO, sizeLine_eq, List.length_cons, List.length_nil, Nat.reduceAdd, Nat.reduceLeDiff, Nat.reduceLT, Nat.zero_add, Nat.zero_le, Nat.reduceSub, List.nil_append, List.cons_append, List.append_nil, List.map_cons, List.map_nil, List.replicate, c1 L.tok, L.ne1, head_ix, in_F, H.F, in_B, H.B, q_eqS, e, in_N, H.N, e2, hc, tupOf, c3e (end_bad (ts := tl h r) (us := h :: r) 3 rfl (by simp; omega))]
  rfl
theorem ev_q_two_bad1 (L : Line l (h :: r)) (H : NumHead h) (hW : fW (strL h) = true) (hn : ∀ t, (h :: r)[1]? = some t → isNum t 2 = false) : Throws m_question_of_text [S l] (bad 2 1) := by
  refine q_topE (throws_of ?_)
  have e : (strL h == ("allowed" : Str)) = false := H.A
  have e2 : (strL h == ("below" : Str)) = true := hW
  have hc := fun a b c => cp2_bad1 (ps := tl h r) (a := a) (b := b) (c := c) (ts := h :: r) rfl L.small hn
  simp only [b_question_in, e_ok, e_err, e_bad, e_okS, e_errS, e_badS, e_nx, e_rt, e_bk, e_ct, e_ex, e_bd, e_bind, e_pure, e_some, e_none, e_op1, e_op2, e_cons, e_test, e_callP, e_if, e_and, e_or, e_not, e_andV, e_orV, e_andT, e_andF, e_orT, e_orF, e_chain, e_chT, e_chF, e_part, e_sl, e_var, e_varF, e_varO, e_look, e_lookF, e_lookO, e_look1, e_argV, e_argS, e_slot, e_slotF, e_slotO, e_call, e_frz, e_lstO, e_listO, e_anyI, e_sThen, e_seq, e_next, e_brk, e_cnt, e_ret, e_drop, e_set, e_setO, e_ifS, e_raise, e_exn, e_for, boolP, partP, List.getElem?_cons_zero, List.getElem?_cons_succ, List.set_cons_zero, List.set_cons_succ, if_true, if_false, Bool.false_eq_true, Bool.not_true, Bool.not_false, e_vrt, e_vnx, e_xer, e_append, e_appS, e_appK, e_aug, e_augS, e_augK, e_pair, e_fr, e_ow, pSz, pLen, pAdd, frzO, sizeLine_eq, List.length_cons, List.length_nil, Nat.reduceAdd, Nat.reduceLeDiff, Nat.reduceLT, Nat.zero_add, Nat.zero_le, Nat.reduceSub, List.nil_append, List.cons_append, List.append_nil, List.map_cons, List.map_nil, List.replicate, c1 L.tok, L.ne1, head_ix, in_F, H.F, in_B, H.B, q_eqS, e, in_N, H.N, e2, hc]
theorem ev_q_two_bad2 (L : Line l (h :: r)) (H : NumHead h) (hW : fW (strL h) = true) {t : List Nat} (hl : (h :: r)[1]? = some t) (hn1 : isNum t 2 = true) (hn : ∀ t, (h :: r)[2]? = some t → isNum t 2 = false) : Throws m_question_of_text [S l] (bad 3 1) := by
  refine q_topE (throws_of ?_)
  have e : (strL h == ("allowed" : Str)) = false := H.A
  have e2 : (strL h == ("below" : Str)) = true := hW
  have hc := fun a b c => cp2_bad2 (ps := tl h r) (a := a) (b := b) (c := c) (ts := h :: r) rfl L.small hl hn1 hn
  simp only [b_question_in, e_ok, e_err, e_bad, e_okS, e_errS, e_badS, e_nx, e_rt, e_bk, e_ct, e_ex, e_bd, e_bind, e_pure, e_some, e_none, e_op1, e_op2, e_cons, e_test, e_callP, e_if, e_and, e_or, e_not, e_andV, e_orV, e_andT, e_andF, e_orT, e_orF, e_chain, e_chT, e_chF, e_part, e_sl, e_var, e_varF, e_varO, e_look, e_lookF, e_lookO, e_look1, e_argV, e_argS, e_slot, e_slotF, e_slotO, e_call, e_frz, e_lstO, e_listO, e_anyI, e_sThen, e_seq, e_next, e_brk, e_cnt, e_ret, e_drop, e_set, e_setO, e_ifS, e_raise, e_exn, e_for, boolP, partP, List.getElem?_cons_zero, List.getElem?_cons_succ, List.set_cons_zero, List.set_cons_succ, if_true, if_false, Bool.false_eq_true, Bool.not_true, Bool.not_false, e_vrt, e_vnx, e_xer, e_append, e_appS, e_appK, e_aug, e_augS, e_augK, e_pair, e_fr, e_ow, pSz, pLen, pAdd, frzO, sizeLine_eq, List.length_cons, List.length_nil, Nat.reduceAdd, Nat.reduceLeDiff, Nat.reduceLT, Nat.zero_add, Nat.zero_le, Nat.reduceSub, List.nil_append, List.cons_append, List.append_nil, List.map_cons, List.map_nil, List.replicate, c1 L.tok, L.ne1, head_ix, in_F, H.F, in_B, H.B, q_eqS, e, in_N, H.N, e2, hc]
end
end K75

set_option linter.all false
set_option maxRecDepth 100000
set_option maxHeartbeats 2000000
namespace K75
open PySem PySem.Spec PyProof.Rows L2 LamX VS
/-! ### tokens of a line, by its list of signs -/
def isSm (c : Nat) : Bool := decide (c ∈ smallL)
def isFg (c : Nat) : Bool := decide (c ∈ figL)
def stp (l : List Nat) : Nat := max 1 (max (l.takeWhile isSm).length (l.takeWhile isFg).length)
theorem stepN_stp (zl : List Nat) (i : Nat) : stepN zl i = stp (zl.drop i) := rfl
theorem stp_pos (l : List Nat) : 1 ≤ stp l := by unfold stp; omega
theorem stp_le {l : List Nat} (h : l ≠ []) : stp l ≤ l.length := by
  have h1 := (List.takeWhile_sublist (l := l) isSm).length_le
  have h2 := (List.takeWhile_sublist (l := l) isFg).length_le
  have := List.length_pos_iff.mpr h
  unfold stp
  omega
def tkF : Nat → List Nat → List (List Nat)
  | 0, _ => []
  | _ + 1, [] => []
  | f + 1, c :: r => if c = 32 then tkF f r else (c :: r).take (stp (c :: r)) :: tkF f ((c :: r).drop (stp (c :: r)))
theorem toksAt_tkF {zl : List Nat} : ∀ {f i : Nat}, toksAt zl f i = tkF f (zl.drop i)
  | 0, _ => rfl
  | f + 1, i => by
    unfold toksAt
    by_cases hi : i < zl.length
    · rw [List.getElem?_eq_getElem hi, List.drop_eq_getElem_cons hi]
      dsimp only
      unfold tkF
      rw [toksAt_tkF, toksAt_tkF, stepN_stp, List.drop_eq_getElem_cons hi]
      rw [show (zl[i] :: zl.drop (i + 1)).drop (stp (zl[i] :: zl.drop (i + 1))) = zl.drop (i + stp (zl[i] :: zl.drop (i + 1))) by rw [← List.drop_eq_getElem_cons hi, List.drop_drop]]
    · rw [List.getElem?_eq_none (by omega), List.drop_eq_nil_of_le (by omega)]
      rfl
theorem tkF_more : ∀ {f f' : Nat} {l : List Nat}, l.length ≤ f → l.length ≤ f' → tkF f l = tkF f' l
  | 0, f', l, h, _ => by
    obtain rfl : l = [] := List.length_eq_zero_iff.mp (by omega)
    cases f' <;> rfl
  | f + 1, 0, l, _, h => by
    obtain rfl : l = [] := List.length_eq_zero_iff.mp (by omega)
    rfl
  | f + 1, f' + 1, [], _, _ => rfl
  | f + 1, f' + 1, c :: r, h, h2 => by
    have hp := stp_pos (c :: r)
    simp only [List.length_cons] at h h2
    unfold tkF
    rw [tkF_more (f := f) (f' := f') (l := r) (by omega) (by omega), tkF_more (f := f) (f' := f') (l := (c :: r).drop (stp (c :: r))) (by rw [List.length_drop, List.length_cons]; omega) (by rw [List.length_drop, List.length_cons]; omega)]
def tk (l : List Nat) : List (List Nat) := tkF l.length l
theorem toks_tk (l : List Nat) : toks l = tk l := toksAt_tkF
theorem tk_nil : tk [] = [] := rfl
theorem tk_space (r : List Nat) : tk (32 :: r) = tk r := by
  show tkF (r.length + 1) (32 :: r) = _
  unfold tkF
  rw [if_pos rfl]; rfl
theorem tk_cons {c : Nat} {r : List Nat} (h : c ≠ 32) : tk (c :: r) = (c :: r).take (stp (c :: r)) :: tk ((c :: r).drop (stp (c :: r))) := by
  show tkF (r.length + 1) (c :: r) = _
  have hp := stp_pos (c :: r)
  unfold tkF
  rw [if_neg h]
  congr 1
  exact tkF_more (by rw [List.length_drop, List.length_cons]; omega) (Nat.le_refl _)
theorem tw_stop {p : Nat → Bool} {s : Nat} (hs : p s = false) (b : List Nat) : ∀ a : List Nat, (a ++ s :: b).takeWhile p = a.takeWhile p
  | [] => by rw [List.nil_append, List.takeWhile_cons, hs]; rfl
  | c :: a => by
    rw [List.cons_append, List.takeWhile_cons, List.takeWhile_cons, tw_stop hs b a]
theorem sp_small : isSm 32 = false := by decide +kernel
theorem sp_fig : isFg 32 = false := by decide +kernel
theorem stp_app (a b : List Nat) : stp (a ++ 32 :: b) = stp a := by
  unfold stp
  rw [tw_stop sp_small, tw_stop sp_fig]
theorem tk_app (b : List Nat) : ∀ (n : Nat) (a : List Nat), a.length ≤ n → tk (a ++ 32 :: b) = tk a ++ tk b := by
  intro n
  induction n with
  | zero =>
    intro a h
    obtain rfl : a = [] := List.length_eq_zero_iff.mp (by omega)
    rw [List.nil_append, tk_space]; rfl
  | succ n ih =>
    intro a h
    cases a with
    | nil => rw [List.nil_append, tk_space]; rfl
    | cons c r =>
      simp only [List.length_cons] at h
      by_cases hc : c = 32
      · subst hc
        rw [List.cons_append, tk_space, tk_space, ih r (by omega)]
      · have hle := stp_le (List.cons_ne_nil c r)
        have hp := stp_pos (c :: r)
        have e : stp (c :: (r ++ 32 :: b)) = stp (c :: r) := stp_app (c :: r) b
        rw [List.cons_append, tk_cons hc, tk_cons hc, e]
        rw [← List.cons_append, List.take_append_of_le_length hle, List.drop_append_of_le_length hle, ih _ (by rw [List.length_drop, List.length_cons]; omega)]
        rfl
theorem tk_glue (a b : List Nat) : tk (a ++ 32 :: b) = tk a ++ tk b := tk_app b a.length a (Nat.le_refl _)
theorem tk_lead (l : List Nat) : ∀ n : Nat, tk (List.replicate n 32 ++ l) = tk l
  | 0 => rfl
  | n + 1 => by rw [List.replicate_succ, List.cons_append, tk_space, tk_lead l n]
theorem tk_trail (l : List Nat) : ∀ n : Nat, tk (l ++ List.replicate n 32) = tk l
  | 0 => by rw [List.replicate_zero, List.append_nil]
  | n + 1 => by
    rw [List.replicate_succ, tk_glue]
    have := tk_lead [] n
    rw [List.append_nil] at this
    rw [this, tk_nil, List.append_nil]
/-- one token -/
def isTok (t : List Nat) : Bool := match t with
  | [] => false
  | c :: _ => decide (c ≠ 32) && decide (stp t = t.length)
theorem tk_tok {t : List Nat} (h : isTok t = true) : tk t = [t] := by
  cases t with
  | nil => cases h
  | cons c r =>
    have h : (decide (c ≠ 32) && decide (stp (c :: r) = (c :: r).length)) = true := h
    rw [Bool.and_eq_true, decide_eq_true_eq, decide_eq_true_eq] at h
    rw [tk_cons h.1, h.2, List.take_length, List.drop_length]; rfl
theorem tw_all {p : Nat → Bool} : ∀ {l : List Nat}, (∀ c ∈ l, p c = true) → l.takeWhile p = l
  | [], _ => rfl
  | c :: l, h => by rw [List.takeWhile_cons, h c List.mem_cons_self, if_pos rfl, tw_all fun x hx => h x (List.mem_cons_of_mem _ hx)]
theorem fig_tok {t : List Nat} (h0 : t ≠ []) (h : ∀ c ∈ t, c ∈ figL) : isTok t = true := by
  cases t with
  | nil => exact (h0 rfl).elim
  | cons c r =>
    have e : (c :: r).takeWhile isFg = c :: r := tw_all fun x hx => decide_eq_true (h x hx)
    have h1 := (List.takeWhile_sublist (l := c :: r) isSm).length_le
    have hs : stp (c :: r) = (c :: r).length := by
      unfold stp
      rw [e]
      simp only [List.length_cons] at h1 ⊢
      omega
    have hc : c ≠ 32 := fun z => by
      have := h c List.mem_cons_self
      rw [z] at this
      exact absurd this (by decide +kernel)
    show (decide (c ≠ 32) && decide (stp (c :: r) = (c :: r).length)) = true
    rw [hs, decide_eq_true hc, decide_eq_true rfl]; rfl
/-- the line of some tokens -/
abbrev ln (es : List (List Nat)) : List Nat := TL.joinL [32] es
theorem tk_ln : ∀ es : List (List Nat), tk (ln es) = es.flatMap tk
  | [] => rfl
  | [e] => by show tk e = [e].flatMap tk; simp
  | e :: f :: r => by
    show tk (e ++ ([32] ++ ln (f :: r))) = _
    rw [List.singleton_append, tk_glue, tk_ln (f :: r)]; simp
theorem tk_ln2 : ∀ es : List (List Nat), tk (TL.joinL [32, 32] es) = es.flatMap tk
  | [] => rfl
  | [e] => by show tk e = [e].flatMap tk; simp
  | e :: f :: r => by
    show tk (e ++ ([32, 32] ++ TL.joinL [32, 32] (f :: r))) = _
    show tk (e ++ 32 :: 32 :: TL.joinL [32, 32] (f :: r)) = _
    rw [tk_glue, tk_space, tk_ln2 (f :: r)]; simp
end K75

set_option linter.all false
set_option maxRecDepth 100000
set_option maxHeartbeats 2000000
namespace K75
open PySem PySem.Spec PyProof.Rows L2 LamX VS
/-! ### the verdict over the tokens that were put together -/
structure Odd (x : List Nat) : Prop where
  F : fF (strL x) = false
  B : fB (strL x) = false
  A : fA (strL x) = false
  N : fN (strL x) = false
  n : isNum x 2 = false
  e : tokE x = false
  w : isLet x = false
structure El (e : List Nat) : Prop where
  hd : ∃ c r, e = c :: r ∧ sp c = false
  tk : tk e = [e] ∨ (Odd e ∧ ∃ a r, tk e = a :: r ∧ Odd a)
  ok : okL e = true
def wrongN : List (List Nat) → Nat
  | [] => 1
  | h :: r => if fF (strL h) then (if r = [] then 2 else 0)
    else if fB (strL h) then (if r = [] then 0 else 2)
    else if fA (strL h) then (match r with
      | [] => 2
      | w :: r1 => if tokE w || isLet w then (if r1 = [] then 0 else 3) else 2)
    else if fN (strL h) then (if fW (strL h) then (match r with
      | [] => 2
      | t :: r1 => if isNum t 2 then (match r1 with
        | [] => 3
        | u :: r2 => if isNum u 2 then (if r2 = [] then 0 else 4) else 3) else 2)
      else (match r with
      | [] => 2
      | t :: r1 => if isNum t 2 then (if r1 = [] then 0 else 3) else 2))
    else 1
def Verd (l : List Nat) (n : Nat) : Prop := (n = 0 ∧ ∃ p, Gives m_question_of_text [S l] p) ∨ (0 < n ∧ Throws m_question_of_text [S l] (bad n 1))
theorem verd0 {l : List Nat} {p : PV} (h : Gives m_question_of_text [S l] p) : Verd l 0 := .inl ⟨rfl, p, h⟩
theorem verdN {l : List Nat} {n : Nat} (h0 : 0 < n) (h : Throws m_question_of_text [S l] (bad n 1)) : Verd l n := .inr ⟨h0, h⟩
theorem El.ne {e : List Nat} (h : El e) : K75.tk e ≠ [] := by
  rcases h.tk with h | ⟨_, a, r, h, _⟩ <;> rw [h] <;> exact List.cons_ne_nil _ _
theorem fl_nil {r : List (List Nat)} (h : ∀ e ∈ r, El e) : r.flatMap tk = [] ↔ r = [] := by
  cases r with
  | nil => simp
  | cons e r =>
    rw [List.flatMap_cons]
    simp [(h e List.mem_cons_self).ne]
theorem ln_head {r : List (List Nat)} (h : ∀ e ∈ r, El e) (hr : r ≠ []) : ∃ c q, ln r = c :: q ∧ sp c = false := by
  cases r with
  | nil => exact (hr rfl).elim
  | cons e r =>
    obtain ⟨c, q, rfl, hc⟩ := (h e List.mem_cons_self).hd
    cases r with
    | nil => exact ⟨c, q, rfl, hc⟩
    | cons f r => exact ⟨c, _, rfl, hc⟩
theorem dropW_head {c : Nat} {q : List Nat} (h : sp c = false) : (c :: q).dropWhile sp = c :: q := by rw [List.dropWhile_cons, h]; rfl
theorem rest_ln {h : List Nat} {r : List (List Nat)} (E : ∀ e ∈ h :: r, El e) : restL (ln (h :: r)) h.length = ln r := by
  obtain ⟨c, q, rfl, hc⟩ := (E h List.mem_cons_self).hd
  have hr : ∀ e ∈ r, El e := fun e he => E e (List.mem_cons_of_mem _ he)
  unfold restL
  cases r with
  | nil =>
    show (((c :: q).dropWhile sp).drop (c :: q).length).dropWhile sp = []
    rw [dropW_head hc, List.drop_length]; rfl
  | cons f r =>
    show (((c :: (q ++ ([32] ++ ln (f :: r)))).dropWhile sp).drop (c :: q).length).dropWhile sp = _
    rw [dropW_head hc, ← List.cons_append, List.drop_left]
    show (32 :: ln (f :: r)).dropWhile sp = _
    obtain ⟨d, p, e, hd⟩ := ln_head hr (List.cons_ne_nil f r)
    rw [List.dropWhile_cons, show sp 32 = true from rfl, if_pos rfl, e, dropW_head hd]
theorem ok_join {s : List Nat} (hs : okL s = true) : ∀ {r : List (List Nat)}, (∀ e ∈ r, okL e = true) → okL (TL.joinL s r) = true
  | [], _ => rfl
  | [e], h => h e List.mem_cons_self
  | e :: f :: r, h => by
    show okL (e ++ (s ++ TL.joinL s (f :: r))) = true
    have h1 := h e List.mem_cons_self
    have h2 := ok_join hs (r := f :: r) fun x hx => h x (List.mem_cons_of_mem _ hx)
    unfold okL at *
    rw [List.all_append, List.all_append, h1, h2, hs]; rfl
theorem wd_bad {ts : List (List Nat)} {a : List Nat} {r : List (List Nat)} (ht : ts = a :: r) (e : tokE a = false) (w : isLet a = false) : ∀ l, ts[0]? = some l → tokE l = false ∧ isLet l = false := fun l hl => by
  rw [ht] at hl
  cases hl
  exact ⟨e, w⟩
theorem verdict {es : List (List Nat)} (E : ∀ e ∈ es, El e) (hl : (ln es).length < 8000000) : Verd (ln es) (wrongN es) := by
  have ht : toks (ln es) = es.flatMap tk := by rw [toks_tk, tk_ln]
  have ok : okL (ln es) = true := ok_join (by decide) fun e he => (E e he).ok
  cases es with
  | nil => exact verdN (by decide) (ev_q_empty ⟨hl, ok, ht⟩)
  | cons h r =>
    have Eh := E h List.mem_cons_self
    have Er : ∀ e ∈ r, El e := fun e he => E e (List.mem_cons_of_mem _ he)
    rw [List.flatMap_cons] at ht
    rcases Eh.tk with e1 | ⟨o, a, q, e1, oa⟩
    · rw [e1] at ht
      have L : Line (ln (h :: r)) (h :: r.flatMap tk) := ⟨hl, ok, ht⟩
      have fn := fl_nil Er
      cases hF : fF (strL h) with
      | true =>
        have er := rest_ln E
        unfold wrongN
        simp only [hF, if_true]
        by_cases hr : r = []
        · rw [if_pos hr]
          refine verdN (by decide) (ev_q_flow_bad L hF ?_)
          rw [er, hr]; rfl
        · rw [if_neg hr]
          refine verd0 (ev_q_flow L hF ?_)
          rw [er]
          obtain ⟨c, q, e, hc⟩ := ln_head Er hr
          rw [e, List.all_cons, hc]; rfl
      | false =>
        cases hB : fB (strL h) with
        | true =>
          unfold wrongN
          simp only [hF, hB, if_true, Bool.false_eq_true, if_false]
          by_cases hr : r = []
          · rw [if_pos hr]
            rw [fn.mpr hr] at L
            exact verd0 (ev_q_bare L hF hB)
          · rw [if_neg hr]
            exact verdN (by decide) (ev_q_bare_bad L (fun z => hr (fn.mp z)) hF hB)
        | false =>
          cases hA : fA (strL h) with
          | true =>
            unfold wrongN
            simp only [hF, hB, hA, if_true, Bool.false_eq_true, if_false]
            cases r with
            | nil =>
              refine verdN (by decide) (ev_q_word_bad L hF hB hA (ev_readword_bad (ts := h :: ([] : List (List Nat)).flatMap tk) (i := 1) L.small fun l hl => ?_))
              cases hl
            | cons w r1 =>
              dsimp only
              have fn1 := fl_nil fun e he => Er e (List.mem_cons_of_mem _ he)
              rcases (Er w List.mem_cons_self).tk with e2 | ⟨o2, a2, q2, e2, oa2⟩
              · have e3 : (w :: r1).flatMap tk = w :: r1.flatMap tk := by rw [List.flatMap_cons, e2]; rfl
                rw [e3] at L
                by_cases hw : (tokE w || isLet w) = true
                · rw [if_pos hw]
                  have g : ∃ p, Gives m_read_word [.lst (S h :: (w :: r1.flatMap tk).map S), .int 1, .int 1] (.tup p) := by
                    cases he : tokE w with
                    | true => exact ⟨_, ev_readword_e (ts := h :: w :: r1.flatMap tk) (i := 1) rfl he⟩
                    | false =>
                      rw [he, Bool.false_or] at hw
                      exact ⟨_, ev_readword (ts := h :: w :: r1.flatMap tk) (i := 1) rfl (L.small w (List.mem_cons_of_mem _ List.mem_cons_self)) he hw⟩
                  obtain ⟨p, g⟩ := g
                  by_cases hr : r1 = []
                  · rw [if_pos hr]
                    rw [fn1.mpr hr] at L g
                    exact verd0 (ev_q_word L rfl hF hB hA g)
                  · rw [if_neg hr]
                    refine verdN (by decide) (ev_q_word_more L ?_ hF hB hA g)
                    have : r1.flatMap tk ≠ [] := fun z => hr (fn1.mp z)
                    have := List.length_pos_iff.mpr this
                    simp only [List.length_cons]
                    omega
                · rw [if_neg hw]
                  rw [Bool.not_eq_true, Bool.or_eq_false_iff] at hw
                  refine verdN (by decide) (ev_q_word_bad L hF hB hA (ev_readword_bad (ts := h :: w :: r1.flatMap tk) (i := 1) L.small fun l hl => ?_))
                  cases hl
                  exact hw
              · have e3 : (w :: r1).flatMap tk = a2 :: (q2 ++ r1.flatMap tk) := by rw [List.flatMap_cons, e2]; rfl
                rw [e3] at L
                rw [if_neg (by rw [o2.e, o2.w]; simp)]
                refine verdN (by decide) (ev_q_word_bad L hF hB hA (ev_readword_bad (ts := h :: a2 :: (q2 ++ r1.flatMap tk)) (i := 1) L.small fun l hl => ?_))
                cases hl
                exact ⟨oa2.e, oa2.w⟩
          | false =>
            cases hN : fN (strL h) with
            | false =>
              unfold wrongN
              simp only [hF, hB, hA, hN, Bool.false_eq_true, if_false]
              exact verdN (by decide) (ev_q_none L hF hB hA hN)
            | true =>
              have H : NumHead h := ⟨hF, hB, hA, hN⟩
              cases hW : fW (strL h) with
              | false =>
                unfold wrongN
                simp only [hF, hB, hA, hN, hW, if_true, Bool.false_eq_true, if_false]
                cases r with
                | nil =>
                  refine verdN (by decide) (ev_q_num_bad L H hW fun t ht => ?_)
                  cases ht
                | cons w r1 =>
                  dsimp only
                  have fn1 := fl_nil fun e he => Er e (List.mem_cons_of_mem _ he)
                  rcases (Er w List.mem_cons_self).tk with e2 | ⟨o2, a2, q2, e2, oa2⟩
                  · have e3 : (w :: r1).flatMap tk = w :: r1.flatMap tk := by rw [List.flatMap_cons, e2]; rfl
                    rw [e3] at L
                    cases hw : isNum w 2 with
                    | true =>
                      rw [if_pos rfl]
                      by_cases hr : r1 = []
                      · rw [if_pos hr]
                        rw [fn1.mpr hr] at L
                        exact verd0 (ev_q_num L H hW (t := w) rfl hw rfl)
                      · rw [if_neg hr]
                        refine verdN (by decide) (ev_q_num_more L H hW (t := w) rfl hw ?_)
                        have : r1.flatMap tk ≠ [] := fun z => hr (fn1.mp z)
                        have := List.length_pos_iff.mpr this
                        simp only [List.length_cons]
                        omega
                    | false =>
                      rw [if_neg Bool.false_ne_true]
                      refine verdN (by decide) (ev_q_num_bad L H hW fun t ht => ?_)
                      cases ht
                      exact hw
                  · have e3 : (w :: r1).flatMap tk = a2 :: (q2 ++ r1.flatMap tk) := by rw [List.flatMap_cons, e2]; rfl
                    rw [e3] at L
                    rw [if_neg (by rw [o2.n]; simp)]
                    refine verdN (by decide) (ev_q_num_bad L H hW fun t ht => ?_)
                    cases ht
                    exact oa2.n
              | true =>
                unfold wrongN
                simp only [hF, hB, hA, hN, hW, if_true, Bool.false_eq_true, if_false]
                cases r with
                | nil =>
                  refine verdN (by decide) (ev_q_two_bad1 L H hW fun t ht => ?_)
                  cases ht
                | cons w r1 =>
                  dsimp only
                  have Er1 : ∀ e ∈ r1, El e := fun e he => Er e (List.mem_cons_of_mem _ he)
                  rcases (Er w List.mem_cons_self).tk with e2 | ⟨o2, a2, q2, e2, oa2⟩
                  · have e3 : (w :: r1).flatMap tk = w :: r1.flatMap tk := by rw [List.flatMap_cons, e2]; rfl
                    rw [e3] at L
                    cases hw : isNum w 2 with
                    | false =>
                      rw [if_neg Bool.false_ne_true]
                      refine verdN (by decide) (ev_q_two_bad1 L H hW fun t ht => ?_)
                      cases ht
                      exact hw
                    | true =>
                      rw [if_pos rfl]
                      cases r1 with
                      | nil =>
                        refine verdN (by decide) (ev_q_two_bad2 L H hW (t := w) rfl hw fun t ht => ?_)
                        cases ht
                      | cons u r2 =>
                        dsimp only
                        have fn2 := fl_nil fun e he => Er1 e (List.mem_cons_of_mem _ he)
                        rcases (Er1 u List.mem_cons_self).tk with e4 | ⟨o4, a4, q4, e4, oa4⟩
                        · have e5 : (u :: r2).flatMap tk = u :: r2.flatMap tk := by rw [List.flatMap_cons, e4]; rfl
                          rw [e5] at L
                          cases hu : isNum u 2 with
                          | false =>
                            rw [if_neg Bool.false_ne_true]
                            refine verdN (by decide) (ev_q_two_bad2 L H hW (t := w) rfl hw fun t ht => ?_)
                            cases ht
                            exact hu
                          | true =>
                            rw [if_pos rfl]
                            by_cases hr : r2 = []
                            · rw [if_pos hr]
                              rw [fn2.mpr hr] at L
                              exact verd0 (ev_q_two L H hW (t := w) (u := u) rfl hw rfl hu rfl)
                            · rw [if_neg hr]
                              refine verdN (by decide) (ev_q_two_more L H hW (t := w) (u := u) rfl hw rfl hu ?_)
                              have : r2.flatMap tk ≠ [] := fun z => hr (fn2.mp z)
                              have := List.length_pos_iff.mpr this
                              simp only [List.length_cons]
                              omega
                        · have e5 : (u :: r2).flatMap tk = a4 :: (q4 ++ r2.flatMap tk) := by rw [List.flatMap_cons, e4]; rfl
                          rw [e5] at L
                          rw [if_neg (by rw [o4.n]; simp)]
                          refine verdN (by decide) (ev_q_two_bad2 L H hW (t := w) rfl hw fun t ht => ?_)
                          cases ht
                          exact oa4.n
                  · have e3 : (w :: r1).flatMap tk = a2 :: (q2 ++ r1.flatMap tk) := by rw [List.flatMap_cons, e2]; rfl
                    rw [e3] at L
                    rw [if_neg (by rw [o2.n]; simp)]
                    refine verdN (by decide) (ev_q_two_bad1 L H hW fun t ht => ?_)
                    cases ht
                    exact oa2.n
    · rw [e1] at ht
      have L : Line (ln (h :: r)) (a :: (q ++ r.flatMap tk)) := ⟨hl, ok, ht⟩
      unfold wrongN
      simp only [o.F, o.B, o.A, o.N, Bool.false_eq_true, if_false]
      exact verdN (by decide) (ev_q_none L oa.F oa.B oa.A oa.N)
end K75

set_option linter.all false
set_option maxRecDepth 100000
set_option maxHeartbeats 2000000
namespace K75
open PySem PySem.Spec PyProof.Rows L2 LamX VS
/-! ### the source of draws -/
abbrev penK : List Key := [.inr "cells", .inr "at", .inr "digits", .inr "count", .inr "fold"]
def penO (cs : List PV) (a d c f : Int) : OV := .dic penK [.lst cs, .int a, .int d, .int c, .int f]
structure Pen (o : OV) : Prop where
  ex : ∃ (cs : List Int) (a d c f : Int), o = penO (cs.map PV.int) a d c f ∧ 0 ≤ a ∧ 0 ≤ d ∧ 0 ≤ f
theorem dlk {cs : List PV} {a d c f : Int} : dLook penK [.lst cs, .int a, .int d, .int c, .int f] (.inr "cells") = some (.lst cs) ∧ dLook penK [.lst cs, .int a, .int d, .int c, .int f] (.inr "at") = some (.int a) ∧
    dLook penK [.lst cs, .int a, .int d, .int c, .int f] (.inr "digits") = some (.int d) ∧ dLook penK [.lst cs, .int a, .int d, .int c, .int f] (.inr "count") = some (.int c) ∧ dLook penK [.lst cs, .int a, .int d, .int c, .int f] (.inr "fold") = some (.int f) := by
  refine ⟨?_, ?_, ?_, ?_, ?_⟩ <;> with_unfolding_all rfl
section
variable {cs : List PV} {a d c f x : Int} {ρ : PEnv} {mv : M PV}
theorem dg_at0 {k : Str} {p : PV} (h : dLook penK [.lst cs, .int a, .int d, .int c, .int f] (.inr k) = some p) : mDGet 0 (M.pure (.str k)) (.ow (penO cs a d c f) :: ρ) = .ok p (.ow (penO cs a d c f) :: ρ) := by
  show M.lift (dLook penK [.lst cs, .int a, .int d, .int c, .int f] (.inr k)) (.ow (penO cs a d c f) :: ρ) = _
  rw [h]; rfl
theorem g_cells : mDGet 0 (M.pure (.str "cells")) (.ow (penO cs a d c f) :: ρ) = .ok (.lst cs) (.ow (penO cs a d c f) :: ρ) := dg_at0 dlk.1
theorem g_at : mDGet 0 (M.pure (.str "at")) (.ow (penO cs a d c f) :: ρ) = .ok (.int a) (.ow (penO cs a d c f) :: ρ) := dg_at0 dlk.2.1
theorem g_digits : mDGet 0 (M.pure (.str "digits")) (.ow (penO cs a d c f) :: ρ) = .ok (.int d) (.ow (penO cs a d c f) :: ρ) := dg_at0 dlk.2.2.1
theorem g_count : mDGet 0 (M.pure (.str "count")) (.ow (penO cs a d c f) :: ρ) = .ok (.int c) (.ow (penO cs a d c f) :: ρ) := dg_at0 dlk.2.2.2.1
theorem g_fold : mDGet 0 (M.pure (.str "fold")) (.ow (penO cs a d c f) :: ρ) = .ok (.int f) (.ow (penO cs a d c f) :: ρ) := dg_at0 dlk.2.2.2.2
def putS (k : Str) (p : PV) (ρ : PEnv) : Option Sl → SR
  | some (.ow (.dic ks ps)) => if ks.length < sizeLine then .nx (ρ.set 0 (.ow (dPut ks ps (.inr k) p))) else .bad
  | _ => .bad
def putK (k : Str) (p : PV) (ρ : PEnv) : SR := putS k p ρ ρ[0]?
theorem dput_eq {k : Str} : (fun (p : PV) (ρ1 : PEnv) => match ρ1[0]? with
  | some (.ow (.dic _ _)) => sThen (M.pure (PV.str k)) (fun (kp : PV) (ρ2 : PEnv) => match (ρ2[0]? : Option Sl), keyOf kp with
    | some (.ow (.dic ks ps)), some k => if ks.length < sizeLine then SR.nx (ρ2.set 0 (.ow (dPut ks ps k p))) else .bad
    | _, _ => .bad) ρ1
  | _ => .bad) = putK k := by
  funext p ρ1
  unfold putK putS
  cases h : ρ1[0]? with
  | none => rfl
  | some sl => cases sl with
    | no => rfl
    | fr q => rfl
    | ow o => cases o with
      | lst ps => rfl
      | rows rs => rfl
      | ins C ks ps => rfl
      | dic ks ps =>
        show (match (ρ1[0]? : Option Sl), keyOf (PV.str k) with
          | some (.ow (.dic ks ps)), some k => if ks.length < sizeLine then SR.nx (ρ1.set 0 (.ow (dPut ks ps k p))) else .bad
          | _, _ => .bad) = _
        rw [h]; rfl
theorem e_dput {k : Str} : mDPut 0 (M.pure (.str k)) mv ρ = Res.bndS (mv ρ) (putK k) := e_sThen.trans (congrArg (Res.bndS (mv ρ)) dput_eq)
theorem pl : penK.length < sizeLine := by decide
theorem putK_pen {k : Str} {p : PV} {o' : OV} (h : dPut penK [.lst cs, .int a, .int d, .int c, .int f] (.inr k) p = o') : putK k p (.ow (penO cs a d c f) :: ρ) = .nx (.ow o' :: ρ) := by
  show (if penK.length < sizeLine then SR.nx (.ow (dPut penK [.lst cs, .int a, .int d, .int c, .int f] (.inr k) p) :: ρ) else .bad) = _
  rw [if_pos pl, h]
theorem k_at : putK "at" (.int x) (.ow (penO cs a d c f) :: ρ) = .nx (.ow (penO cs x d c f) :: ρ) := putK_pen (by with_unfolding_all rfl)
theorem k_digits : putK "digits" (.int x) (.ow (penO cs a d c f) :: ρ) = .nx (.ow (penO cs a x c f) :: ρ) := putK_pen (by with_unfolding_all rfl)
theorem k_count : putK "count" (.int x) (.ow (penO cs a d c f) :: ρ) = .nx (.ow (penO cs a d x f) :: ρ) := putK_pen (by with_unfolding_all rfl)
theorem k_fold : putK "fold" (.int x) (.ow (penO cs a d c f) :: ρ) = .nx (.ow (penO cs a d c x) :: ρ) := putK_pen (by with_unfolding_all rfl)
end
theorem mul_r {i j : Int} (h : -(2 ^ 64) < j ∧ j < 2 ^ 64) : pMul (.int i) (.int j) = some (.int (i * j)) := by
  show (if okMul i j then some (PV.int (i * j)) else none) = _
  rw [if_pos]
  unfold okMul
  rw [decide_eq_true h, Bool.or_true]
theorem mul_l {i j : Int} (h : -(2 ^ 64) < i ∧ i < 2 ^ 64) : pMul (.int i) (.int j) = some (.int (i * j)) := by
  show (if okMul i j then some (PV.int (i * j)) else none) = _
  rw [if_pos]
  unfold okMul
  rw [decide_eq_true h, Bool.true_or]
theorem mod_p {i j : Int} (h : 0 < j) : pMod (.int i) (.int j) = some (.int (i % j)) := by
  show (if 0 < j then some (PV.int (i % j)) else none) = _
  rw [if_pos h]
theorem div_p {i j : Int} (h : 0 < j ∧ j < 1073741824) : pDiv (.int i) (.int j) = some (.int (i / j)) := by
  show (if 0 < j ∧ j < 1073741824 then some (PV.int (i / j)) else none) = _
  rw [if_pos h]
theorem int_i {i : Int} : pInt [.int i] = some (.int i) := rfl
theorem p18 : pPow (.int 10) (.int 18) = some (.int 1000000000000000000) := rfl
theorem p_sub {i j : Int} : pSub (.int i) (.int j) = some (.int (i - j)) := rfl
theorem p_lt {i j : Int} : pLt (.int i) (.int j) = some (.bl (decide (i < j))) := rfl
theorem p_gt {i j : Int} : pGt (.int i) (.int j) = some (.bl (decide (j < i))) := rfl
theorem p_ge {i j : Int} : pGe (.int i) (.int j) = some (.bl (decide (j ≤ i))) := rfl
theorem p_le {i j : Int} : pLe (.int i) (.int j) = some (.bl (decide (i ≤ j))) := rfl
theorem m1 {i : Int} : pMul (.int i) (.int 48271) = some (.int (i * 48271)) := mul_r (by decide)
theorem m2 {i : Int} : pMul (.int i) (.int 7919) = some (.int (i * 7919)) := mul_r (by decide)
theorem m3 {i : Int} : pMul (.int 31) (.int i) = some (.int (31 * i)) := mul_l (by decide)
theorem m4 {i : Int} : pMul (.int i) (.int 16807) = some (.int (i * 16807)) := mul_r (by decide)
theorem m5 {i : Int} : pMul (.int i) (.int 69069) = some (.int (i * 69069)) := mul_r (by decide)
theorem m6 {i : Int} : pMul (.int i) (.int 47) = some (.int (i * 47)) := mul_r (by decide)
theorem q1 {i : Int} : pMod (.int i) (.int 2147483647) = some (.int (i % 2147483647)) := mod_p (by decide)
theorem q2 {i : Int} : pMod (.int i) (.int 2147483629) = some (.int (i % 2147483629)) := mod_p (by decide)
theorem q3 {i : Int} : pMod (.int i) (.int 2147483587) = some (.int (i % 2147483587)) := mod_p (by decide)
theorem q4 {i : Int} : pMod (.int i) (.int 1000000007) = some (.int (i % 1000000007)) := mod_p (by decide)
theorem v64 {i : Int} : pDiv (.int i) (.int 64) = some (.int (i / 64)) := div_p (by decide)
theorem sq_blend {i : Int} : pMul (.int (i % 2147483647)) (.int (i % 2147483647)) = some (.int (i % 2147483647 * (i % 2147483647))) := mul_r ⟨by omega, by omega⟩
theorem ix_cell {cs : List Int} {a : Int} (h0 : 0 ≤ a) (h : a < cs.length) : ∃ x, pIx (.lst (cs.map PV.int)) (.int a) = some (.int x) := by
  obtain ⟨n, rfl⟩ := Int.eq_ofNat_of_zero_le h0
  have hn : n < cs.length := by omega
  refine ⟨cs[n], ?_⟩
  show atI (cs.map PV.int) (n : Int) = _
  exact atI_nat (by rw [List.getElem?_map, List.getElem?_eq_getElem hn]; rfl)
/-- the first half of a draw: a cell may be read -/
def drawA : MS := (mIfS (mAnd (mTest (mOp2 pEq (mDGet 0 (M.pure (.str "digits"))) (M.pure (.int 0)))) (mTest (mOp2 pLt (mDGet 0 (M.pure (.str "at"))) (mCallP pLen (mCons (mDGet 0 (M.pure (.str "cells"))) (M.pure [])))))) (mSeq (mSet 2 (mOp2 pIx (mDGet 0 (M.pure (.str "cells"))) (mDGet 0 (M.pure (.str "at"))))) (mSeq (mDPut 0 (M.pure (.str "at")) (mOp2 pAdd (mDGet 0 (M.pure (.str "at"))) (M.pure (.int 1)))) (mSeq (mIfS (mTest (mOp2 pGe (mVar 2) (mOp2 pPow (M.pure (.int 10)) (M.pure (.int 18))))) (mSeq (mDPut 0 (M.pure (.str "digits")) (mOp2 pSub (mVar 2) (mOp2 pPow (M.pure (.int 10)) (M.pure (.int 18))))) mNext) (mSeq (mDPut 0 (M.pure (.str "fold")) (mOp2 pMod (mCallP pInt (mCons (mOp2 pAdd (mOp2 pMul (mDGet 0 (M.pure (.str "fold"))) (M.pure (.int 69069))) (mVar 2)) (M.pure []))) (M.pure (.int 2147483587)))) mNext)) mNext))) mNext)
theorem ev_drawA {cs : List Int} {a d c f m : Int} (ha : 0 ≤ a) (hd : 0 ≤ d) (hf : 0 ≤ f) : ∃ a' d' f' s, drawA [.ow (penO (cs.map PV.int) a d c f), .fr (.int m), .no, .no, .no] = .nx [.ow (penO (cs.map PV.int) a' d' c f'), .fr (.int m), s, .no, .no] ∧ 0 ≤ a' ∧ 0 ≤ d' ∧ 0 ≤ f' := by
  by_cases h1 : d = 0
  · by_cases h2 : a < cs.length
    · obtain ⟨x, hx⟩ := ix_cell ha h2
      by_cases h3 : (1000000000000000000 : Int) ≤ x
      · refine ⟨a + 1, x - 1000000000000000000, f, .fr (.int x), ?_, by omega, by omega, hf⟩
        simp only [drawA, decide_true, decide_false, e_enum0, e_enum1, e_enum2, e_forN, e_forC, e_lpN, e_lpC, e_lpB, e_lpR, e_lpE, e_body, e_gK, e_gSlot, e_gPair, e_asg, e_asgK, e_enum, e_lstP, e_opMap, e_callG, e_cgS, e_cgT, e_disp, e_toldM, e_toldO, e_toldE, e_toldK, e_extend, e_exS, e_exK, e_callO, e_ok, e_err, e_bad, e_okS, e_errS, e_badS, e_nx, e_rt, e_bk, e_ct, e_ex, e_bd, e_bind, e_pure, e_some, e_none, e_op1, e_op2, e_cons, e_test, e_callP, e_if, e_and, e_or, e_not, e_andV, e_orV, e_andT, e_andF, e_orT, e_orF, e_chain, e_chT, e_chF, e_part, e_sl, e_var, e_varF, e_varO, e_look, e_lookF, e_lookO, e_look1, e_argV, e_argS, e_slot, e_slotF, e_slotO, e_call, e_frz, e_lstO, e_listO, e_anyI, e_sThen, e_seq, e_next, e_brk, e_cnt, e_ret, e_drop, e_set, e_setO, e_ifS, e_raise, e_exn, e_for, boolP, partP, List.getElem?_cons_zero, List.getElem?_cons_succ, List.set_cons_zero, List.set_cons_succ, if_true, if_false, Bool.false_eq_true, Bool.not_true, Bool.not_false, e_vrt, e_vnx, e_xer, e_append, e_appS, e_appK, e_aug, e_augS, e_augK, e_pair, e_fr, e_ow, pSz, pLen, pAdd, frzO, sizeLine_eq, List.length_cons, List.length_nil, Nat.reduceAdd, Nat.reduceLeDiff, Nat.reduceLT, Nat.zero_add, Nat.zero_le, Nat.reduceSub, List.nil_append, List.cons_append, List.append_nil, List.map_cons, List.map_nil, List.replicate, g_digits, g_at, g_cells, q_eqI, h1, BEq.rfl, List.length_map, p_lt, decide_eq_true h2, hx, e_dput, k_at, p18, p_ge, decide_eq_true h3, p_sub, k_digits]
      · refine ⟨a + 1, 0, (f * 69069 + x) % 2147483587, .fr (.int x), ?_, by omega, Int.le_refl _, by omega⟩
        simp only [drawA, decide_true, decide_false, e_enum0, e_enum1, e_enum2, e_forN, e_forC, e_lpN, e_lpC, e_lpB, e_lpR, e_lpE, e_body, e_gK, e_gSlot, e_gPair, e_asg, e_asgK, e_enum, e_lstP, e_opMap, e_callG, e_cgS, e_cgT, e_disp, e_toldM, e_toldO, e_toldE, e_toldK, e_extend, e_exS, e_exK, e_callO, e_ok, e_err, e_bad, e_okS, e_errS, e_badS, e_nx, e_rt, e_bk, e_ct, e_ex, e_bd, e_bind, e_pure, e_some, e_none, e_op1, e_op2, e_cons, e_test, e_callP, e_if, e_and, e_or, e_not, e_andV, e_orV, e_andT, e_andF, e_orT, e_orF, e_chain, e_chT, e_chF, e_part, e_sl, e_var, e_varF, e_varO, e_look, e_lookF, e_lookO, e_look1, e_argV, e_argS, e_slot, e_slotF, e_slotO, e_call, e_frz, e_lstO, e_listO, e_anyI, e_sThen, e_seq, e_next, e_brk, e_cnt, e_ret, e_drop, e_set, e_setO, e_ifS, e_raise, e_exn, e_for, boolP, partP, List.getElem?_cons_zero, List.getElem?_cons_succ, List.set_cons_zero, List.set_cons_succ, if_true, if_false, Bool.false_eq_true, Bool.not_true, Bool.not_false, e_vrt, e_vnx, e_xer, e_append, e_appS, e_appK, e_aug, e_augS, e_augK, e_pair, e_fr, e_ow, pSz, pLen, pAdd, frzO, sizeLine_eq, List.length_cons, List.length_nil, Nat.reduceAdd, Nat.reduceLeDiff, Nat.reduceLT, Nat.zero_add, Nat.zero_le, Nat.reduceSub, List.nil_append, List.cons_append, List.append_nil, List.map_cons, List.map_nil, List.replicate, g_digits, g_at, g_cells, q_eqI, h1, BEq.rfl, List.length_map, p_lt, decide_eq_true h2, hx, e_dput, k_at, p18, p_ge, decide_eq_false h3, g_fold, m5, int_i, q3, k_fold]
    · refine ⟨a, d, f, .no, ?_, ha, hd, hf⟩
      simp only [drawA, decide_true, decide_false, e_enum0, e_enum1, e_enum2, e_forN, e_forC, e_lpN, e_lpC, e_lpB, e_lpR, e_lpE, e_body, e_gK, e_gSlot, e_gPair, e_asg, e_asgK, e_enum, e_lstP, e_opMap, e_callG, e_cgS, e_cgT, e_disp, e_toldM, e_toldO, e_toldE, e_toldK, e_extend, e_exS, e_exK, e_callO, e_ok, e_err, e_bad, e_okS, e_errS, e_badS, e_nx, e_rt, e_bk, e_ct, e_ex, e_bd, e_bind, e_pure, e_some, e_none, e_op1, e_op2, e_cons, e_test, e_callP, e_if, e_and, e_or, e_not, e_andV, e_orV, e_andT, e_andF, e_orT, e_orF, e_chain, e_chT, e_chF, e_part, e_sl, e_var, e_varF, e_varO, e_look, e_lookF, e_lookO, e_look1, e_argV, e_argS, e_slot, e_slotF, e_slotO, e_call, e_frz, e_lstO, e_listO, e_anyI, e_sThen, e_seq, e_next, e_brk, e_cnt, e_ret, e_drop, e_set, e_setO, e_ifS, e_raise, e_exn, e_for, boolP, partP, List.getElem?_cons_zero, List.getElem?_cons_succ, List.set_cons_zero, List.set_cons_succ, if_true, if_false, Bool.false_eq_true, Bool.not_true, Bool.not_false, e_vrt, e_vnx, e_xer, e_append, e_appS, e_appK, e_aug, e_augS, e_augK, e_pair, e_fr, e_ow, pSz, pLen, pAdd, frzO, sizeLine_eq, List.length_cons, List.length_nil, Nat.reduceAdd, Nat.reduceLeDiff, Nat.reduceLT, Nat.zero_add, Nat.zero_le, Nat.reduceSub, List.nil_append, List.cons_append, List.append_nil, List.map_cons, List.map_nil, List.replicate, g_digits, g_at, g_cells, q_eqI, h1, BEq.rfl, List.length_map, p_lt, decide_eq_false h2]
  · refine ⟨a, d, f, .no, ?_, ha, hd, hf⟩
    have : (d == 0) = false := by simpa using h1
    simp only [drawA, decide_true, decide_false, e_enum0, e_enum1, e_enum2, e_forN, e_forC, e_lpN, e_lpC, e_lpB, e_lpR, e_lpE, e_body, e_gK, e_gSlot, e_gPair, e_asg, e_asgK, e_enum, e_lstP, e_opMap, e_callG, e_cgS, e_cgT, e_disp, e_toldM, e_toldO, e_toldE, e_toldK, e_extend, e_exS, e_exK, e_callO, e_ok, e_err, e_bad, e_okS, e_errS, e_badS, e_nx, e_rt, e_bk, e_ct, e_ex, e_bd, e_bind, e_pure, e_some, e_none, e_op1, e_op2, e_cons, e_test, e_callP, e_if, e_and, e_or, e_not, e_andV, e_orV, e_andT, e_andF, e_orT, e_orF, e_chain, e_chT, e_chF, e_part, e_sl, e_var, e_varF, e_varO, e_look, e_lookF, e_lookO, e_look1, e_argV, e_argS, e_slot, e_slotF, e_slotO, e_call, e_frz, e_lstO, e_listO, e_anyI, e_sThen, e_seq, e_next, e_brk, e_cnt, e_ret, e_drop, e_set, e_setO, e_ifS, e_raise, e_exn, e_for, boolP, partP, List.getElem?_cons_zero, List.getElem?_cons_succ, List.set_cons_zero, List.set_cons_succ, if_true, if_false, Bool.false_eq_true, Bool.not_true, Bool.not_false, e_vrt, e_vnx, e_xer, e_append, e_appS, e_appK, e_aug, e_augS, e_augK, e_pair, e_fr, e_ow, pSz, pLen, pAdd, frzO, sizeLine_eq, List.length_cons, List.length_nil, Nat.reduceAdd, Nat.reduceLeDiff, Nat.reduceLT, Nat.zero_add, Nat.zero_le, Nat.reduceSub, List.nil_append, List.cons_append, List.append_nil, List.map_cons, List.map_nil, List.replicate, g_digits, q_eqI, this]
def drawP : MS := mDPut 0 (M.pure (.str "count")) (mOp2 pAdd (mDGet 0 (M.pure (.str "count"))) (M.pure (.int 1)))
def drawB : MS := (mSeq (mIfS (mTest (mOp2 pGt (mDGet 0 (M.pure (.str "digits"))) (M.pure (.int 0)))) (mSeq (mSet 3 (mOp2 pMod (mCallP pInt (mCons (mDGet 0 (M.pure (.str "digits"))) (M.pure []))) (mVar 1))) (mSeq (mDPut 0 (M.pure (.str "digits")) (mOp2 pDiv (mDGet 0 (M.pure (.str "digits"))) (mVar 1))) (mSeq (mRet (mVar 3)) mNext))) mNext) (mSeq (mSet 4 (mOp2 pMod (mCallP pInt (mCons (mOp2 pAdd (mOp2 pAdd (mOp2 pMul (mDGet 0 (M.pure (.str "fold"))) (M.pure (.int 48271))) (mOp2 pMul (mDGet 0 (M.pure (.str "count"))) (M.pure (.int 7919)))) (M.pure (.int 13))) (M.pure []))) (M.pure (.int 2147483647)))) (mSeq (mSet 4 (mOp2 pMod (mCallP pInt (mCons (mOp2 pAdd (mOp2 pAdd (mOp2 pMul (mVar 4) (mVar 4)) (mOp2 pMul (M.pure (.int 31)) (mVar 4))) (mDGet 0 (M.pure (.str "count")))) (M.pure []))) (M.pure (.int 2147483629)))) (mSeq (mDPut 0 (M.pure (.str "fold")) (mOp2 pMod (mCallP pInt (mCons (mOp2 pAdd (mOp2 pMul (mVar 4) (M.pure (.int 16807))) (M.pure (.int 7))) (M.pure []))) (M.pure (.int 2147483647)))) (mSeq (mRet (mOp2 pMod (mCallP pInt (mCons (mOp2 pDiv (mVar 4) (M.pure (.int 64))) (M.pure []))) (mVar 1))) mNext)))))
theorem draw_eq : b_l_draw = mSeq drawP (mSeq drawA drawB) := rfl
theorem ev_draw {o : OV} {m : Int} (P : Pen o) (h0 : 0 < m) (hm : m < 1073741824) : ∃ n o', Moves m_l_draw [.int m] o (.int n) o' ∧ Pen o' ∧ 0 ≤ n ∧ n < m := by
  obtain ⟨cs, a, d, c, f, rfl, ha, hd, hf⟩ := P.ex
  obtain ⟨a', d', f', s, e1, ha', hd', hf'⟩ := ev_drawA (cs := cs) (c := c + 1) (m := m) ha hd hf
  by_cases h : 0 < d'
  · refine ⟨d' % m, penO (cs.map PV.int) a' (d' / m) (c + 1) f', moves_of (by rfl) (r := [.fr (.int m), s, .fr (.int (d' % m)), .no]) ?_, ⟨cs, a', d' / m, c + 1, f', rfl, ha', Int.ediv_nonneg hd' (by omega), hf'⟩, Int.emod_nonneg _ (by omega), Int.emod_lt_of_pos _ h0⟩
    have eM := mod_p (i := d') h0
    have eD := div_p (i := d') ⟨h0, hm⟩
    simp only [draw_eq, drawP, drawB, decide_true, decide_false, e_enum0, e_enum1, e_enum2, e_forN, e_forC, e_lpN, e_lpC, e_lpB, e_lpR, e_lpE, e_body, e_gK, e_gSlot, e_gPair, e_asg, e_asgK, e_enum, e_lstP, e_opMap, e_callG, e_cgS, e_cgT, e_disp, e_toldM, e_toldO, e_toldE, e_toldK, e_extend, e_exS, e_exK, e_callO, e_ok, e_err, e_bad, e_okS, e_errS, e_badS, e_nx, e_rt, e_bk, e_ct, e_ex, e_bd, e_bind, e_pure, e_some, e_none, e_op1, e_op2, e_cons, e_test, e_callP, e_if, e_and, e_or, e_not, e_andV, e_orV, e_andT, e_andF, e_orT, e_orF, e_chain, e_chT, e_chF, e_part, e_sl, e_var, e_varF, e_varO, e_look, e_lookF, e_lookO, e_look1, e_argV, e_argS, e_slot, e_slotF, e_slotO, e_call, e_frz, e_lstO, e_listO, e_anyI, e_sThen, e_seq, e_next, e_brk, e_cnt, e_ret, e_drop, e_set, e_setO, e_ifS, e_raise, e_exn, e_for, boolP, partP, List.getElem?_cons_zero, List.getElem?_cons_succ, List.set_cons_zero, List.set_cons_succ, if_true, if_false, Bool.false_eq_true, Bool.not_true, Bool.not_false, e_vrt, e_vnx, e_xer, e_append, e_appS, e_appK, e_aug, e_augS, e_augK, e_pair, e_fr, e_ow, pSz, pLen, pAdd, frzO, sizeLine_eq, List.length_cons, List.length_nil, Nat.reduceAdd, Nat.reduceLeDiff, Nat.reduceLT, Nat.zero_add, Nat.zero_le, Nat.reduceSub, List.nil_append, List.cons_append, List.append_nil, List.map_cons, List.map_nil, List.replicate, e_dput, g_count, k_count, e1, g_digits, p_gt, decide_eq_true h, int_i, eM, eD, k_digits]
  · refine ⟨(((f' * 48271 + (c + 1) * 7919 + 13) % 2147483647 * ((f' * 48271 + (c + 1) * 7919 + 13) % 2147483647) + 31 * ((f' * 48271 + (c + 1) * 7919 + 13) % 2147483647) + (c + 1)) % 2147483629 / 64) % m, penO (cs.map PV.int) a' d' (c + 1) ((((f' * 48271 + (c + 1) * 7919 + 13) % 2147483647 * ((f' * 48271 + (c + 1) * 7919 + 13) % 2147483647) + 31 * ((f' * 48271 + (c + 1) * 7919 + 13) % 2147483647) + (c + 1)) % 2147483629 * 16807 + 7) % 2147483647), moves_of (by rfl) (r := [.fr (.int m), s, .no, .fr (.int (((f' * 48271 + (c + 1) * 7919 + 13) % 2147483647 * ((f' * 48271 + (c + 1) * 7919 + 13) % 2147483647) + 31 * ((f' * 48271 + (c + 1) * 7919 + 13) % 2147483647) + (c + 1)) % 2147483629))]) ?_, ⟨cs, a', d', c + 1, _, rfl, ha', hd', by omega⟩, Int.emod_nonneg _ (by omega), Int.emod_lt_of_pos _ h0⟩
    have eM := fun i => mod_p (i := i) h0
    simp only [draw_eq, drawP, drawB, decide_true, decide_false, e_enum0, e_enum1, e_enum2, e_forN, e_forC, e_lpN, e_lpC, e_lpB, e_lpR, e_lpE, e_body, e_gK, e_gSlot, e_gPair, e_asg, e_asgK, e_enum, e_lstP, e_opMap, e_callG, e_cgS, e_cgT, e_disp, e_toldM, e_toldO, e_toldE, e_toldK, e_extend, e_exS, e_exK, e_callO, e_ok, e_err, e_bad, e_okS, e_errS, e_badS, e_nx, e_rt, e_bk, e_ct, e_ex, e_bd, e_bind, e_pure, e_some, e_none, e_op1, e_op2, e_cons, e_test, e_callP, e_if, e_and, e_or, e_not, e_andV, e_orV, e_andT, e_andF, e_orT, e_orF, e_chain, e_chT, e_chF, e_part, e_sl, e_var, e_varF, e_varO, e_look, e_lookF, e_lookO, e_look1, e_argV, e_argS, e_slot, e_slotF, e_slotO, e_call, e_frz, e_lstO, e_listO, e_anyI, e_sThen, e_seq, e_next, e_brk, e_cnt, e_ret, e_drop, e_set, e_setO, e_ifS, e_raise, e_exn, e_for, boolP, partP, List.getElem?_cons_zero, List.getElem?_cons_succ, List.set_cons_zero, List.set_cons_succ, if_true, if_false, Bool.false_eq_true, Bool.not_true, Bool.not_false, e_vrt, e_vnx, e_xer, e_append, e_appS, e_appK, e_aug, e_augS, e_augK, e_pair, e_fr, e_ow, pSz, pLen, pAdd, frzO, sizeLine_eq, List.length_cons, List.length_nil, Nat.reduceAdd, Nat.reduceLeDiff, Nat.reduceLT, Nat.zero_add, Nat.zero_le, Nat.reduceSub, List.nil_append, List.cons_append, List.append_nil, List.map_cons, List.map_nil, List.replicate, e_dput, g_count, k_count, e1, g_digits, p_gt, decide_eq_false h, g_fold, m1, m2, m3, m4, int_i, q1, q2, sq_blend, k_fold, v64, eM]
/-- one of a list -/
theorem ev_pick {o : OV} {ps : List PV} (P : Pen o) (h0 : ps ≠ []) (hl : ps.length < 1073741824) : ∃ p o', Moves m_l_pick [.lst ps] o p o' ∧ Pen o' ∧ p ∈ ps := by
  have hp := List.length_pos_iff.mpr h0
  obtain ⟨n, o', h, P', n0, n1⟩ := ev_draw (m := ps.length) P (by omega) (by omega)
  obtain ⟨i, rfl⟩ := Int.eq_ofNat_of_zero_le n0
  have hi : i < ps.length := by omega
  refine ⟨ps[i], o', moves_of (by rfl) (r := [.fr (.lst ps)]) ?_, P', List.getElem_mem hi⟩
  have ix : pIx (.lst ps) (.int (i : Int)) = some ps[i] := atI_nat (List.getElem?_eq_getElem hi)
  simp only [b_l_pick, decide_true, decide_false, e_enum0, e_enum1, e_enum2, e_forN, e_forC, e_lpN, e_lpC, e_lpB, e_lpR, e_lpE, e_body, e_gK, e_gSlot, e_gPair, e_asg, e_asgK, e_enum, e_lstP, e_opMap, e_callG, e_cgS, e_cgT, e_disp, e_toldM, e_toldO, e_toldE, e_toldK, e_extend, e_exS, e_exK, e_callO, e_ok, e_err, e_bad, e_okS, e_errS, e_badS, e_nx, e_rt, e_bk, e_ct, e_ex, e_bd, e_bind, e_pure, e_some, e_none, e_op1, e_op2, e_cons, e_test, e_callP, e_if, e_and, e_or, e_not, e_andV, e_orV, e_andT, e_andF, e_orT, e_orF, e_chain, e_chT, e_chF, e_part, e_sl, e_var, e_varF, e_varO, e_look, e_lookF, e_lookO, e_look1, e_argV, e_argS, e_slot, e_slotF, e_slotO, e_call, e_frz, e_lstO, e_listO, e_anyI, e_sThen, e_seq, e_next, e_brk, e_cnt, e_ret, e_drop, e_set, e_setO, e_ifS, e_raise, e_exn, e_for, boolP, partP, List.getElem?_cons_zero, List.getElem?_cons_succ, List.set_cons_zero, List.set_cons_succ, if_true, if_false, Bool.false_eq_true, Bool.not_true, Bool.not_false, e_vrt, e_vnx, e_xer, e_append, e_appS, e_appK, e_aug, e_augS, e_augK, e_pair, e_fr, e_ow, pSz, pLen, pAdd, frzO, sizeLine_eq, List.length_cons, List.length_nil, Nat.reduceAdd, Nat.reduceLeDiff, Nat.reduceLT, Nat.zero_add, Nat.zero_le, Nat.reduceSub, List.nil_append, List.cons_append, List.append_nil, List.map_cons, List.map_nil, List.replicate, d1 h, ix]
theorem e_thenO {a : MS} {b : M OV} {ρ : PEnv} {ρ' : PEnv} (h : a ρ = .nx ρ') : mThenO a b ρ = b ρ' := by
  unfold mThenO
  rw [h]
theorem ev_pen (cs : List Int) : ∃ o ss, m_l_pen [.fr (.sq (cs.map PV.int))] = .ok o ss ∧ Pen o := by
  have hf : ∃ ρ', mFor (mAnyI (mVar 0)) (gSlot 2) (mSeq (mSet 1 (mOp2 pMod (mCallP pInt (mCons (mOp2 pAdd (mOp2 pMul (mVar 1) (M.pure (.int 47))) (mVar 2)) (M.pure []))) (M.pure (.int 1000000007)))) mNext) [.fr (.sq (cs.map PV.int)), .fr (.int 0), .no] = .nx ρ' ∧ ∃ f s, ρ' = [.fr (.sq (cs.map PV.int)), .fr (.int f), s] ∧ 0 ≤ f := by
    have key := for_eval (b := bodyM (gSlot 2) (mSeq (mSet 1 (mOp2 pMod (mCallP pInt (mCons (mOp2 pAdd (mOp2 pMul (mVar 1) (M.pure (.int 47))) (mVar 2)) (M.pure []))) (M.pure (.int 1000000007)))) mNext)) (fun qs ρ => (∀ q ∈ qs, ∃ i, q = PV.int i) ∧ ∃ f s, ρ = [.fr (.sq (cs.map PV.int)), .fr (.int f), s] ∧ 0 ≤ f) (ps := cs.map PV.int) (ρ := [.fr (.sq (cs.map PV.int)), .fr (.int 0), .no]) ⟨fun q hq => by obtain ⟨i, _, rfl⟩ := List.mem_map.mp hq; exact ⟨i, rfl⟩, 0, .no, rfl, Int.le_refl _⟩ ?_
    · obtain ⟨ρ', e, _, f, s, h1, h2⟩ := key
      refine ⟨ρ', ?_, f, s, h1, h2⟩
      have an : anyP (.sq (cs.map PV.int)) = some (cs.map PV.int) := rfl
      rw [e_for]
      simp only [e_anyI, e_var, List.getElem?_cons_zero, e_varF, e_ok, an, e_some, e_okS]
      exact e
    · rintro p qs ρ ⟨hq, f, s, rfl, hf⟩
      obtain ⟨i, rfl⟩ := hq p List.mem_cons_self
      refine ⟨[.fr (.sq (cs.map PV.int)), .fr (.int ((f * 47 + i) % 1000000007)), .fr (.int i)], ?_, fun q h => hq q (List.mem_cons_of_mem _ h), _, _, rfl, by omega⟩
      show mSeq (mSet 1 (mOp2 pMod (mCallP pInt (mCons (mOp2 pAdd (mOp2 pMul (mVar 1) (M.pure (.int 47))) (mVar 2)) (M.pure []))) (M.pure (.int 1000000007)))) mNext [.fr (.sq (cs.map PV.int)), .fr (.int f), .fr (.int i)] = _
      simp only [decide_true, decide_false, e_enum0, e_enum1, e_enum2, e_forN, e_forC, e_lpN, e_lpC, e_lpB, e_lpR, e_lpE, e_body, e_gK, e_gSlot, e_gPair, e_asg, e_asgK, e_enum, e_lstP, e_opMap, e_callG, e_cgS, e_cgT, e_disp, e_toldM, e_toldO, e_toldE, e_toldK, e_extend, e_exS, e_exK, e_callO, e_ok, e_err, e_bad, e_okS, e_errS, e_badS, e_nx, e_rt, e_bk, e_ct, e_ex, e_bd, e_bind, e_pure, e_some, e_none, e_op1, e_op2, e_cons, e_test, e_callP, e_if, e_and, e_or, e_not, e_andV, e_orV, e_andT, e_andF, e_orT, e_orF, e_chain, e_chT, e_chF, e_part, e_sl, e_var, e_varF, e_varO, e_look, e_lookF, e_lookO, e_look1, e_argV, e_argS, e_slot, e_slotF, e_slotO, e_call, e_frz, e_lstO, e_listO, e_anyI, e_sThen, e_seq, e_next, e_brk, e_cnt, e_ret, e_drop, e_set, e_setO, e_ifS, e_raise, e_exn, e_for, boolP, partP, List.getElem?_cons_zero, List.getElem?_cons_succ, List.set_cons_zero, List.set_cons_succ, if_true, if_false, Bool.false_eq_true, Bool.not_true, Bool.not_false, e_vrt, e_vnx, e_xer, e_append, e_appS, e_appK, e_aug, e_augS, e_augK, e_pair, e_fr, e_ow, pSz, pLen, pAdd, frzO, sizeLine_eq, List.length_cons, List.length_nil, Nat.reduceAdd, Nat.reduceLeDiff, Nat.reduceLT, Nat.zero_add, Nat.zero_le, Nat.reduceSub, List.nil_append, List.cons_append, List.append_nil, List.map_cons, List.map_nil, List.replicate, m6, int_i, q4]
  obtain ⟨ρ', e, f, s, rfl, h0⟩ := hf
  refine ⟨penO (cs.map PV.int) 0 0 0 f, argsBack (fun _ => false) 0 [.fr (.sq (cs.map PV.int))] [.fr (.sq (cs.map PV.int)), .fr (.int f), s], ?_, ⟨cs, 0, 0, 0, f, rfl, Int.le_refl _, Int.le_refl _, h0⟩⟩
  have sq : seqP (.sq (cs.map PV.int)) = some (cs.map PV.int) := rfl
  have b : b_l_pen [.fr (.sq (cs.map PV.int)), .no, .no] = .ok (penO (cs.map PV.int) 0 0 0 f) [.fr (.sq (cs.map PV.int)), .fr (.int f), s] := by
    unfold b_l_pen
    rw [e_thenO (ρ' := [.fr (.sq (cs.map PV.int)), .fr (.int 0), .no]) (by simp only [decide_true, decide_false, e_enum0, e_enum1, e_enum2, e_forN, e_forC, e_lpN, e_lpC, e_lpB, e_lpR, e_lpE, e_body, e_gK, e_gSlot, e_gPair, e_asg, e_asgK, e_enum, e_lstP, e_opMap, e_callG, e_cgS, e_cgT, e_disp, e_toldM, e_toldO, e_toldE, e_toldK, e_extend, e_exS, e_exK, e_callO, e_ok, e_err, e_bad, e_okS, e_errS, e_badS, e_nx, e_rt, e_bk, e_ct, e_ex, e_bd, e_bind, e_pure, e_some, e_none, e_op1, e_op2, e_cons, e_test, e_callP, e_if, e_and, e_or, e_not, e_andV, e_orV, e_andT, e_andF, e_orT, e_orF, e_chain, e_chT, e_chF, e_part, e_sl, e_var, e_varF, e_varO, e_look, e_lookF, e_lookO, e_look1, e_argV, e_argS, e_slot, e_slotF, e_slotO, e_call, e_frz, e_lstO, e_listO, e_anyI, e_sThen, e_seq, e_next, e_brk, e_cnt, e_ret, e_drop, e_set, e_setO, e_ifS, e_raise, e_exn, e_for, boolP, partP, List.getElem?_cons_zero, List.getElem?_cons_succ, List.set_cons_zero, List.set_cons_succ, if_true, if_false, Bool.false_eq_true, Bool.not_true, Bool.not_false, e_vrt, e_vnx, e_xer, e_append, e_appS, e_appK, e_aug, e_augS, e_augK, e_pair, e_fr, e_ow, pSz, pLen, pAdd, frzO, sizeLine_eq, List.length_cons, List.length_nil, Nat.reduceAdd, Nat.reduceLeDiff, Nat.reduceLT, Nat.zero_add, Nat.zero_le, Nat.reduceSub, List.nil_append, List.cons_append, List.append_nil, List.map_cons, List.map_nil, List.replicate]), e_thenO e]
    simp only [e_disp, decide_true, decide_false, e_enum0, e_enum1, e_enum2, e_forN, e_forC, e_lpN, e_lpC, e_lpB, e_lpR, e_lpE, e_body, e_gK, e_gSlot, e_gPair, e_asg, e_asgK, e_enum, e_lstP, e_opMap, e_callG, e_cgS, e_cgT, e_disp, e_toldM, e_toldO, e_toldE, e_toldK, e_extend, e_exS, e_exK, e_callO, e_ok, e_err, e_bad, e_okS, e_errS, e_badS, e_nx, e_rt, e_bk, e_ct, e_ex, e_bd, e_bind, e_pure, e_some, e_none, e_op1, e_op2, e_cons, e_test, e_callP, e_if, e_and, e_or, e_not, e_andV, e_orV, e_andT, e_andF, e_orT, e_orF, e_chain, e_chT, e_chF, e_part, e_sl, e_var, e_varF, e_varO, e_look, e_lookF, e_lookO, e_look1, e_argV, e_argS, e_slot, e_slotF, e_slotO, e_call, e_frz, e_lstO, e_listO, e_anyI, e_sThen, e_seq, e_next, e_brk, e_cnt, e_ret, e_drop, e_set, e_setO, e_ifS, e_raise, e_exn, e_for, boolP, partP, List.getElem?_cons_zero, List.getElem?_cons_succ, List.set_cons_zero, List.set_cons_succ, if_true, if_false, Bool.false_eq_true, Bool.not_true, Bool.not_false, e_vrt, e_vnx, e_xer, e_append, e_appS, e_appK, e_aug, e_augS, e_augK, e_pair, e_fr, e_ow, pSz, pLen, pAdd, frzO, sizeLine_eq, List.length_cons, List.length_nil, Nat.reduceAdd, Nat.reduceLeDiff, Nat.reduceLT, Nat.zero_add, Nat.zero_le, Nat.reduceSub, List.nil_append, List.cons_append, List.append_nil, List.map_cons, List.map_nil, List.replicate, sq, Option.map_some]
    rfl
  show (match b_l_pen [.fr (.sq (cs.map PV.int)), .no, .no] with
    | .ok o ρ' => Res.ok o (argsBack (fun _ => false) 0 [.fr (.sq (cs.map PV.int))] ρ')
    | .err x ρ' => .err x (argsBack (fun _ => false) 0 [.fr (.sq (cs.map PV.int))] ρ')
    | .bad => .bad) = _
  rw [b]
/-! ### told values are the due ones -/
theorem isi_tup_int {i : Int} : pIsi [.int i, .ty "tuple"] = some (.bl false) := rfl
theorem isi_tup_str {x : Str} : pIsi [.str x, .ty "tuple"] = some (.bl false) := rfl
theorem isi_tup_tup {ps : List PV} : pIsi [.tup ps, .ty "tuple"] = some (.bl true) := rfl
theorem isi_str_int {i : Int} : pIsi [.int i, .ty "str"] = some (.bl false) := rfl
theorem isi_str_str {x : Str} : pIsi [.str x, .ty "str"] = some (.bl true) := rfl
theorem isi_int_int {i : Int} : pIsi [.int i, .ty "int"] = some (.bl true) := rfl
theorem isi_bool_int {i : Int} : pIsi [.int i, .ty "bool"] = some (.bl false) := rfl
theorem is2_int_non {i : Int} : pIs2 (.int i) .non = some (.bl false) := rfl
theorem is2_int_bl {i : Int} {b : Bool} : pIs2 (.int i) (.bl b) = some (.bl false) := rfl
theorem is2_str_non {i : Str} : pIs2 (.str i) .non = some (.bl false) := rfl
theorem is2_str_bl {i : Str} {b : Bool} : pIs2 (.str i) (.bl b) = some (.bl false) := rfl
theorem is2_tup_non {i : List PV} : pIs2 (.tup i) .non = some (.bl false) := rfl
theorem not_b {b : Bool} : pNotB (.bl b) = some (.bl (!b)) := rfl
theorem is_int (k : Nat) (i : Int) : Gives (m_l_is (k + 1)) [.int i, .int i] (.bl true) := by
  refine gives_of ?_
  simp only [b_l_is, decide_true, decide_false, e_enum0, e_enum1, e_enum2, e_forN, e_forC, e_lpN, e_lpC, e_lpB, e_lpR, e_lpE, e_body, e_gK, e_gSlot, e_gPair, e_asg, e_asgK, e_enum, e_lstP, e_opMap, e_callG, e_cgS, e_cgT, e_disp, e_toldM, e_toldO, e_toldE, e_toldK, e_extend, e_exS, e_exK, e_callO, e_ok, e_err, e_bad, e_okS, e_errS, e_badS, e_nx, e_rt, e_bk, e_ct, e_ex, e_bd, e_bind, e_pure, e_some, e_none, e_op1, e_op2, e_cons, e_test, e_callP, e_if, e_and, e_or, e_not, e_andV, e_orV, e_andT, e_andF, e_orT, e_orF, e_chain, e_chT, e_chF, e_part, e_sl, e_var, e_varF, e_varO, e_look, e_lookF, e_lookO, e_look1, e_argV, e_argS, e_slot, e_slotF, e_slotO, e_call, e_frz, e_lstO, e_listO, e_anyI, e_sThen, e_seq, e_next, e_brk, e_cnt, e_ret, e_drop, e_set, e_setO, e_ifS, e_raise, e_exn, e_for, boolP, partP, List.getElem?_cons_zero, List.getElem?_cons_succ, List.set_cons_zero, List.set_cons_succ, if_true, if_false, Bool.false_eq_true, Bool.not_true, Bool.not_false, e_vrt, e_vnx, e_xer, e_append, e_appS, e_appK, e_aug, e_augS, e_augK, e_pair, e_fr, e_ow, pSz, pLen, pAdd, frzO, sizeLine_eq, List.length_cons, List.length_nil, Nat.reduceAdd, Nat.reduceLeDiff, Nat.reduceLT, Nat.zero_add, Nat.zero_le, Nat.reduceSub, List.nil_append, List.cons_append, List.append_nil, List.map_cons, List.map_nil, List.replicate, isi_tup_int, is2_int_non, is2_int_bl, isi_str_int, isi_int_int, isi_bool_int, not_b, q_eqI, BEq.rfl]
theorem is_str (k : Nat) (x : Str) : Gives (m_l_is (k + 1)) [.str x, .str x] (.bl true) := by
  refine gives_of ?_
  simp only [b_l_is, decide_true, decide_false, e_enum0, e_enum1, e_enum2, e_forN, e_forC, e_lpN, e_lpC, e_lpB, e_lpR, e_lpE, e_body, e_gK, e_gSlot, e_gPair, e_asg, e_asgK, e_enum, e_lstP, e_opMap, e_callG, e_cgS, e_cgT, e_disp, e_toldM, e_toldO, e_toldE, e_toldK, e_extend, e_exS, e_exK, e_callO, e_ok, e_err, e_bad, e_okS, e_errS, e_badS, e_nx, e_rt, e_bk, e_ct, e_ex, e_bd, e_bind, e_pure, e_some, e_none, e_op1, e_op2, e_cons, e_test, e_callP, e_if, e_and, e_or, e_not, e_andV, e_orV, e_andT, e_andF, e_orT, e_orF, e_chain, e_chT, e_chF, e_part, e_sl, e_var, e_varF, e_varO, e_look, e_lookF, e_lookO, e_look1, e_argV, e_argS, e_slot, e_slotF, e_slotO, e_call, e_frz, e_lstO, e_listO, e_anyI, e_sThen, e_seq, e_next, e_brk, e_cnt, e_ret, e_drop, e_set, e_setO, e_ifS, e_raise, e_exn, e_for, boolP, partP, List.getElem?_cons_zero, List.getElem?_cons_succ, List.set_cons_zero, List.set_cons_succ, if_true, if_false, Bool.false_eq_true, Bool.not_true, Bool.not_false, e_vrt, e_vnx, e_xer, e_append, e_appS, e_appK, e_aug, e_augS, e_augK, e_pair, e_fr, e_ow, pSz, pLen, pAdd, frzO, sizeLine_eq, List.length_cons, List.length_nil, Nat.reduceAdd, Nat.reduceLeDiff, Nat.reduceLT, Nat.zero_add, Nat.zero_le, Nat.reduceSub, List.nil_append, List.cons_append, List.append_nil, List.map_cons, List.map_nil, List.replicate, isi_tup_str, is2_str_non, is2_str_bl, isi_str_str, q_eqS, BEq.rfl]
theorem e_range1 {m : M PV} {ρ : PEnv} : mRange1 m ρ = Res.bnd (m ρ) fun p => M.lift (pRange1 p) := e_bind
theorem rngP_nat (n : Nat) : rngP 0 (n : Int) = (List.range n).map fun (k : Nat) => PV.int (k : Int) := by
  unfold rngP
  rw [Int.sub_zero, Int.toNat_natCast]
  exact List.map_congr_left fun k _ => by rw [Int.zero_add]
theorem okI_nat {n : Nat} (h : n ≤ 16777216) : okI (n : Int) = true := by
  exact Nat.ble_eq_true_of_le (by omega)
theorem rng_len {n : Nat} (h : n ≤ 16777216) : pRange1 (.int n) = some ((List.range n).map fun (k : Nat) => PV.int (k : Int)) := by
  show (if okI (n : Int) then some (rngP 0 n) else none) = _
  rw [if_pos (okI_nat h), rngP_nat]
theorem eq_empty : pEq (.lst []) (.lst []) = some (.bl true) := pEq_same (by decide)
theorem is_comp (k : Nat) {ps : List PV} (hl : ps.length ≤ 16777216) (h : ∀ p ∈ ps, Gives (m_l_is k) [p, p] (.bl true)) : mComp [2] (mRange1 (mCallP pLen (mCons (mVar 1) (M.pure [])))) (gSlot 2) (mNot (mTest (mCall (m_l_is k) (mArgV (mOp2 pIx (mVar 0) (mVar 2)) (mArgV (mOp2 pIx (mVar 1) (mVar 2)) (M.pure [])))))) (mVar 2) [.fr (.tup ps), .fr (.tup ps), .no] = .ok (.lst []) [.fr (.tup ps), .fr (.tup ps), .no] := by
  have hr : mRange1 (mCallP pLen (mCons (mVar 1) (M.pure []))) [.fr (.tup ps), .fr (.tup ps), .no] = .ok ((List.range ps.length).map fun (k : Nat) => PV.int (k : Int)) [.fr (.tup ps), .fr (.tup ps), .no] := by
    simp only [e_range1, decide_true, decide_false, e_enum0, e_enum1, e_enum2, e_forN, e_forC, e_lpN, e_lpC, e_lpB, e_lpR, e_lpE, e_body, e_gK, e_gSlot, e_gPair, e_asg, e_asgK, e_enum, e_lstP, e_opMap, e_callG, e_cgS, e_cgT, e_disp, e_toldM, e_toldO, e_toldE, e_toldK, e_extend, e_exS, e_exK, e_callO, e_ok, e_err, e_bad, e_okS, e_errS, e_badS, e_nx, e_rt, e_bk, e_ct, e_ex, e_bd, e_bind, e_pure, e_some, e_none, e_op1, e_op2, e_cons, e_test, e_callP, e_if, e_and, e_or, e_not, e_andV, e_orV, e_andT, e_andF, e_orT, e_orF, e_chain, e_chT, e_chF, e_part, e_sl, e_var, e_varF, e_varO, e_look, e_lookF, e_lookO, e_look1, e_argV, e_argS, e_slot, e_slotF, e_slotO, e_call, e_frz, e_lstO, e_listO, e_anyI, e_sThen, e_seq, e_next, e_brk, e_cnt, e_ret, e_drop, e_set, e_setO, e_ifS, e_raise, e_exn, e_for, boolP, partP, List.getElem?_cons_zero, List.getElem?_cons_succ, List.set_cons_zero, List.set_cons_succ, if_true, if_false, Bool.false_eq_true, Bool.not_true, Bool.not_false, e_vrt, e_vnx, e_xer, e_append, e_appS, e_appK, e_aug, e_augS, e_augK, e_pair, e_fr, e_ow, pSz, pLen, pAdd, frzO, sizeLine_eq, List.length_cons, List.length_nil, Nat.reduceAdd, Nat.reduceLeDiff, Nat.reduceLT, Nat.zero_add, Nat.zero_le, Nat.reduceSub, List.nil_append, List.cons_append, List.append_nil, List.map_cons, List.map_nil, List.replicate, rng_len hl]
  have := comp_eval (vs := [2]) (g := gSlot 2) (c := mNot (mTest (mCall (m_l_is k) (mArgV (mOp2 pIx (mVar 0) (mVar 2)) (mArgV (mOp2 pIx (mVar 1) (mVar 2)) (M.pure [])))))) (e := mVar 2) (fun _ => false) id hr (by rw [List.length_map, List.length_range, sizeLine_eq]; exact hl) fun p hp => by
    obtain ⟨i, hi, rfl⟩ := List.mem_map.mp hp
    rw [List.mem_range] at hi
    have ix : pIx (.tup ps) (.int (i : Int)) = some ps[i] := atI_nat (List.getElem?_eq_getElem hi)
    refine ⟨[.fr (.tup ps), .fr (.tup ps), .fr (.int i)], [.fr (.tup ps), .fr (.tup ps), .fr (.int i)], rfl, ?_, fun _ => rfl, fun z => nomatch z⟩
    simp only [decide_true, decide_false, e_enum0, e_enum1, e_enum2, e_forN, e_forC, e_lpN, e_lpC, e_lpB, e_lpR, e_lpE, e_body, e_gK, e_gSlot, e_gPair, e_asg, e_asgK, e_enum, e_lstP, e_opMap, e_callG, e_cgS, e_cgT, e_disp, e_toldM, e_toldO, e_toldE, e_toldK, e_extend, e_exS, e_exK, e_callO, e_ok, e_err, e_bad, e_okS, e_errS, e_badS, e_nx, e_rt, e_bk, e_ct, e_ex, e_bd, e_bind, e_pure, e_some, e_none, e_op1, e_op2, e_cons, e_test, e_callP, e_if, e_and, e_or, e_not, e_andV, e_orV, e_andT, e_andF, e_orT, e_orF, e_chain, e_chT, e_chF, e_part, e_sl, e_var, e_varF, e_varO, e_look, e_lookF, e_lookO, e_look1, e_argV, e_argS, e_slot, e_slotF, e_slotO, e_call, e_frz, e_lstO, e_listO, e_anyI, e_sThen, e_seq, e_next, e_brk, e_cnt, e_ret, e_drop, e_set, e_setO, e_ifS, e_raise, e_exn, e_for, boolP, partP, List.getElem?_cons_zero, List.getElem?_cons_succ, List.set_cons_zero, List.set_cons_succ, if_true, if_false, Bool.false_eq_true, Bool.not_true, Bool.not_false, e_vrt, e_vnx, e_xer, e_append, e_appS, e_appK, e_aug, e_augS, e_augK, e_pair, e_fr, e_ow, pSz, pLen, pAdd, frzO, sizeLine_eq, List.length_cons, List.length_nil, Nat.reduceAdd, Nat.reduceLeDiff, Nat.reduceLT, Nat.zero_add, Nat.zero_le, Nat.reduceSub, List.nil_append, List.cons_append, List.append_nil, List.map_cons, List.map_nil, List.replicate, ix, c2 (h _ (List.getElem_mem hi))]
  rw [this, List.filter_eq_nil_iff.mpr (fun _ _ => Bool.false_ne_true)]
  rfl
theorem is_tup (k : Nat) {ps : List PV} (hl : ps.length ≤ 16777216) (h : ∀ p ∈ ps, Gives (m_l_is k) [p, p] (.bl true)) : Gives (m_l_is (k + 1)) [.tup ps, .tup ps] (.bl true) := by
  refine gives_of ?_
  simp only [b_l_is, isi_tup_tup, decide_true, decide_false, e_enum0, e_enum1, e_enum2, e_forN, e_forC, e_lpN, e_lpC, e_lpB, e_lpR, e_lpE, e_body, e_gK, e_gSlot, e_gPair, e_asg, e_asgK, e_enum, e_lstP, e_opMap, e_callG, e_cgS, e_cgT, e_disp, e_toldM, e_toldO, e_toldE, e_toldK, e_extend, e_exS, e_exK, e_callO, e_ok, e_err, e_bad, e_okS, e_errS, e_badS, e_nx, e_rt, e_bk, e_ct, e_ex, e_bd, e_bind, e_pure, e_some, e_none, e_op1, e_op2, e_cons, e_test, e_callP, e_if, e_and, e_or, e_not, e_andV, e_orV, e_andT, e_andF, e_orT, e_orF, e_chain, e_chT, e_chF, e_part, e_sl, e_var, e_varF, e_varO, e_look, e_lookF, e_lookO, e_look1, e_argV, e_argS, e_slot, e_slotF, e_slotO, e_call, e_frz, e_lstO, e_listO, e_anyI, e_sThen, e_seq, e_next, e_brk, e_cnt, e_ret, e_drop, e_set, e_setO, e_ifS, e_raise, e_exn, e_for, boolP, partP, List.getElem?_cons_zero, List.getElem?_cons_succ, List.set_cons_zero, List.set_cons_succ, if_true, if_false, Bool.false_eq_true, Bool.not_true, Bool.not_false, e_vrt, e_vnx, e_xer, e_append, e_appS, e_appK, e_aug, e_augS, e_augK, e_pair, e_fr, e_ow, pSz, pLen, pAdd, frzO, sizeLine_eq, List.length_cons, List.length_nil, Nat.reduceAdd, Nat.reduceLeDiff, Nat.reduceLT, Nat.zero_add, Nat.zero_le, Nat.reduceSub, List.nil_append, List.cons_append, List.append_nil, List.map_cons, List.map_nil, List.replicate, q_neI, BEq.rfl, is_comp k hl h, eq_empty]
end K75

set_option linter.all false
set_option maxRecDepth 100000
set_option maxHeartbeats 2000000
namespace K75
open PySem PySem.Spec PyProof.Rows L2 LamX VS
/-! ### what the law takes for right -/
theorem ev_bare : Gives m_l_bare [] (.lst [.str "barred", .str "rooms", .str "period", .str "ring", .str "zeta", .str "least", .str "parts", .str "sign"]) := by
  refine gives_of ?_
  simp only [b_l_bare, decide_true, decide_false, e_enum0, e_enum1, e_enum2, e_forN, e_forC, e_lpN, e_lpC, e_lpB, e_lpR, e_lpE, e_body, e_gK, e_gSlot, e_gPair, e_asg, e_asgK, e_enum, e_lstP, e_opMap, e_callG, e_cgS, e_cgT, e_disp, e_toldM, e_toldO, e_toldE, e_toldK, e_extend, e_exS, e_exK, e_callO, e_ok, e_err, e_bad, e_okS, e_errS, e_badS, e_nx, e_rt, e_bk, e_ct, e_ex, e_bd, e_bind, e_pure, e_some, e_none, e_op1, e_op2, e_cons, e_test, e_callP, e_if, e_and, e_or, e_not, e_andV, e_orV, e_andT, e_andF, e_orT, e_orF, e_chain, e_chT, e_chF, e_part, e_sl, e_var, e_varF, e_varO, e_look, e_lookF, e_lookO, e_look1, e_argV, e_argS, e_slot, e_slotF, e_slotO, e_call, e_frz, e_lstO, e_listO, e_anyI, e_sThen, e_seq, e_next, e_brk, e_cnt, e_ret, e_drop, e_set, e_setO, e_ifS, e_raise, e_exn, e_for, boolP, partP, List.getElem?_cons_zero, List.getElem?_cons_succ, List.set_cons_zero, List.set_cons_succ, if_true, if_false, Bool.false_eq_true, Bool.not_true, Bool.not_false, e_vrt, e_vnx, e_xer, e_append, e_appS, e_appK, e_aug, e_augS, e_augK, e_pair, e_fr, e_ow, pSz, pLen, pAdd, frzO, sizeLine_eq, List.length_cons, List.length_nil, Nat.reduceAdd, Nat.reduceLeDiff, Nat.reduceLT, Nat.zero_add, Nat.zero_le, Nat.reduceSub, List.nil_append, List.cons_append, List.append_nil, List.map_cons, List.map_nil, List.replicate]
theorem notIn_sign {c : Nat} : pNotIn (.str ⟨#[c]⟩) (.str "0123456789") = some (.bl (!decide (c ∈ figL))) := by
  have h : pIn (.str ⟨#[c]⟩) (.str "0123456789") = some (.bl (decide (c ∈ figL))) := in_sign
  show some (PV.bl (!!(Builtin.Str.occurrences ("0123456789" : Str) ⟨#[c]⟩ 0 ("0123456789" : Str).length 1).isEmpty)) = _
  have h : some (PV.bl (!(Builtin.Str.occurrences ("0123456789" : Str) ⟨#[c]⟩ 0 ("0123456789" : Str).length 1).isEmpty)) = some (.bl (decide (c ∈ figL))) := h
  rw [PV.bl.inj (Option.some.inj h)]
def boolOf : Option PV → Bool
  | some (.bl b) => b
  | _ => false
def noFig (p : PV) : Bool := boolOf (pNotIn p (.str "0123456789"))
theorem noFig_chr {c : Nat} : noFig (.str ⟨#[c]⟩) = !decide (c ∈ figL) := by unfold noFig; rw [notIn_sign]; rfl
abbrev cpF : M OV := mComp [1] (mAnyI (mVar 0)) (gSlot 1) (mTest (mOp2 pNotIn (mVar 1) (M.pure (.str "0123456789")))) (mVar 1)
theorem cpF_eq {l : List Nat} (h16 : l.length ≤ 16777216) : cpF [.fr (S l), .no] = .ok (.lst (((l.filter fun c => !decide (c ∈ figL)).map fun c => (⟨#[c]⟩ : Str)).map PV.str)) [.fr (S l), .no] := by
  have hr : mAnyI (mVar 0) [.fr (S l), .no] = .ok (chrP (strL l)) [.fr (S l), .no] := by simp only [decide_true, decide_false, e_enum0, e_enum1, e_enum2, e_forN, e_forC, e_lpN, e_lpC, e_lpB, e_lpR, e_lpE, e_body, e_gK, e_gSlot, e_gPair, e_asg, e_asgK, e_enum, e_lstP, e_opMap, e_callG, e_cgS, e_cgT, e_disp, e_toldM, e_toldO, e_toldE, e_toldK, e_extend, e_exS, e_exK, e_callO, e_ok, e_err, e_bad, e_okS, e_errS, e_badS, e_nx, e_rt, e_bk, e_ct, e_ex, e_bd, e_bind, e_pure, e_some, e_none, e_op1, e_op2, e_cons, e_test, e_callP, e_if, e_and, e_or, e_not, e_andV, e_orV, e_andT, e_andF, e_orT, e_orF, e_chain, e_chT, e_chF, e_part, e_sl, e_var, e_varF, e_varO, e_look, e_lookF, e_lookO, e_look1, e_argV, e_argS, e_slot, e_slotF, e_slotO, e_call, e_frz, e_lstO, e_listO, e_anyI, e_sThen, e_seq, e_next, e_brk, e_cnt, e_ret, e_drop, e_set, e_setO, e_ifS, e_raise, e_exn, e_for, boolP, partP, List.getElem?_cons_zero, List.getElem?_cons_succ, List.set_cons_zero, List.set_cons_succ, if_true, if_false, Bool.false_eq_true, Bool.not_true, Bool.not_false, e_vrt, e_vnx, e_xer, e_append, e_appS, e_appK, e_aug, e_augS, e_augK, e_pair, e_fr, e_ow, pSz, pLen, pAdd, frzO, sizeLine_eq, List.length_cons, List.length_nil, Nat.reduceAdd, Nat.reduceLeDiff, Nat.reduceLT, Nat.zero_add, Nat.zero_le, Nat.reduceSub, List.nil_append, List.cons_append, List.append_nil, List.map_cons, List.map_nil, List.replicate, anyP]
  have hlen : (chrP (strL l)).length ≤ sizeLine := by rw [chrP_len, strL_len, sizeLine_eq]; exact h16
  have := comp_eval (vs := [1]) (g := gSlot 1) (c := mTest (mOp2 pNotIn (mVar 1) (M.pure (.str "0123456789")))) (e := mVar 1) noFig id hr hlen fun p hp => by
    obtain ⟨c, rfl, _⟩ := chr_of hp
    refine ⟨[.fr (S l), .fr (.str ⟨#[c]⟩)], [.fr (S l), .fr (.str ⟨#[c]⟩)], rfl, ?_, fun _ => rfl, fun _ => ⟨[.fr (S l), .fr (.str ⟨#[c]⟩)], rfl, rfl⟩⟩
    simp only [decide_true, decide_false, e_enum0, e_enum1, e_enum2, e_forN, e_forC, e_lpN, e_lpC, e_lpB, e_lpR, e_lpE, e_body, e_gK, e_gSlot, e_gPair, e_asg, e_asgK, e_enum, e_lstP, e_opMap, e_callG, e_cgS, e_cgT, e_disp, e_toldM, e_toldO, e_toldE, e_toldK, e_extend, e_exS, e_exK, e_callO, e_ok, e_err, e_bad, e_okS, e_errS, e_badS, e_nx, e_rt, e_bk, e_ct, e_ex, e_bd, e_bind, e_pure, e_some, e_none, e_op1, e_op2, e_cons, e_test, e_callP, e_if, e_and, e_or, e_not, e_andV, e_orV, e_andT, e_andF, e_orT, e_orF, e_chain, e_chT, e_chF, e_part, e_sl, e_var, e_varF, e_varO, e_look, e_lookF, e_lookO, e_look1, e_argV, e_argS, e_slot, e_slotF, e_slotO, e_call, e_frz, e_lstO, e_listO, e_anyI, e_sThen, e_seq, e_next, e_brk, e_cnt, e_ret, e_drop, e_set, e_setO, e_ifS, e_raise, e_exn, e_for, boolP, partP, List.getElem?_cons_zero, List.getElem?_cons_succ, List.set_cons_zero, List.set_cons_succ, if_true, if_false, Bool.false_eq_true, Bool.not_true, Bool.not_false, e_vrt, e_vnx, e_xer, e_append, e_appS, e_appK, e_aug, e_augS, e_augK, e_pair, e_fr, e_ow, pSz, pLen, pAdd, frzO, sizeLine_eq, List.length_cons, List.length_nil, Nat.reduceAdd, Nat.reduceLeDiff, Nat.reduceLT, Nat.zero_add, Nat.zero_le, Nat.reduceSub, List.nil_append, List.cons_append, List.append_nil, List.map_cons, List.map_nil, List.replicate, notIn_sign, noFig_chr]
  refine this.trans ?_
  rw [List.map_id]
  congr 2
  unfold chrP
  rw [strL_list, List.filter_map, List.map_map]
  have e : (noFig ∘ fun c : Nat => PV.str ⟨#[c]⟩) = fun c => !decide (c ∈ figL) := funext fun c => noFig_chr
  rw [e]
  rfl
theorem one_ok {l : List Nat} (h : okL l = true) : ∀ s ∈ (l.filter fun c => !decide (c ∈ figL)).map fun c => (⟨#[c]⟩ : Str), PyData.strOk s = true := fun s hs => by
  obtain ⟨c, hc, rfl⟩ := List.mem_map.mp hs
  have := List.all_eq_true.mp h c (List.mem_filter.mp hc).1
  exact okL_str (l := [c]) (by unfold okL; rw [List.all_cons, this]; rfl)
theorem fig_all (l : List Nat) : ((l.filter fun c => !decide (c ∈ figL)).map fun c => (⟨#[c]⟩ : Str)).isEmpty = l.all fun c => decide (c ∈ figL) := by
  induction l with
  | nil => rfl
  | cons c l ih =>
    rw [List.filter_cons, List.all_cons]
    cases decide (c ∈ figL) with
    | true => simpa using ih
    | false => rfl
theorem all_fig {l : List Nat} (h16 : l.length ≤ 16777216) (h : okL l = true) : pEq (.lst (((l.filter fun c => !decide (c ∈ figL)).map fun c => (⟨#[c]⟩ : Str)).map PV.str)) (.lst []) = some (.bl (l.all fun c => decide (c ∈ figL))) := by
  rw [eq_nil (one_ok h), fig_all]
theorem le_n {i j : Nat} : pLe (.int i) (.int j) = some (.bl (decide (i ≤ j))) := by
  show some (PV.bl (decide ((i : Int) ≤ (j : Int)))) = _
  rw [show decide ((i : Int) ≤ (j : Int)) = decide (i ≤ j) from decide_eq_decide.mpr (by omega)]
theorem le_1 {j : Nat} : pLe (.int 1) (.int (j : Int)) = some (.bl (decide (1 ≤ j))) := le_n (i := 1)
theorem le_2 {i : Nat} : pLe (.int (i : Int)) (.int 2) = some (.bl (decide (i ≤ 2))) := le_n (j := 2)
theorem le_60 {i : Nat} : pLe (.int (i : Int)) (.int 60) = some (.bl (decide (i ≤ 60))) := le_n (j := 60)
theorem ev_lnum {l : List Nat} (h16 : l.length ≤ 16777216) (ok : okL l = true) : Gives m_l_is_numeral [S l] (.bl (isNum l 2)) := by
  refine gives_of ?_
  by_cases h1 : 1 ≤ l.length
  · by_cases h2 : l.length ≤ 2
    · have h0 : l ≠ [] := fun z => by rw [z] at h1; simp at h1
      cases hf : l.all fun c => decide (c ∈ figL) with
      | false =>
        simp only [b_l_is_numeral, decide_true, decide_false, e_enum0, e_enum1, e_enum2, e_forN, e_forC, e_lpN, e_lpC, e_lpB, e_lpR, e_lpE, e_body, e_gK, e_gSlot, e_gPair, e_asg, e_asgK, e_enum, e_lstP, e_opMap, e_callG, e_cgS, e_cgT, e_disp, e_toldM, e_toldO, e_toldE, e_toldK, e_extend, e_exS, e_exK, e_callO, e_ok, e_err, e_bad, e_okS, e_errS, e_badS, e_nx, e_rt, e_bk, e_ct, e_ex, e_bd, e_bind, e_pure, e_some, e_none, e_op1, e_op2, e_cons, e_test, e_callP, e_if, e_and, e_or, e_not, e_andV, e_orV, e_andT, e_andF, e_orT, e_orF, e_chain, e_chT, e_chF, e_part, e_sl, e_var, e_varF, e_varO, e_look, e_lookF, e_lookO, e_look1, e_argV, e_argS, e_slot, e_slotF, e_slotO, e_call, e_frz, e_lstO, e_listO, e_anyI, e_sThen, e_seq, e_next, e_brk, e_cnt, e_ret, e_drop, e_set, e_setO, e_ifS, e_raise, e_exn, e_for, boolP, partP, List.getElem?_cons_zero, List.getElem?_cons_succ, List.set_cons_zero, List.set_cons_succ, if_true, if_false, Bool.false_eq_true, Bool.not_true, Bool.not_false, e_vrt, e_vnx, e_xer, e_append, e_appS, e_appK, e_aug, e_augS, e_augK, e_pair, e_fr, e_ow, pSz, pLen, pAdd, frzO, sizeLine_eq, List.length_cons, List.length_nil, Nat.reduceAdd, Nat.reduceLeDiff, Nat.reduceLT, Nat.zero_add, Nat.zero_le, Nat.reduceSub, List.nil_append, List.cons_append, List.append_nil, List.map_cons, List.map_nil, List.replicate, strL_len, if_pos h16, le_1, le_2, decide_eq_true h1, decide_eq_true h2, cpF_eq h16, all_fig h16 ok, hf]
        unfold isNum
        rw [hf, Bool.and_false, Bool.false_and]
      | true =>
        obtain ⟨c, hc⟩ : ∃ c, l[0]? = some c := by
          cases l with
          | nil => exact (h0 rfl).elim
          | cons c r => exact ⟨c, rfl⟩
        have ix : pIx (.str (strL l)) (.int 0) = some (.str ⟨#[c]⟩) := ix_str' (j := 0) (by rw [sizeLine_eq, strL_len]; exact h16) hc
        have e2 : ((⟨#[c]⟩ : Str) == ("0" : Str)) = decide (c = 48) := sign_eq0
        by_cases h3 : l = [48]
        · simp only [b_l_is_numeral, decide_true, decide_false, e_enum0, e_enum1, e_enum2, e_forN, e_forC, e_lpN, e_lpC, e_lpB, e_lpR, e_lpE, e_body, e_gK, e_gSlot, e_gPair, e_asg, e_asgK, e_enum, e_lstP, e_opMap, e_callG, e_cgS, e_cgT, e_disp, e_toldM, e_toldO, e_toldE, e_toldK, e_extend, e_exS, e_exK, e_callO, e_ok, e_err, e_bad, e_okS, e_errS, e_badS, e_nx, e_rt, e_bk, e_ct, e_ex, e_bd, e_bind, e_pure, e_some, e_none, e_op1, e_op2, e_cons, e_test, e_callP, e_if, e_and, e_or, e_not, e_andV, e_orV, e_andT, e_andF, e_orT, e_orF, e_chain, e_chT, e_chF, e_part, e_sl, e_var, e_varF, e_varO, e_look, e_lookF, e_lookO, e_look1, e_argV, e_argS, e_slot, e_slotF, e_slotO, e_call, e_frz, e_lstO, e_listO, e_anyI, e_sThen, e_seq, e_next, e_brk, e_cnt, e_ret, e_drop, e_set, e_setO, e_ifS, e_raise, e_exn, e_for, boolP, partP, List.getElem?_cons_zero, List.getElem?_cons_succ, List.set_cons_zero, List.set_cons_succ, if_true, if_false, Bool.false_eq_true, Bool.not_true, Bool.not_false, e_vrt, e_vnx, e_xer, e_append, e_appS, e_appK, e_aug, e_augS, e_augK, e_pair, e_fr, e_ow, pSz, pLen, pAdd, frzO, sizeLine_eq, List.length_cons, List.length_nil, Nat.reduceAdd, Nat.reduceLeDiff, Nat.reduceLT, Nat.zero_add, Nat.zero_le, Nat.reduceSub, List.nil_append, List.cons_append, List.append_nil, List.map_cons, List.map_nil, List.replicate, strL_len, if_pos h16, le_1, le_2, decide_eq_true h1, decide_eq_true h2, cpF_eq h16, all_fig h16 ok, hf, q_eqS, str_eq1, decide_eq_true h3]
          subst h3
          rfl
        · simp only [b_l_is_numeral, decide_true, decide_false, e_enum0, e_enum1, e_enum2, e_forN, e_forC, e_lpN, e_lpC, e_lpB, e_lpR, e_lpE, e_body, e_gK, e_gSlot, e_gPair, e_asg, e_asgK, e_enum, e_lstP, e_opMap, e_callG, e_cgS, e_cgT, e_disp, e_toldM, e_toldO, e_toldE, e_toldK, e_extend, e_exS, e_exK, e_callO, e_ok, e_err, e_bad, e_okS, e_errS, e_badS, e_nx, e_rt, e_bk, e_ct, e_ex, e_bd, e_bind, e_pure, e_some, e_none, e_op1, e_op2, e_cons, e_test, e_callP, e_if, e_and, e_or, e_not, e_andV, e_orV, e_andT, e_andF, e_orT, e_orF, e_chain, e_chT, e_chF, e_part, e_sl, e_var, e_varF, e_varO, e_look, e_lookF, e_lookO, e_look1, e_argV, e_argS, e_slot, e_slotF, e_slotO, e_call, e_frz, e_lstO, e_listO, e_anyI, e_sThen, e_seq, e_next, e_brk, e_cnt, e_ret, e_drop, e_set, e_setO, e_ifS, e_raise, e_exn, e_for, boolP, partP, List.getElem?_cons_zero, List.getElem?_cons_succ, List.set_cons_zero, List.set_cons_succ, if_true, if_false, Bool.false_eq_true, Bool.not_true, Bool.not_false, e_vrt, e_vnx, e_xer, e_append, e_appS, e_appK, e_aug, e_augS, e_augK, e_pair, e_fr, e_ow, pSz, pLen, pAdd, frzO, sizeLine_eq, List.length_cons, List.length_nil, Nat.reduceAdd, Nat.reduceLeDiff, Nat.reduceLT, Nat.zero_add, Nat.zero_le, Nat.reduceSub, List.nil_append, List.cons_append, List.append_nil, List.map_cons, List.map_nil, List.replicate, strL_len, if_pos h16, le_1, le_2, decide_eq_true h1, decide_eq_true h2, cpF_eq h16, all_fig h16 ok, hf, q_eqS, q_neS, str_eq1, decide_eq_false h3, ix, e2]
          unfold isNum
          rw [hf, decide_eq_true h0, decide_eq_true h2, decide_eq_false h3, hc]
          by_cases hz : c = 48
          · subst hz; rfl
          · simp [hz]
    · simp only [b_l_is_numeral, decide_true, decide_false, e_enum0, e_enum1, e_enum2, e_forN, e_forC, e_lpN, e_lpC, e_lpB, e_lpR, e_lpE, e_body, e_gK, e_gSlot, e_gPair, e_asg, e_asgK, e_enum, e_lstP, e_opMap, e_callG, e_cgS, e_cgT, e_disp, e_toldM, e_toldO, e_toldE, e_toldK, e_extend, e_exS, e_exK, e_callO, e_ok, e_err, e_bad, e_okS, e_errS, e_badS, e_nx, e_rt, e_bk, e_ct, e_ex, e_bd, e_bind, e_pure, e_some, e_none, e_op1, e_op2, e_cons, e_test, e_callP, e_if, e_and, e_or, e_not, e_andV, e_orV, e_andT, e_andF, e_orT, e_orF, e_chain, e_chT, e_chF, e_part, e_sl, e_var, e_varF, e_varO, e_look, e_lookF, e_lookO, e_look1, e_argV, e_argS, e_slot, e_slotF, e_slotO, e_call, e_frz, e_lstO, e_listO, e_anyI, e_sThen, e_seq, e_next, e_brk, e_cnt, e_ret, e_drop, e_set, e_setO, e_ifS, e_raise, e_exn, e_for, boolP, partP, List.getElem?_cons_zero, List.getElem?_cons_succ, List.set_cons_zero, List.set_cons_succ, if_true, if_false, Bool.false_eq_true, Bool.not_true, Bool.not_false, e_vrt, e_vnx, e_xer, e_append, e_appS, e_appK, e_aug, e_augS, e_augK, e_pair, e_fr, e_ow, pSz, pLen, pAdd, frzO, sizeLine_eq, List.length_cons, List.length_nil, Nat.reduceAdd, Nat.reduceLeDiff, Nat.reduceLT, Nat.zero_add, Nat.zero_le, Nat.reduceSub, List.nil_append, List.cons_append, List.append_nil, List.map_cons, List.map_nil, List.replicate, strL_len, if_pos h16, le_1, le_2, decide_eq_true h1, decide_eq_false h2]
      unfold isNum
      rw [decide_eq_false h2, Bool.and_false, Bool.false_and, Bool.false_and]
  · simp only [b_l_is_numeral, decide_true, decide_false, e_enum0, e_enum1, e_enum2, e_forN, e_forC, e_lpN, e_lpC, e_lpB, e_lpR, e_lpE, e_body, e_gK, e_gSlot, e_gPair, e_asg, e_asgK, e_enum, e_lstP, e_opMap, e_callG, e_cgS, e_cgT, e_disp, e_toldM, e_toldO, e_toldE, e_toldK, e_extend, e_exS, e_exK, e_callO, e_ok, e_err, e_bad, e_okS, e_errS, e_badS, e_nx, e_rt, e_bk, e_ct, e_ex, e_bd, e_bind, e_pure, e_some, e_none, e_op1, e_op2, e_cons, e_test, e_callP, e_if, e_and, e_or, e_not, e_andV, e_orV, e_andT, e_andF, e_orT, e_orF, e_chain, e_chT, e_chF, e_part, e_sl, e_var, e_varF, e_varO, e_look, e_lookF, e_lookO, e_look1, e_argV, e_argS, e_slot, e_slotF, e_slotO, e_call, e_frz, e_lstO, e_listO, e_anyI, e_sThen, e_seq, e_next, e_brk, e_cnt, e_ret, e_drop, e_set, e_setO, e_ifS, e_raise, e_exn, e_for, boolP, partP, List.getElem?_cons_zero, List.getElem?_cons_succ, List.set_cons_zero, List.set_cons_succ, if_true, if_false, Bool.false_eq_true, Bool.not_true, Bool.not_false, e_vrt, e_vnx, e_xer, e_append, e_appS, e_appK, e_aug, e_augS, e_augK, e_pair, e_fr, e_ow, pSz, pLen, pAdd, frzO, sizeLine_eq, List.length_cons, List.length_nil, Nat.reduceAdd, Nat.reduceLeDiff, Nat.reduceLT, Nat.zero_add, Nat.zero_le, Nat.reduceSub, List.nil_append, List.cons_append, List.append_nil, List.map_cons, List.map_nil, List.replicate, strL_len, if_pos h16, le_1, decide_eq_false h1]
    have : l = [] := List.length_eq_zero_iff.mp (by omega)
    subst this
    rfl
theorem ev_lword {l : List Nat} (h16 : l.length ≤ 16777216) (ok : okL l = true) : Gives m_l_is_word [S l] (.bl (tokE l || isLet l)) := by
  refine gives_of ?_
  cases he : tokE l with
  | true => simp only [b_l_is_word, decide_true, decide_false, e_enum0, e_enum1, e_enum2, e_forN, e_forC, e_lpN, e_lpC, e_lpB, e_lpR, e_lpE, e_body, e_gK, e_gSlot, e_gPair, e_asg, e_asgK, e_enum, e_lstP, e_opMap, e_callG, e_cgS, e_cgT, e_disp, e_toldM, e_toldO, e_toldE, e_toldK, e_extend, e_exS, e_exK, e_callO, e_ok, e_err, e_bad, e_okS, e_errS, e_badS, e_nx, e_rt, e_bk, e_ct, e_ex, e_bd, e_bind, e_pure, e_some, e_none, e_op1, e_op2, e_cons, e_test, e_callP, e_if, e_and, e_or, e_not, e_andV, e_orV, e_andT, e_andF, e_orT, e_orF, e_chain, e_chT, e_chF, e_part, e_sl, e_var, e_varF, e_varO, e_look, e_lookF, e_lookO, e_look1, e_argV, e_argS, e_slot, e_slotF, e_slotO, e_call, e_frz, e_lstO, e_listO, e_anyI, e_sThen, e_seq, e_next, e_brk, e_cnt, e_ret, e_drop, e_set, e_setO, e_ifS, e_raise, e_exn, e_for, boolP, partP, List.getElem?_cons_zero, List.getElem?_cons_succ, List.set_cons_zero, List.set_cons_succ, if_true, if_false, Bool.false_eq_true, Bool.not_true, Bool.not_false, e_vrt, e_vnx, e_xer, e_append, e_appS, e_appK, e_aug, e_augS, e_augK, e_pair, e_fr, e_ow, pSz, pLen, pAdd, frzO, sizeLine_eq, List.length_cons, List.length_nil, Nat.reduceAdd, Nat.reduceLeDiff, Nat.reduceLT, Nat.zero_add, Nat.zero_le, Nat.reduceSub, List.nil_append, List.cons_append, List.append_nil, List.map_cons, List.map_nil, List.replicate, q_eqS, str_eqe, he]; rfl
  | false =>
    by_cases h1 : 1 ≤ l.length
    · have h0 : l ≠ [] := fun z => by rw [z] at h1; simp at h1
      by_cases h2 : l.length ≤ 60
      · simp only [b_l_is_word, decide_true, decide_false, e_enum0, e_enum1, e_enum2, e_forN, e_forC, e_lpN, e_lpC, e_lpB, e_lpR, e_lpE, e_body, e_gK, e_gSlot, e_gPair, e_asg, e_asgK, e_enum, e_lstP, e_opMap, e_callG, e_cgS, e_cgT, e_disp, e_toldM, e_toldO, e_toldE, e_toldK, e_extend, e_exS, e_exK, e_callO, e_ok, e_err, e_bad, e_okS, e_errS, e_badS, e_nx, e_rt, e_bk, e_ct, e_ex, e_bd, e_bind, e_pure, e_some, e_none, e_op1, e_op2, e_cons, e_test, e_callP, e_if, e_and, e_or, e_not, e_andV, e_orV, e_andT, e_andF, e_orT, e_orF, e_chain, e_chT, e_chF, e_part, e_sl, e_var, e_varF, e_varO, e_look, e_lookF, e_lookO, e_look1, e_argV, e_argS, e_slot, e_slotF, e_slotO, e_call, e_frz, e_lstO, e_listO, e_anyI, e_sThen, e_seq, e_next, e_brk, e_cnt, e_ret, e_drop, e_set, e_setO, e_ifS, e_raise, e_exn, e_for, boolP, partP, List.getElem?_cons_zero, List.getElem?_cons_succ, List.set_cons_zero, List.set_cons_succ, if_true, if_false, Bool.false_eq_true, Bool.not_true, Bool.not_false, e_vrt, e_vnx, e_xer, e_append, e_appS, e_appK, e_aug, e_augS, e_augK, e_pair, e_fr, e_ow, pSz, pLen, pAdd, frzO, sizeLine_eq, List.length_cons, List.length_nil, Nat.reduceAdd, Nat.reduceLeDiff, Nat.reduceLT, Nat.zero_add, Nat.zero_le, Nat.reduceSub, List.nil_append, List.cons_append, List.append_nil, List.map_cons, List.map_nil, List.replicate, q_eqS, str_eqe, he, strL_len, if_pos h16, le_1, le_60, decide_eq_true h1, decide_eq_true h2, cpF_eq h16, all_fig h16 ok, Bool.false_or]
        unfold isLet
        rw [decide_eq_true h0, decide_eq_true h2]; rfl
      · simp only [b_l_is_word, decide_true, decide_false, e_enum0, e_enum1, e_enum2, e_forN, e_forC, e_lpN, e_lpC, e_lpB, e_lpR, e_lpE, e_body, e_gK, e_gSlot, e_gPair, e_asg, e_asgK, e_enum, e_lstP, e_opMap, e_callG, e_cgS, e_cgT, e_disp, e_toldM, e_toldO, e_toldE, e_toldK, e_extend, e_exS, e_exK, e_callO, e_ok, e_err, e_bad, e_okS, e_errS, e_badS, e_nx, e_rt, e_bk, e_ct, e_ex, e_bd, e_bind, e_pure, e_some, e_none, e_op1, e_op2, e_cons, e_test, e_callP, e_if, e_and, e_or, e_not, e_andV, e_orV, e_andT, e_andF, e_orT, e_orF, e_chain, e_chT, e_chF, e_part, e_sl, e_var, e_varF, e_varO, e_look, e_lookF, e_lookO, e_look1, e_argV, e_argS, e_slot, e_slotF, e_slotO, e_call, e_frz, e_lstO, e_listO, e_anyI, e_sThen, e_seq, e_next, e_brk, e_cnt, e_ret, e_drop, e_set, e_setO, e_ifS, e_raise, e_exn, e_for, boolP, partP, List.getElem?_cons_zero, List.getElem?_cons_succ, List.set_cons_zero, List.set_cons_succ, if_true, if_false, Bool.false_eq_true, Bool.not_true, Bool.not_false, e_vrt, e_vnx, e_xer, e_append, e_appS, e_appK, e_aug, e_augS, e_augK, e_pair, e_fr, e_ow, pSz, pLen, pAdd, frzO, sizeLine_eq, List.length_cons, List.length_nil, Nat.reduceAdd, Nat.reduceLeDiff, Nat.reduceLT, Nat.zero_add, Nat.zero_le, Nat.reduceSub, List.nil_append, List.cons_append, List.append_nil, List.map_cons, List.map_nil, List.replicate, q_eqS, str_eqe, he, strL_len, if_pos h16, le_1, le_60, decide_eq_true h1, decide_eq_false h2, Bool.false_or]
        unfold isLet
        rw [decide_eq_false h2, Bool.and_false, Bool.false_and]
    · simp only [b_l_is_word, decide_true, decide_false, e_enum0, e_enum1, e_enum2, e_forN, e_forC, e_lpN, e_lpC, e_lpB, e_lpR, e_lpE, e_body, e_gK, e_gSlot, e_gPair, e_asg, e_asgK, e_enum, e_lstP, e_opMap, e_callG, e_cgS, e_cgT, e_disp, e_toldM, e_toldO, e_toldE, e_toldK, e_extend, e_exS, e_exK, e_callO, e_ok, e_err, e_bad, e_okS, e_errS, e_badS, e_nx, e_rt, e_bk, e_ct, e_ex, e_bd, e_bind, e_pure, e_some, e_none, e_op1, e_op2, e_cons, e_test, e_callP, e_if, e_and, e_or, e_not, e_andV, e_orV, e_andT, e_andF, e_orT, e_orF, e_chain, e_chT, e_chF, e_part, e_sl, e_var, e_varF, e_varO, e_look, e_lookF, e_lookO, e_look1, e_argV, e_argS, e_slot, e_slotF, e_slotO, e_call, e_frz, e_lstO, e_listO, e_anyI, e_sThen, e_seq, e_next, e_brk, e_cnt, e_ret, e_drop, e_set, e_setO, e_ifS, e_raise, e_exn, e_for, boolP, partP, List.getElem?_cons_zero, List.getElem?_cons_succ, List.set_cons_zero, List.set_cons_succ, if_true, if_false, Bool.false_eq_true, Bool.not_true, Bool.not_false, e_vrt, e_vnx, e_xer, e_append, e_appS, e_appK, e_aug, e_augS, e_augK, e_pair, e_fr, e_ow, pSz, pLen, pAdd, frzO, sizeLine_eq, List.length_cons, List.length_nil, Nat.reduceAdd, Nat.reduceLeDiff, Nat.reduceLT, Nat.zero_add, Nat.zero_le, Nat.reduceSub, List.nil_append, List.cons_append, List.append_nil, List.map_cons, List.map_nil, List.replicate, q_eqS, str_eqe, he, strL_len, if_pos h16, le_1, decide_eq_false h1, Bool.false_or]
      have : l = [] := List.length_eq_zero_iff.mp (by omega)
      subst this
      rfl
end K75

set_option linter.all false
set_option maxRecDepth 100000
set_option maxHeartbeats 2000000
namespace K75
open PySem PySem.Spec PyProof.Rows L2 LamX VS
/-! ### the law's own verdict -/
abbrev ndK : List Key := [.inr "allowed", .inr "count", .inr "closed", .inr "rate", .inr "below"]
abbrev ndV : List PV := [.lst [.glob "_law_is_word"], .lst [.glob "_law_is_numeral"], .lst [.glob "_law_is_numeral"], .lst [.glob "_law_is_numeral"], .lst [.glob "_law_is_numeral", .glob "_law_is_numeral"]]
theorem dk1 : dLook ndK ndV (.inr "allowed") = some (.lst [.glob "_law_is_word"]) := by with_unfolding_all rfl
theorem dk2 : dLook ndK ndV (.inr "count") = some (.lst [.glob "_law_is_numeral"]) := by with_unfolding_all rfl
theorem dk3 : dLook ndK ndV (.inr "closed") = some (.lst [.glob "_law_is_numeral"]) := by with_unfolding_all rfl
theorem dk4 : dLook ndK ndV (.inr "rate") = some (.lst [.glob "_law_is_numeral"]) := by with_unfolding_all rfl
theorem dk5 : dLook ndK ndV (.inr "below") = some (.lst [.glob "_law_is_numeral", .glob "_law_is_numeral"]) := by with_unfolding_all rfl
theorem dk0 {x : Str} (hA : fA x = false) (hN : fN x = false) : dLook ndK ndV (.inr x) = none := by
  refine dLook_none fun j hj e => ?_
  subst e
  have hA : (x == ("allowed" : Str)) = false := hA
  rcases List.mem_cons.mp hj with e | hj
  · cases Sum.inr.inj e; exact absurd hA (by decide +kernel)
  have hN : fN x = false := hN
  rcases List.mem_cons.mp hj with e | hj
  · cases Sum.inr.inj e; exact absurd hN (by decide +kernel)
  rcases List.mem_cons.mp hj with e | hj
  · cases Sum.inr.inj e; exact absurd hN (by decide +kernel)
  rcases List.mem_cons.mp hj with e | hj
  · cases Sum.inr.inj e; exact absurd hN (by decide +kernel)
  · cases Sum.inr.inj (List.mem_singleton.mp hj); exact absurd hN (by decide +kernel)
theorem tw1 : tbl_l_wrong_need "_law_is_word" = some m_l_is_word := by with_unfolding_all rfl
theorem tw2 : tbl_l_wrong_need "_law_is_numeral" = some m_l_is_numeral := by with_unfolding_all rfl
theorem ne_cons {h : List Nat} {r : List (List Nat)} (ok : ∀ e ∈ h :: r, okL e = true) : pNe (.lst (S h :: r.map S)) (.lst []) = some (.bl true) := by
  have := ne_nil (ss := (h :: r).map strL) fun s hs => by
    obtain ⟨e, he, rfl⟩ := List.mem_map.mp hs
    exact okL_str (ok e he)
  rw [← map_S] at this
  exact this
theorem ix_0 {p : PV} {ps : List PV} : pIx (.lst (p :: ps)) (.int 0) = some p := atI_nat (j := 0) rfl
theorem ix_1 {p q : PV} {ps : List PV} : pIx (.lst (p :: q :: ps)) (.int 1) = some q := atI_nat (j := 1) rfl
theorem ix_2 {p q s : PV} {ps : List PV} : pIx (.lst (p :: q :: s :: ps)) (.int 2) = some s := atI_nat (j := 2) rfl
theorem ge_1 {n : Nat} : pGe (.int 1) (.int (n : Int)) = some (.bl (decide (n ≤ 1))) := ge_nat (i := 1)
theorem ge_2 {n : Nat} : pGe (.int 2) (.int (n : Int)) = some (.bl (decide (n ≤ 2))) := ge_nat (i := 2)
theorem gt_nat {i j : Nat} : pGt (.int i) (.int j) = some (.bl (decide (j < i))) := by
  show some (PV.bl (decide ((j : Int) < (i : Int)))) = _
  rw [show decide ((j : Int) < (i : Int)) = decide (j < i) from decide_eq_decide.mpr (by omega)]
theorem gt_1 {n : Nat} : pGt (.int (n : Int)) (.int 1) = some (.bl (decide (1 < n))) := gt_nat (j := 1)
theorem gt_2 {n : Nat} : pGt (.int (n : Int)) (.int 2) = some (.bl (decide (2 < n))) := gt_nat (j := 2)
theorem gt_3 {n : Nat} : pGt (.int (n : Int)) (.int 3) = some (.bl (decide (3 < n))) := gt_nat (j := 3)
theorem lt_2 {n : Nat} : pLt (.int (n : Int)) (.int 2) = some (.bl (decide (n < 2))) := lt_nat (j := 2)
theorem i0 : ((0 : Int) + 1) = 1 := rfl
theorem i1 : ((1 : Int) + 1) = 2 := rfl
theorem i2 : ((0 : Int) + 2) = 2 := rfl
theorem i3 : ((1 : Int) + 2) = 3 := rfl
theorem i4 : ((2 : Int) + 1) = 3 := rfl
theorem i5 : ((2 : Int) + 2) = 4 := rfl
theorem n0 : ((0 : Nat) : Int) = 0 := rfl
theorem n1 : ((1 : Nat) : Int) = 1 := rfl
theorem n2 : ((2 : Nat) : Int) = 2 := rfl
section
variable {h : List Nat} {r : List (List Nat)} {x nm : Str} {mf : M PV}
theorem wr_nil : Gives m_l_wrong [.lst []] (.int 1) := by
  refine gives_of ?_
  have ne0 : pNe (.lst []) (.lst []) = some (.bl false) := pNe_same (by decide)
  have hF : fF "" = false := by decide +kernel
  have hB : fB "" = false := by decide +kernel
  have hD := din_none (dk0 (x := "") (by decide +kernel) (by decide +kernel))
  have nB : pNotIn (.str "") (.lst [.str "barred", .str "rooms", .str "period", .str "ring", .str "zeta", .str "least", .str "parts", .str "sign"]) = some (.bl (!fB "")) := notIn_lst [("barred" : Str), "rooms", "period", "ring", "zeta", "least", "parts", "sign"]
  simp only [b_l_wrong, decide_true, decide_false, e_enum0, e_enum1, e_enum2, e_forN, e_forC, e_lpN, e_lpC, e_lpB, e_lpR, e_lpE, e_body, e_gK, e_gSlot, e_gPair, e_asg, e_asgK, e_enum, e_lstP, e_opMap, e_callG, e_cgS, e_cgT, e_disp, e_toldM, e_toldO, e_toldE, e_toldK, e_extend, e_exS, e_exK, e_callO, e_ok, e_err, e_bad, e_okS, e_errS, e_badS, e_nx, e_rt, e_bk, e_ct, e_ex, e_bd, e_bind, e_pure, e_some, e_none, e_op1, e_op2, e_cons, e_test, e_callP, e_if, e_and, e_or, e_not, e_andV, e_orV, e_andT, e_andF, e_orT, e_orF, e_chain, e_chT, e_chF, e_part, e_sl, e_var, e_varF, e_varO, e_look, e_lookF, e_lookO, e_look1, e_argV, e_argS, e_slot, e_slotF, e_slotO, e_call, e_frz, e_lstO, e_listO, e_anyI, e_sThen, e_seq, e_next, e_brk, e_cnt, e_ret, e_drop, e_set, e_setO, e_ifS, e_raise, e_exn, e_for, boolP, partP, List.getElem?_cons_zero, List.getElem?_cons_succ, List.set_cons_zero, List.set_cons_succ, if_true, if_false, Bool.false_eq_true, Bool.not_true, Bool.not_false, e_vrt, e_vnx, e_xer, e_append, e_appS, e_appK, e_aug, e_augS, e_augK, e_pair, e_fr, e_ow, pSz, pLen, pAdd, frzO, sizeLine_eq, List.length_cons, List.length_nil, Nat.reduceAdd, Nat.reduceLeDiff, Nat.reduceLT, Nat.zero_add, Nat.zero_le, Nat.reduceSub, List.nil_append, List.cons_append, List.append_nil, List.map_cons, List.map_nil, List.replicate, ne0, in_F, hF, hD.2, c0 ev_bare, nB, hB]
theorem nB_of : pNotIn (.str x) (.lst [.str "barred", .str "rooms", .str "period", .str "ring", .str "zeta", .str "least", .str "parts", .str "sign"]) = some (.bl (!fB x)) := notIn_lst [("barred" : Str), "rooms", "period", "ring", "zeta", "least", "parts", "sign"]
theorem wr_none (ok : ∀ e ∈ h :: r, okL e = true) (hF : fF (strL h) = false) (hB : fB (strL h) = false) (hA : fA (strL h) = false) (hN : fN (strL h) = false) : Gives m_l_wrong [.lst ((h :: r).map S)] (.int 1) := by
  refine gives_of ?_
  have hD := din_none (dk0 hA hN)
  simp only [b_l_wrong, decide_true, decide_false, e_enum0, e_enum1, e_enum2, e_forN, e_forC, e_lpN, e_lpC, e_lpB, e_lpR, e_lpE, e_body, e_gK, e_gSlot, e_gPair, e_asg, e_asgK, e_enum, e_lstP, e_opMap, e_callG, e_cgS, e_cgT, e_disp, e_toldM, e_toldO, e_toldE, e_toldK, e_extend, e_exS, e_exK, e_callO, e_ok, e_err, e_bad, e_okS, e_errS, e_badS, e_nx, e_rt, e_bk, e_ct, e_ex, e_bd, e_bind, e_pure, e_some, e_none, e_op1, e_op2, e_cons, e_test, e_callP, e_if, e_and, e_or, e_not, e_andV, e_orV, e_andT, e_andF, e_orT, e_orF, e_chain, e_chT, e_chF, e_part, e_sl, e_var, e_varF, e_varO, e_look, e_lookF, e_lookO, e_look1, e_argV, e_argS, e_slot, e_slotF, e_slotO, e_call, e_frz, e_lstO, e_listO, e_anyI, e_sThen, e_seq, e_next, e_brk, e_cnt, e_ret, e_drop, e_set, e_setO, e_ifS, e_raise, e_exn, e_for, boolP, partP, List.getElem?_cons_zero, List.getElem?_cons_succ, List.set_cons_zero, List.set_cons_succ, if_true, if_false, Bool.false_eq_true, Bool.not_true, Bool.not_false, e_vrt, e_vnx, e_xer, e_append, e_appS, e_appK, e_aug, e_augS, e_augK, e_pair, e_fr, e_ow, pSz, pLen, pAdd, frzO, sizeLine_eq, List.length_cons, List.length_nil, Nat.reduceAdd, Nat.reduceLeDiff, Nat.reduceLT, Nat.zero_add, Nat.zero_le, Nat.reduceSub, List.nil_append, List.cons_append, List.append_nil, List.map_cons, List.map_nil, List.replicate, ne_cons ok, ix_0, in_F, hF, hD.2, c0 ev_bare, nB_of, hB]
theorem wr_flow (ok : ∀ e ∈ h :: r, okL e = true) (hF : fF (strL h) = true) : Gives m_l_wrong [.lst ((h :: r).map S)] (.int (if r = [] then 2 else 0)) := by
  refine gives_of ?_
  cases r with
  | nil =>
    have e := ne_cons ok
    simp only [List.map_nil] at e
    simp only [b_l_wrong, decide_true, decide_false, e_enum0, e_enum1, e_enum2, e_forN, e_forC, e_lpN, e_lpC, e_lpB, e_lpR, e_lpE, e_body, e_gK, e_gSlot, e_gPair, e_asg, e_asgK, e_enum, e_lstP, e_opMap, e_callG, e_cgS, e_cgT, e_disp, e_toldM, e_toldO, e_toldE, e_toldK, e_extend, e_exS, e_exK, e_callO, e_ok, e_err, e_bad, e_okS, e_errS, e_badS, e_nx, e_rt, e_bk, e_ct, e_ex, e_bd, e_bind, e_pure, e_some, e_none, e_op1, e_op2, e_cons, e_test, e_callP, e_if, e_and, e_or, e_not, e_andV, e_orV, e_andT, e_andF, e_orT, e_orF, e_chain, e_chT, e_chF, e_part, e_sl, e_var, e_varF, e_varO, e_look, e_lookF, e_lookO, e_look1, e_argV, e_argS, e_slot, e_slotF, e_slotO, e_call, e_frz, e_lstO, e_listO, e_anyI, e_sThen, e_seq, e_next, e_brk, e_cnt, e_ret, e_drop, e_set, e_setO, e_ifS, e_raise, e_exn, e_for, boolP, partP, List.getElem?_cons_zero, List.getElem?_cons_succ, List.set_cons_zero, List.set_cons_succ, if_true, if_false, Bool.false_eq_true, Bool.not_true, Bool.not_false, e_vrt, e_vnx, e_xer, e_append, e_appS, e_appK, e_aug, e_augS, e_augK, e_pair, e_fr, e_ow, pSz, pLen, pAdd, frzO, sizeLine_eq, List.length_cons, List.length_nil, Nat.reduceAdd, Nat.reduceLeDiff, Nat.reduceLT, Nat.zero_add, Nat.zero_le, Nat.reduceSub, List.nil_append, List.cons_append, List.append_nil, List.map_cons, List.map_nil, List.replicate, e, ix_0, in_F, hF, lt_2, decide_eq_true (show 1 < 2 by omega)]
  | cons w r =>
    have e := ne_cons ok
    simp only [List.map_cons] at e
    simp only [b_l_wrong, decide_true, decide_false, e_enum0, e_enum1, e_enum2, e_forN, e_forC, e_lpN, e_lpC, e_lpB, e_lpR, e_lpE, e_body, e_gK, e_gSlot, e_gPair, e_asg, e_asgK, e_enum, e_lstP, e_opMap, e_callG, e_cgS, e_cgT, e_disp, e_toldM, e_toldO, e_toldE, e_toldK, e_extend, e_exS, e_exK, e_callO, e_ok, e_err, e_bad, e_okS, e_errS, e_badS, e_nx, e_rt, e_bk, e_ct, e_ex, e_bd, e_bind, e_pure, e_some, e_none, e_op1, e_op2, e_cons, e_test, e_callP, e_if, e_and, e_or, e_not, e_andV, e_orV, e_andT, e_andF, e_orT, e_orF, e_chain, e_chT, e_chF, e_part, e_sl, e_var, e_varF, e_varO, e_look, e_lookF, e_lookO, e_look1, e_argV, e_argS, e_slot, e_slotF, e_slotO, e_call, e_frz, e_lstO, e_listO, e_anyI, e_sThen, e_seq, e_next, e_brk, e_cnt, e_ret, e_drop, e_set, e_setO, e_ifS, e_raise, e_exn, e_for, boolP, partP, List.getElem?_cons_zero, List.getElem?_cons_succ, List.set_cons_zero, List.set_cons_succ, if_true, if_false, Bool.false_eq_true, Bool.not_true, Bool.not_false, e_vrt, e_vnx, e_xer, e_append, e_appS, e_appK, e_aug, e_augS, e_augK, e_pair, e_fr, e_ow, pSz, pLen, pAdd, frzO, sizeLine_eq, List.length_cons, List.length_nil, Nat.reduceAdd, Nat.reduceLeDiff, Nat.reduceLT, Nat.zero_add, Nat.zero_le, Nat.reduceSub, List.nil_append, List.cons_append, List.append_nil, List.map_cons, List.map_nil, List.replicate, e, ix_0, in_F, hF, lt_2, decide_eq_false (show ¬ ((r.map S).length + 1 + 1 < 2) by omega), List.cons_ne_nil]
theorem wr_bare (ok : ∀ e ∈ h :: r, okL e = true) (hF : fF (strL h) = false) (hB : fB (strL h) = true) (hA : fA (strL h) = false) (hN : fN (strL h) = false) : Gives m_l_wrong [.lst ((h :: r).map S)] (.int (if r = [] then 0 else 2)) := by
  refine gives_of ?_
  have hD := din_none (dk0 hA hN)
  cases r with
  | nil =>
    have e := ne_cons ok
    simp only [List.map_nil] at e
    simp only [b_l_wrong, decide_true, decide_false, e_enum0, e_enum1, e_enum2, e_forN, e_forC, e_lpN, e_lpC, e_lpB, e_lpR, e_lpE, e_body, e_gK, e_gSlot, e_gPair, e_asg, e_asgK, e_enum, e_lstP, e_opMap, e_callG, e_cgS, e_cgT, e_disp, e_toldM, e_toldO, e_toldE, e_toldK, e_extend, e_exS, e_exK, e_callO, e_ok, e_err, e_bad, e_okS, e_errS, e_badS, e_nx, e_rt, e_bk, e_ct, e_ex, e_bd, e_bind, e_pure, e_some, e_none, e_op1, e_op2, e_cons, e_test, e_callP, e_if, e_and, e_or, e_not, e_andV, e_orV, e_andT, e_andF, e_orT, e_orF, e_chain, e_chT, e_chF, e_part, e_sl, e_var, e_varF, e_varO, e_look, e_lookF, e_lookO, e_look1, e_argV, e_argS, e_slot, e_slotF, e_slotO, e_call, e_frz, e_lstO, e_listO, e_anyI, e_sThen, e_seq, e_next, e_brk, e_cnt, e_ret, e_drop, e_set, e_setO, e_ifS, e_raise, e_exn, e_for, boolP, partP, List.getElem?_cons_zero, List.getElem?_cons_succ, List.set_cons_zero, List.set_cons_succ, if_true, if_false, Bool.false_eq_true, Bool.not_true, Bool.not_false, e_vrt, e_vnx, e_xer, e_append, e_appS, e_appK, e_aug, e_augS, e_augK, e_pair, e_fr, e_ow, pSz, pLen, pAdd, frzO, sizeLine_eq, List.length_cons, List.length_nil, Nat.reduceAdd, Nat.reduceLeDiff, Nat.reduceLT, Nat.zero_add, Nat.zero_le, Nat.reduceSub, List.nil_append, List.cons_append, List.append_nil, List.map_cons, List.map_nil, List.replicate, e, ix_0, in_F, hF, hD.2, hD.1, c0 ev_bare, nB_of, hB, n0, i0, gt_1, decide_eq_false (show ¬ 1 < 1 by omega)]
  | cons w r =>
    have e := ne_cons ok
    simp only [List.map_cons] at e
    simp only [b_l_wrong, decide_true, decide_false, e_enum0, e_enum1, e_enum2, e_forN, e_forC, e_lpN, e_lpC, e_lpB, e_lpR, e_lpE, e_body, e_gK, e_gSlot, e_gPair, e_asg, e_asgK, e_enum, e_lstP, e_opMap, e_callG, e_cgS, e_cgT, e_disp, e_toldM, e_toldO, e_toldE, e_toldK, e_extend, e_exS, e_exK, e_callO, e_ok, e_err, e_bad, e_okS, e_errS, e_badS, e_nx, e_rt, e_bk, e_ct, e_ex, e_bd, e_bind, e_pure, e_some, e_none, e_op1, e_op2, e_cons, e_test, e_callP, e_if, e_and, e_or, e_not, e_andV, e_orV, e_andT, e_andF, e_orT, e_orF, e_chain, e_chT, e_chF, e_part, e_sl, e_var, e_varF, e_varO, e_look, e_lookF, e_lookO, e_look1, e_argV, e_argS, e_slot, e_slotF, e_slotO, e_call, e_frz, e_lstO, e_listO, e_anyI, e_sThen, e_seq, e_next, e_brk, e_cnt, e_ret, e_drop, e_set, e_setO, e_ifS, e_raise, e_exn, e_for, boolP, partP, List.getElem?_cons_zero, List.getElem?_cons_succ, List.set_cons_zero, List.set_cons_succ, if_true, if_false, Bool.false_eq_true, Bool.not_true, Bool.not_false, e_vrt, e_vnx, e_xer, e_append, e_appS, e_appK, e_aug, e_augS, e_augK, e_pair, e_fr, e_ow, pSz, pLen, pAdd, frzO, sizeLine_eq, List.length_cons, List.length_nil, Nat.reduceAdd, Nat.reduceLeDiff, Nat.reduceLT, Nat.zero_add, Nat.zero_le, Nat.reduceSub, List.nil_append, List.cons_append, List.append_nil, List.map_cons, List.map_nil, List.replicate, e, ix_0, in_F, hF, hD.2, hD.1, c0 ev_bare, nB_of, hB, n0, i0, i2, gt_1, decide_eq_true (show 1 < (r.map S).length + 1 + 1 by omega), List.cons_ne_nil]
def v1I (v : List Nat → Bool) : List (List Nat) → Int
  | [] => 2
  | w :: r1 => if v w then (if r1 = [] then 0 else 3) else 2
def v2I (v : List Nat → Bool) : List (List Nat) → Int
  | [] => 2
  | w :: r1 => if v w then (match r1 with | [] => 3 | u :: r2 => if v u then (if r2 = [] then 0 else 4) else 3) else 2
theorem wr1 (v : List Nat → Bool) (hS : S h = .str x) (ok : ∀ e ∈ h :: r, okL e = true) (hF : fF x = false) (hD : dLook ndK ndV (.inr x) = some (.lst [.glob nm])) (ht : tbl_l_wrong_need nm = some mf) (hv : ∀ w ∈ r, Gives mf [S w] (.bl (v w))) :
    Gives m_l_wrong [.lst ((h :: r).map S)] (.int (v1I v r)) := by
  refine gives_of ?_
  have hD := din_some hD
  cases r with
  | nil =>
    have e := ne_cons ok
    simp only [List.map_nil, hS] at e
    simp only [b_l_wrong, v1I, v2I, decide_true, decide_false, e_enum0, e_enum1, e_enum2, e_forN, e_forC, e_lpN, e_lpC, e_lpB, e_lpR, e_lpE, e_body, e_gK, e_gSlot, e_gPair, e_asg, e_asgK, e_enum, e_lstP, e_opMap, e_callG, e_cgS, e_cgT, e_disp, e_toldM, e_toldO, e_toldE, e_toldK, e_extend, e_exS, e_exK, e_callO, e_ok, e_err, e_bad, e_okS, e_errS, e_badS, e_nx, e_rt, e_bk, e_ct, e_ex, e_bd, e_bind, e_pure, e_some, e_none, e_op1, e_op2, e_cons, e_test, e_callP, e_if, e_and, e_or, e_not, e_andV, e_orV, e_andT, e_andF, e_orT, e_orF, e_chain, e_chT, e_chF, e_part, e_sl, e_var, e_varF, e_varO, e_look, e_lookF, e_lookO, e_look1, e_argV, e_argS, e_slot, e_slotF, e_slotO, e_call, e_frz, e_lstO, e_listO, e_anyI, e_sThen, e_seq, e_next, e_brk, e_cnt, e_ret, e_drop, e_set, e_setO, e_ifS, e_raise, e_exn, e_for, boolP, partP, List.getElem?_cons_zero, List.getElem?_cons_succ, List.set_cons_zero, List.set_cons_succ, if_true, if_false, Bool.false_eq_true, Bool.not_true, Bool.not_false, e_vrt, e_vnx, e_xer, e_append, e_appS, e_appK, e_aug, e_augS, e_augK, e_pair, e_fr, e_ow, pSz, pLen, pAdd, frzO, sizeLine_eq, List.length_cons, List.length_nil, Nat.reduceAdd, Nat.reduceLeDiff, Nat.reduceLT, Nat.zero_add, Nat.zero_le, Nat.reduceSub, List.nil_append, List.cons_append, List.append_nil, List.map_cons, List.map_nil, List.replicate, hS, e, ix_0, in_F, hF, hD.1, hD.2.1, hD.2.2, i0, i2, ge_1, decide_eq_true (show 1 ≤ 1 by omega)]
  | cons w r =>
    have e := ne_cons ok
    simp only [List.map_cons, hS] at e
    have g := hv w List.mem_cons_self
    cases hw : v w with
    | false =>
      rw [hw] at g
      simp only [b_l_wrong, v1I, v2I, decide_true, decide_false, e_enum0, e_enum1, e_enum2, e_forN, e_forC, e_lpN, e_lpC, e_lpB, e_lpR, e_lpE, e_body, e_gK, e_gSlot, e_gPair, e_asg, e_asgK, e_enum, e_lstP, e_opMap, e_callG, e_cgS, e_cgT, e_disp, e_toldM, e_toldO, e_toldE, e_toldK, e_extend, e_exS, e_exK, e_callO, e_ok, e_err, e_bad, e_okS, e_errS, e_badS, e_nx, e_rt, e_bk, e_ct, e_ex, e_bd, e_bind, e_pure, e_some, e_none, e_op1, e_op2, e_cons, e_test, e_callP, e_if, e_and, e_or, e_not, e_andV, e_orV, e_andT, e_andF, e_orT, e_orF, e_chain, e_chT, e_chF, e_part, e_sl, e_var, e_varF, e_varO, e_look, e_lookF, e_lookO, e_look1, e_argV, e_argS, e_slot, e_slotF, e_slotO, e_call, e_frz, e_lstO, e_listO, e_anyI, e_sThen, e_seq, e_next, e_brk, e_cnt, e_ret, e_drop, e_set, e_setO, e_ifS, e_raise, e_exn, e_for, boolP, partP, List.getElem?_cons_zero, List.getElem?_cons_succ, List.set_cons_zero, List.set_cons_succ, if_true, if_false, Bool.false_eq_true, Bool.not_true, Bool.not_false, e_vrt, e_vnx, e_xer, e_append, e_appS, e_appK, e_aug, e_augS, e_augK, e_pair, e_fr, e_ow, pSz, pLen, pAdd, frzO, sizeLine_eq, List.length_cons, List.length_nil, Nat.reduceAdd, Nat.reduceLeDiff, Nat.reduceLT, Nat.zero_add, Nat.zero_le, Nat.reduceSub, List.nil_append, List.cons_append, List.append_nil, List.map_cons, List.map_nil, List.replicate, hS, e, ix_0, in_F, hF, hD.1, hD.2.1, hD.2.2, i0, i2, ge_1, decide_eq_false (show ¬ (r.map S).length + 1 + 1 ≤ 1 by omega), ht, ix_1, c1 g, hw]
    | true =>
      rw [hw] at g
      cases r with
      | nil =>
        simp only [List.map_nil] at e
        simp only [b_l_wrong, v1I, v2I, decide_true, decide_false, e_enum0, e_enum1, e_enum2, e_forN, e_forC, e_lpN, e_lpC, e_lpB, e_lpR, e_lpE, e_body, e_gK, e_gSlot, e_gPair, e_asg, e_asgK, e_enum, e_lstP, e_opMap, e_callG, e_cgS, e_cgT, e_disp, e_toldM, e_toldO, e_toldE, e_toldK, e_extend, e_exS, e_exK, e_callO, e_ok, e_err, e_bad, e_okS, e_errS, e_badS, e_nx, e_rt, e_bk, e_ct, e_ex, e_bd, e_bind, e_pure, e_some, e_none, e_op1, e_op2, e_cons, e_test, e_callP, e_if, e_and, e_or, e_not, e_andV, e_orV, e_andT, e_andF, e_orT, e_orF, e_chain, e_chT, e_chF, e_part, e_sl, e_var, e_varF, e_varO, e_look, e_lookF, e_lookO, e_look1, e_argV, e_argS, e_slot, e_slotF, e_slotO, e_call, e_frz, e_lstO, e_listO, e_anyI, e_sThen, e_seq, e_next, e_brk, e_cnt, e_ret, e_drop, e_set, e_setO, e_ifS, e_raise, e_exn, e_for, boolP, partP, List.getElem?_cons_zero, List.getElem?_cons_succ, List.set_cons_zero, List.set_cons_succ, if_true, if_false, Bool.false_eq_true, Bool.not_true, Bool.not_false, e_vrt, e_vnx, e_xer, e_append, e_appS, e_appK, e_aug, e_augS, e_augK, e_pair, e_fr, e_ow, pSz, pLen, pAdd, frzO, sizeLine_eq, List.length_cons, List.length_nil, Nat.reduceAdd, Nat.reduceLeDiff, Nat.reduceLT, Nat.zero_add, Nat.zero_le, Nat.reduceSub, List.nil_append, List.cons_append, List.append_nil, List.map_cons, List.map_nil, List.replicate, hS, e, ix_0, in_F, hF, hD.1, hD.2.1, hD.2.2, i0, i1, i2, n1, ge_1, decide_eq_false (show ¬ 2 ≤ 1 by omega), ht, ix_1, c1 g, hw, gt_2, decide_eq_false (show ¬ 2 < 2 by omega)]
      | cons u r =>
        simp only [List.map_cons] at e
        simp only [b_l_wrong, v1I, v2I, decide_true, decide_false, e_enum0, e_enum1, e_enum2, e_forN, e_forC, e_lpN, e_lpC, e_lpB, e_lpR, e_lpE, e_body, e_gK, e_gSlot, e_gPair, e_asg, e_asgK, e_enum, e_lstP, e_opMap, e_callG, e_cgS, e_cgT, e_disp, e_toldM, e_toldO, e_toldE, e_toldK, e_extend, e_exS, e_exK, e_callO, e_ok, e_err, e_bad, e_okS, e_errS, e_badS, e_nx, e_rt, e_bk, e_ct, e_ex, e_bd, e_bind, e_pure, e_some, e_none, e_op1, e_op2, e_cons, e_test, e_callP, e_if, e_and, e_or, e_not, e_andV, e_orV, e_andT, e_andF, e_orT, e_orF, e_chain, e_chT, e_chF, e_part, e_sl, e_var, e_varF, e_varO, e_look, e_lookF, e_lookO, e_look1, e_argV, e_argS, e_slot, e_slotF, e_slotO, e_call, e_frz, e_lstO, e_listO, e_anyI, e_sThen, e_seq, e_next, e_brk, e_cnt, e_ret, e_drop, e_set, e_setO, e_ifS, e_raise, e_exn, e_for, boolP, partP, List.getElem?_cons_zero, List.getElem?_cons_succ, List.set_cons_zero, List.set_cons_succ, if_true, if_false, Bool.false_eq_true, Bool.not_true, Bool.not_false, e_vrt, e_vnx, e_xer, e_append, e_appS, e_appK, e_aug, e_augS, e_augK, e_pair, e_fr, e_ow, pSz, pLen, pAdd, frzO, sizeLine_eq, List.length_cons, List.length_nil, Nat.reduceAdd, Nat.reduceLeDiff, Nat.reduceLT, Nat.zero_add, Nat.zero_le, Nat.reduceSub, List.nil_append, List.cons_append, List.append_nil, List.map_cons, List.map_nil, List.replicate, hS, e, ix_0, in_F, hF, hD.1, hD.2.1, hD.2.2, i0, i1, i2, i3, n1, ge_1, decide_eq_false (show ¬ (r.map S).length + 1 + 1 + 1 ≤ 1 by omega), ht, ix_1, c1 g, hw, gt_2, decide_eq_true (show 2 < (r.map S).length + 1 + 1 + 1 by omega), List.cons_ne_nil]
theorem wr2 (v : List Nat → Bool) (hS : S h = .str x) (ok : ∀ e ∈ h :: r, okL e = true) (hF : fF x = false) (hD : dLook ndK ndV (.inr x) = some (.lst [.glob nm, .glob nm])) (ht : tbl_l_wrong_need nm = some mf) (hv : ∀ w ∈ r, Gives mf [S w] (.bl (v w))) :
    Gives m_l_wrong [.lst ((h :: r).map S)] (.int (v2I v r)) := by
  refine gives_of ?_
  have hD := din_some hD
  cases r with
  | nil =>
    have e := ne_cons ok
    simp only [List.map_nil, hS] at e
    simp only [b_l_wrong, v1I, v2I, decide_true, decide_false, e_enum0, e_enum1, e_enum2, e_forN, e_forC, e_lpN, e_lpC, e_lpB, e_lpR, e_lpE, e_body, e_gK, e_gSlot, e_gPair, e_asg, e_asgK, e_enum, e_lstP, e_opMap, e_callG, e_cgS, e_cgT, e_disp, e_toldM, e_toldO, e_toldE, e_toldK, e_extend, e_exS, e_exK, e_callO, e_ok, e_err, e_bad, e_okS, e_errS, e_badS, e_nx, e_rt, e_bk, e_ct, e_ex, e_bd, e_bind, e_pure, e_some, e_none, e_op1, e_op2, e_cons, e_test, e_callP, e_if, e_and, e_or, e_not, e_andV, e_orV, e_andT, e_andF, e_orT, e_orF, e_chain, e_chT, e_chF, e_part, e_sl, e_var, e_varF, e_varO, e_look, e_lookF, e_lookO, e_look1, e_argV, e_argS, e_slot, e_slotF, e_slotO, e_call, e_frz, e_lstO, e_listO, e_anyI, e_sThen, e_seq, e_next, e_brk, e_cnt, e_ret, e_drop, e_set, e_setO, e_ifS, e_raise, e_exn, e_for, boolP, partP, List.getElem?_cons_zero, List.getElem?_cons_succ, List.set_cons_zero, List.set_cons_succ, if_true, if_false, Bool.false_eq_true, Bool.not_true, Bool.not_false, e_vrt, e_vnx, e_xer, e_append, e_appS, e_appK, e_aug, e_augS, e_augK, e_pair, e_fr, e_ow, pSz, pLen, pAdd, frzO, sizeLine_eq, List.length_cons, List.length_nil, Nat.reduceAdd, Nat.reduceLeDiff, Nat.reduceLT, Nat.zero_add, Nat.zero_le, Nat.reduceSub, List.nil_append, List.cons_append, List.append_nil, List.map_cons, List.map_nil, List.replicate, e_enum2, hS, e, ix_0, in_F, hF, hD.1, hD.2.1, hD.2.2, i0, i2, ge_1, decide_eq_true (show 1 ≤ 1 by omega)]
  | cons w r =>
    have e := ne_cons ok
    simp only [List.map_cons, hS] at e
    have g := hv w List.mem_cons_self
    cases hw : v w with
    | false =>
      rw [hw] at g
      simp only [b_l_wrong, v1I, v2I, decide_true, decide_false, e_enum0, e_enum1, e_enum2, e_forN, e_forC, e_lpN, e_lpC, e_lpB, e_lpR, e_lpE, e_body, e_gK, e_gSlot, e_gPair, e_asg, e_asgK, e_enum, e_lstP, e_opMap, e_callG, e_cgS, e_cgT, e_disp, e_toldM, e_toldO, e_toldE, e_toldK, e_extend, e_exS, e_exK, e_callO, e_ok, e_err, e_bad, e_okS, e_errS, e_badS, e_nx, e_rt, e_bk, e_ct, e_ex, e_bd, e_bind, e_pure, e_some, e_none, e_op1, e_op2, e_cons, e_test, e_callP, e_if, e_and, e_or, e_not, e_andV, e_orV, e_andT, e_andF, e_orT, e_orF, e_chain, e_chT, e_chF, e_part, e_sl, e_var, e_varF, e_varO, e_look, e_lookF, e_lookO, e_look1, e_argV, e_argS, e_slot, e_slotF, e_slotO, e_call, e_frz, e_lstO, e_listO, e_anyI, e_sThen, e_seq, e_next, e_brk, e_cnt, e_ret, e_drop, e_set, e_setO, e_ifS, e_raise, e_exn, e_for, boolP, partP, List.getElem?_cons_zero, List.getElem?_cons_succ, List.set_cons_zero, List.set_cons_succ, if_true, if_false, Bool.false_eq_true, Bool.not_true, Bool.not_false, e_vrt, e_vnx, e_xer, e_append, e_appS, e_appK, e_aug, e_augS, e_augK, e_pair, e_fr, e_ow, pSz, pLen, pAdd, frzO, sizeLine_eq, List.length_cons, List.length_nil, Nat.reduceAdd, Nat.reduceLeDiff, Nat.reduceLT, Nat.zero_add, Nat.zero_le, Nat.reduceSub, List.nil_append, List.cons_append, List.append_nil, List.map_cons, List.map_nil, List.replicate, e_enum2, hS, e, ix_0, in_F, hF, hD.1, hD.2.1, hD.2.2, i0, i2, ge_1, decide_eq_false (show ¬ (r.map S).length + 1 + 1 ≤ 1 by omega), ht, ix_1, c1 g, hw]
    | true =>
      rw [hw] at g
      cases r with
      | nil =>
        simp only [List.map_nil] at e
        simp only [b_l_wrong, v1I, v2I, decide_true, decide_false, e_enum0, e_enum1, e_enum2, e_forN, e_forC, e_lpN, e_lpC, e_lpB, e_lpR, e_lpE, e_body, e_gK, e_gSlot, e_gPair, e_asg, e_asgK, e_enum, e_lstP, e_opMap, e_callG, e_cgS, e_cgT, e_disp, e_toldM, e_toldO, e_toldE, e_toldK, e_extend, e_exS, e_exK, e_callO, e_ok, e_err, e_bad, e_okS, e_errS, e_badS, e_nx, e_rt, e_bk, e_ct, e_ex, e_bd, e_bind, e_pure, e_some, e_none, e_op1, e_op2, e_cons, e_test, e_callP, e_if, e_and, e_or, e_not, e_andV, e_orV, e_andT, e_andF, e_orT, e_orF, e_chain, e_chT, e_chF, e_part, e_sl, e_var, e_varF, e_varO, e_look, e_lookF, e_lookO, e_look1, e_argV, e_argS, e_slot, e_slotF, e_slotO, e_call, e_frz, e_lstO, e_listO, e_anyI, e_sThen, e_seq, e_next, e_brk, e_cnt, e_ret, e_drop, e_set, e_setO, e_ifS, e_raise, e_exn, e_for, boolP, partP, List.getElem?_cons_zero, List.getElem?_cons_succ, List.set_cons_zero, List.set_cons_succ, if_true, if_false, Bool.false_eq_true, Bool.not_true, Bool.not_false, e_vrt, e_vnx, e_xer, e_append, e_appS, e_appK, e_aug, e_augS, e_augK, e_pair, e_fr, e_ow, pSz, pLen, pAdd, frzO, sizeLine_eq, List.length_cons, List.length_nil, Nat.reduceAdd, Nat.reduceLeDiff, Nat.reduceLT, Nat.zero_add, Nat.zero_le, Nat.reduceSub, List.nil_append, List.cons_append, List.append_nil, List.map_cons, List.map_nil, List.replicate, e_enum2, hS, e, ix_0, in_F, hF, hD.1, hD.2.1, hD.2.2, i0, i1, i2, i3, ge_1, ge_2, decide_eq_false (show ¬ 2 ≤ 1 by omega), decide_eq_true (show 2 ≤ 2 by omega), ht, ix_1, c1 g, hw]
      | cons u r =>
        simp only [List.map_cons] at e
        have g2 := hv u (List.mem_cons_of_mem _ List.mem_cons_self)
        have a1 : decide ((r.map S).length + 1 + 1 + 1 ≤ 1) = false := decide_eq_false (by omega)
        have a2 : decide ((r.map S).length + 1 + 1 + 1 ≤ 2) = false := decide_eq_false (by omega)
        cases hu : v u with
        | false =>
          rw [hu] at g2
          simp only [b_l_wrong, v1I, v2I, decide_true, decide_false, e_enum0, e_enum1, e_enum2, e_forN, e_forC, e_lpN, e_lpC, e_lpB, e_lpR, e_lpE, e_body, e_gK, e_gSlot, e_gPair, e_asg, e_asgK, e_enum, e_lstP, e_opMap, e_callG, e_cgS, e_cgT, e_disp, e_toldM, e_toldO, e_toldE, e_toldK, e_extend, e_exS, e_exK, e_callO, e_ok, e_err, e_bad, e_okS, e_errS, e_badS, e_nx, e_rt, e_bk, e_ct, e_ex, e_bd, e_bind, e_pure, e_some, e_none, e_op1, e_op2, e_cons, e_test, e_callP, e_if, e_and, e_or, e_not, e_andV, e_orV, e_andT, e_andF, e_orT, e_orF, e_chain, e_chT, e_chF, e_part, e_sl, e_var, e_varF, e_varO, e_look, e_lookF, e_lookO, e_look1, e_argV, e_argS, e_slot, e_slotF, e_slotO, e_call, e_frz, e_lstO, e_listO, e_anyI, e_sThen, e_seq, e_next, e_brk, e_cnt, e_ret, e_drop, e_set, e_setO, e_ifS, e_raise, e_exn, e_for, boolP, partP, List.getElem?_cons_zero, List.getElem?_cons_succ, List.set_cons_zero, List.set_cons_succ, if_true, if_false, Bool.false_eq_true, Bool.not_true, Bool.not_false, e_vrt, e_vnx, e_xer, e_append, e_appS, e_appK, e_aug, e_augS, e_augK, e_pair, e_fr, e_ow, pSz, pLen, pAdd, frzO, sizeLine_eq, List.length_cons, List.length_nil, Nat.reduceAdd, Nat.reduceLeDiff, Nat.reduceLT, Nat.zero_add, Nat.zero_le, Nat.reduceSub, List.nil_append, List.cons_append, List.append_nil, List.map_cons, List.map_nil, List.replicate, e_enum2, hS, e, ix_0, in_F, hF, hD.1, hD.2.1, hD.2.2, i0, i1, i2, i3, ge_1, ge_2, a1, a2, ht, ix_1, ix_2, c1 g, hw, c1 g2, hu]
        | true =>
          rw [hu] at g2
          cases r with
          | nil =>
        simp only [List.map_nil] at e
        simp only [b_l_wrong, v1I, v2I, decide_true, decide_false, e_enum0, e_enum1, e_enum2, e_forN, e_forC, e_lpN, e_lpC, e_lpB, e_lpR, e_lpE, e_body, e_gK, e_gSlot, e_gPair, e_asg, e_asgK, e_enum, e_lstP, e_opMap, e_callG, e_cgS, e_cgT, e_disp, e_toldM, e_toldO, e_toldE, e_toldK, e_extend, e_exS, e_exK, e_callO, e_ok, e_err, e_bad, e_okS, e_errS, e_badS, e_nx, e_rt, e_bk, e_ct, e_ex, e_bd, e_bind, e_pure, e_some, e_none, e_op1, e_op2, e_cons, e_test, e_callP, e_if, e_and, e_or, e_not, e_andV, e_orV, e_andT, e_andF, e_orT, e_orF, e_chain, e_chT, e_chF, e_part, e_sl, e_var, e_varF, e_varO, e_look, e_lookF, e_lookO, e_look1, e_argV, e_argS, e_slot, e_slotF, e_slotO, e_call, e_frz, e_lstO, e_listO, e_anyI, e_sThen, e_seq, e_next, e_brk, e_cnt, e_ret, e_drop, e_set, e_setO, e_ifS, e_raise, e_exn, e_for, boolP, partP, List.getElem?_cons_zero, List.getElem?_cons_succ, List.set_cons_zero, List.set_cons_succ, if_true, if_false, Bool.false_eq_true, Bool.not_true, Bool.not_false, e_vrt, e_vnx, e_xer, e_append, e_appS, e_appK, e_aug, e_augS, e_augK, e_pair, e_fr, e_ow, pSz, pLen, pAdd, frzO, sizeLine_eq, List.length_cons, List.length_nil, Nat.reduceAdd, Nat.reduceLeDiff, Nat.reduceLT, Nat.zero_add, Nat.zero_le, Nat.reduceSub, List.nil_append, List.cons_append, List.append_nil, List.map_cons, List.map_nil, List.replicate, e_enum2, hS, e, ix_0, in_F, hF, hD.1, hD.2.1, hD.2.2, i0, i1, i4, n2, ge_1, ge_2, decide_eq_false (show ¬ 3 ≤ 1 by omega), decide_eq_false (show ¬ 3 ≤ 2 by omega), ht, ix_1, ix_2, c1 g, hw, c1 g2, hu, gt_3, decide_eq_false (show ¬ 3 < 3 by omega)]
          | cons u r =>
        simp only [List.map_cons] at e
        simp only [b_l_wrong, v1I, v2I, decide_true, decide_false, e_enum0, e_enum1, e_enum2, e_forN, e_forC, e_lpN, e_lpC, e_lpB, e_lpR, e_lpE, e_body, e_gK, e_gSlot, e_gPair, e_asg, e_asgK, e_enum, e_lstP, e_opMap, e_callG, e_cgS, e_cgT, e_disp, e_toldM, e_toldO, e_toldE, e_toldK, e_extend, e_exS, e_exK, e_callO, e_ok, e_err, e_bad, e_okS, e_errS, e_badS, e_nx, e_rt, e_bk, e_ct, e_ex, e_bd, e_bind, e_pure, e_some, e_none, e_op1, e_op2, e_cons, e_test, e_callP, e_if, e_and, e_or, e_not, e_andV, e_orV, e_andT, e_andF, e_orT, e_orF, e_chain, e_chT, e_chF, e_part, e_sl, e_var, e_varF, e_varO, e_look, e_lookF, e_lookO, e_look1, e_argV, e_argS, e_slot, e_slotF, e_slotO, e_call, e_frz, e_lstO, e_listO, e_anyI, e_sThen, e_seq, e_next, e_brk, e_cnt, e_ret, e_drop, e_set, e_setO, e_ifS, e_raise, e_exn, e_for, boolP, partP, List.getElem?_cons_zero, List.getElem?_cons_succ, List.set_cons_zero, List.set_cons_succ, if_true, if_false, Bool.false_eq_true, Bool.not_true, Bool.not_false, e_vrt, e_vnx, e_xer, e_append, e_appS, e_appK, e_aug, e_augS, e_augK, e_pair, e_fr, e_ow, pSz, pLen, pAdd, frzO, sizeLine_eq, List.length_cons, List.length_nil, Nat.reduceAdd, Nat.reduceLeDiff, Nat.reduceLT, Nat.zero_add, Nat.zero_le, Nat.reduceSub, List.nil_append, List.cons_append, List.append_nil, List.map_cons, List.map_nil, List.replicate, e_enum2, hS, e, ix_0, in_F, hF, hD.1, hD.2.1, hD.2.2, i0, i1, i4, i5, n2, ge_1, ge_2, decide_eq_false (show ¬ (r.map S).length + 1 + 1 + 1 + 1 ≤ 1 by omega), decide_eq_false (show ¬ (r.map S).length + 1 + 1 + 1 + 1 ≤ 2 by omega), ht, ix_1, ix_2, c1 g, hw, c1 g2, hu, gt_3, decide_eq_true (show 3 < (r.map S).length + 1 + 1 + 1 + 1 by omega), List.cons_ne_nil]
end
end K75

set_option linter.all false
set_option maxRecDepth 100000
set_option maxHeartbeats 2000000
namespace K75
open PySem PySem.Spec PyProof.Rows L2 LamX VS
theorem fB_not {x : Str} (h : fB x = true) : fA x = false ∧ fN x = false := by
  unfold fB at h
  rw [List.any_eq_true] at h
  obtain ⟨y, hy, e⟩ := h
  obtain rfl := eq_of_beq e
  revert y
  decide +kernel
theorem fA_eq {x : Str} (h : fA x = true) : x = "allowed" := eq_of_beq h
theorem fW_eq {x : Str} (h : fW x = true) : x = "below" := eq_of_beq h
theorem fN_eq {x : Str} (h : fN x = true) (hW : fW x = false) : x = "count" ∨ x = "closed" ∨ x = "rate" := by
  unfold fN at h
  rw [List.any_eq_true] at h
  obtain ⟨y, hy, e⟩ := h
  obtain rfl := eq_of_beq e
  rcases List.mem_cons.mp hy with e | hy
  · exact .inl e
  rcases List.mem_cons.mp hy with e | hy
  · exact .inr (.inl e)
  rcases List.mem_cons.mp hy with e | hy
  · exact .inr (.inr e)
  · cases List.mem_singleton.mp hy
    exact absurd hW (by decide +kernel)
theorem ev_wrong {es : List (List Nat)} (ok : ∀ e ∈ es, okL e = true) (sm : ∀ e ∈ es, e.length ≤ 16777216) : Gives m_l_wrong [.lst (es.map S)] (.int (wrongN es : Nat)) := by
  cases es with
  | nil => exact wr_nil
  | cons h r =>
    have vn : ∀ w ∈ r, Gives m_l_is_numeral [S w] (.bl (isNum w 2)) := fun w hw => ev_lnum (sm w (List.mem_cons_of_mem _ hw)) (ok w (List.mem_cons_of_mem _ hw))
    have vw : ∀ w ∈ r, Gives m_l_is_word [S w] (.bl (tokE w || isLet w)) := fun w hw => ev_lword (sm w (List.mem_cons_of_mem _ hw)) (ok w (List.mem_cons_of_mem _ hw))
    unfold wrongN
    cases hF : fF (strL h) with
    | true =>
      have g := wr_flow ok hF
      by_cases hr : r = []
      · rw [if_pos hr] at g
        simp only [hF, if_true, if_pos hr]
        exact g
      · rw [if_neg hr] at g
        simp only [hF, if_true, if_neg hr]
        exact g
    | false =>
      cases hB : fB (strL h) with
      | true =>
        obtain ⟨hA, hN⟩ := fB_not hB
        have g := wr_bare ok hF hB hA hN
        by_cases hr : r = []
        · rw [if_pos hr] at g
          simp only [hF, hB, if_true, Bool.false_eq_true, if_false, if_pos hr]
          exact g
        · rw [if_neg hr] at g
          simp only [hF, hB, if_true, Bool.false_eq_true, if_false, if_neg hr]
          exact g
      | false =>
        cases hA : fA (strL h) with
        | true =>
          have hx := fA_eq hA
          have g := wr1 (fun w => tokE w || isLet w) (congrArg PV.str hx) ok (by rw [← hx]; exact hF) dk1 tw1 vw
          simp only [hF, hB, hA, if_true, Bool.false_eq_true, if_false]
          cases r with
          | nil => exact g
          | cons w r1 =>
            dsimp only [v1I, v2I] at g ⊢
            cases hw : (tokE w || isLet w) with
            | false => simp only [hw, Bool.false_eq_true, if_false] at g; exact g
            | true =>
              simp only [hw, if_true] at g
              by_cases hr : r1 = []
              · rw [if_pos hr] at g; simp only [hF, hB, hA, if_true, if_pos hr]; exact g
              · rw [if_neg hr] at g; simp only [hF, hB, hA, if_true, if_neg hr]; exact g
        | false =>
          cases hN : fN (strL h) with
          | false =>
            simp only [hF, hB, hA, hN, Bool.false_eq_true, if_false]
            exact wr_none ok hF hB hA hN
          | true =>
            cases hW : fW (strL h) with
            | true =>
              have hx := fW_eq hW
              have g := wr2 (fun w => isNum w 2) (congrArg PV.str hx) ok (by rw [← hx]; exact hF) dk5 tw2 vn
              simp only [hF, hB, hA, hN, hW, if_true, Bool.false_eq_true, if_false]
              cases r with
              | nil => exact g
              | cons w r1 =>
                dsimp only [v1I, v2I] at g ⊢
                cases hw : isNum w 2 with
                | false => simp only [hw, Bool.false_eq_true, if_false] at g; exact g
                | true =>
                  simp only [hw, if_true] at g
                  rw [if_pos rfl]
                  cases r1 with
                  | nil => exact g
                  | cons u r2 =>
                    dsimp only [v1I, v2I] at g ⊢
                    cases hu : isNum u 2 with
                    | false => simp only [hu, Bool.false_eq_true, if_false] at g; exact g
                    | true =>
                      simp only [hu, if_true] at g
                      by_cases hr : r2 = []
                      · rw [if_pos hr] at g; simp only [hF, hB, hA, hN, hW, if_true, if_pos hr]; exact g
                      · rw [if_neg hr] at g; simp only [hF, hB, hA, hN, hW, if_true, if_neg hr]; exact g
            | false =>
              have g : Gives m_l_wrong [.lst ((h :: r).map S)] (.int (v1I (fun w => isNum w 2) r)) := by
                rcases fN_eq hN hW with hx | hx | hx
                · exact wr1 (fun w => isNum w 2) (congrArg PV.str hx) ok (by rw [← hx]; exact hF) dk2 tw2 vn
                · exact wr1 (fun w => isNum w 2) (congrArg PV.str hx) ok (by rw [← hx]; exact hF) dk3 tw2 vn
                · exact wr1 (fun w => isNum w 2) (congrArg PV.str hx) ok (by rw [← hx]; exact hF) dk4 tw2 vn
              simp only [hF, hB, hA, hN, hW, if_true, Bool.false_eq_true, if_false]
              cases r with
              | nil => exact g
              | cons w r1 =>
                dsimp only [v1I, v2I] at g ⊢
                cases hw : isNum w 2 with
                | false => simp only [hw, Bool.false_eq_true, if_false] at g; exact g
                | true =>
                  simp only [hw, if_true] at g
                  by_cases hr : r1 = []
                  · rw [if_pos hr] at g; simp only [hF, hB, hA, hN, hW, if_true, if_pos hr]; exact g
                  · rw [if_neg hr] at g; simp only [hF, hB, hA, hN, hW, if_true, if_neg hr]; exact g
/-! ### the fault of a line, told -/
def faultP (n : Nat) : PV := if n = 0 then .non else .tup [.str "text", .int 1, .int (n : Int)]
theorem mk_bad {t l : Int} : mkFault (bad t l) = some (.tup [.str "text", .int l, .int t]) := by
  unfold mkFault
  rw [if_pos ⟨rfl, rfl⟩]
  rfl
theorem ev_fault {l : List Nat} {n : Nat} (h : Verd l n) : Gives m_l_line_fault [S l] (faultP n) := by
  refine gives_of ?_
  unfold faultP
  rcases h with ⟨rfl, p, h⟩ | ⟨h0, h⟩
  · rw [if_pos rfl]
    simp only [b_l_line_fault, decide_true, decide_false, e_enum0, e_enum1, e_enum2, e_forN, e_forC, e_lpN, e_lpC, e_lpB, e_lpR, e_lpE, e_body, e_gK, e_gSlot, e_gPair, e_asg, e_asgK, e_enum, e_lstP, e_opMap, e_callG, e_cgS, e_cgT, e_disp, e_toldM, e_toldO, e_toldE, e_toldK, e_extend, e_exS, e_exK, e_callO, e_ok, e_err, e_bad, e_okS, e_errS, e_badS, e_nx, e_rt, e_bk, e_ct, e_ex, e_bd, e_bind, e_pure, e_some, e_none, e_op1, e_op2, e_cons, e_test, e_callP, e_if, e_and, e_or, e_not, e_andV, e_orV, e_andT, e_andF, e_orT, e_orF, e_chain, e_chT, e_chF, e_part, e_sl, e_var, e_varF, e_varO, e_look, e_lookF, e_lookO, e_look1, e_argV, e_argS, e_slot, e_slotF, e_slotO, e_call, e_frz, e_lstO, e_listO, e_anyI, e_sThen, e_seq, e_next, e_brk, e_cnt, e_ret, e_drop, e_set, e_setO, e_ifS, e_raise, e_exn, e_for, boolP, partP, List.getElem?_cons_zero, List.getElem?_cons_succ, List.set_cons_zero, List.set_cons_succ, if_true, if_false, Bool.false_eq_true, Bool.not_true, Bool.not_false, e_vrt, e_vnx, e_xer, e_append, e_appS, e_appK, e_aug, e_augS, e_augK, e_pair, e_fr, e_ow, pSz, pLen, pAdd, frzO, sizeLine_eq, List.length_cons, List.length_nil, Nat.reduceAdd, Nat.reduceLeDiff, Nat.reduceLT, Nat.zero_add, Nat.zero_le, Nat.reduceSub, List.nil_append, List.cons_append, List.append_nil, List.map_cons, List.map_nil, List.replicate, c1 h]
  · rw [if_neg (by omega)]
    simp only [b_l_line_fault, decide_true, decide_false, e_enum0, e_enum1, e_enum2, e_forN, e_forC, e_lpN, e_lpC, e_lpB, e_lpR, e_lpE, e_body, e_gK, e_gSlot, e_gPair, e_asg, e_asgK, e_enum, e_lstP, e_opMap, e_callG, e_cgS, e_cgT, e_disp, e_toldM, e_toldO, e_toldE, e_toldK, e_extend, e_exS, e_exK, e_callO, e_ok, e_err, e_bad, e_okS, e_errS, e_badS, e_nx, e_rt, e_bk, e_ct, e_ex, e_bd, e_bind, e_pure, e_some, e_none, e_op1, e_op2, e_cons, e_test, e_callP, e_if, e_and, e_or, e_not, e_andV, e_orV, e_andT, e_andF, e_orT, e_orF, e_chain, e_chT, e_chF, e_part, e_sl, e_var, e_varF, e_varO, e_look, e_lookF, e_lookO, e_look1, e_argV, e_argS, e_slot, e_slotF, e_slotO, e_call, e_frz, e_lstO, e_listO, e_anyI, e_sThen, e_seq, e_next, e_brk, e_cnt, e_ret, e_drop, e_set, e_setO, e_ifS, e_raise, e_exn, e_for, boolP, partP, List.getElem?_cons_zero, List.getElem?_cons_succ, List.set_cons_zero, List.set_cons_succ, if_true, if_false, Bool.false_eq_true, Bool.not_true, Bool.not_false, e_vrt, e_vnx, e_xer, e_append, e_appS, e_appK, e_aug, e_augS, e_augK, e_pair, e_fr, e_ow, pSz, pLen, pAdd, frzO, sizeLine_eq, List.length_cons, List.length_nil, Nat.reduceAdd, Nat.reduceLeDiff, Nat.reduceLT, Nat.zero_add, Nat.zero_le, Nat.reduceSub, List.nil_append, List.cons_append, List.append_nil, List.map_cons, List.map_nil, List.replicate, c1e h, mk_bad]
theorem ev_fault_bad {p : PV} (h : pIsi [p, .ty "str"] = some (.bl false)) : Gives m_l_line_fault [p] (.tup [.str "text", .int 0, .int 0]) := by
  refine gives_of ?_
  have g : Throws m_question_of_text [p] (bad 0 0) := by
    refine throws_of ?_
    simp only [b_question_of_text, decide_true, decide_false, e_enum0, e_enum1, e_enum2, e_forN, e_forC, e_lpN, e_lpC, e_lpB, e_lpR, e_lpE, e_body, e_gK, e_gSlot, e_gPair, e_asg, e_asgK, e_enum, e_lstP, e_opMap, e_callG, e_cgS, e_cgT, e_disp, e_toldM, e_toldO, e_toldE, e_toldK, e_extend, e_exS, e_exK, e_callO, e_ok, e_err, e_bad, e_okS, e_errS, e_badS, e_nx, e_rt, e_bk, e_ct, e_ex, e_bd, e_bind, e_pure, e_some, e_none, e_op1, e_op2, e_cons, e_test, e_callP, e_if, e_and, e_or, e_not, e_andV, e_orV, e_andT, e_andF, e_orT, e_orF, e_chain, e_chT, e_chF, e_part, e_sl, e_var, e_varF, e_varO, e_look, e_lookF, e_lookO, e_look1, e_argV, e_argS, e_slot, e_slotF, e_slotO, e_call, e_frz, e_lstO, e_listO, e_anyI, e_sThen, e_seq, e_next, e_brk, e_cnt, e_ret, e_drop, e_set, e_setO, e_ifS, e_raise, e_exn, e_for, boolP, partP, List.getElem?_cons_zero, List.getElem?_cons_succ, List.set_cons_zero, List.set_cons_succ, if_true, if_false, Bool.false_eq_true, Bool.not_true, Bool.not_false, e_vrt, e_vnx, e_xer, e_append, e_appS, e_appK, e_aug, e_augS, e_augK, e_pair, e_fr, e_ow, pSz, pLen, pAdd, frzO, sizeLine_eq, List.length_cons, List.length_nil, Nat.reduceAdd, Nat.reduceLeDiff, Nat.reduceLT, Nat.zero_add, Nat.zero_le, Nat.reduceSub, List.nil_append, List.cons_append, List.append_nil, List.map_cons, List.map_nil, List.replicate, c1e (ev_string_bad h)]
  simp only [b_l_line_fault, decide_true, decide_false, e_enum0, e_enum1, e_enum2, e_forN, e_forC, e_lpN, e_lpC, e_lpB, e_lpR, e_lpE, e_body, e_gK, e_gSlot, e_gPair, e_asg, e_asgK, e_enum, e_lstP, e_opMap, e_callG, e_cgS, e_cgT, e_disp, e_toldM, e_toldO, e_toldE, e_toldK, e_extend, e_exS, e_exK, e_callO, e_ok, e_err, e_bad, e_okS, e_errS, e_badS, e_nx, e_rt, e_bk, e_ct, e_ex, e_bd, e_bind, e_pure, e_some, e_none, e_op1, e_op2, e_cons, e_test, e_callP, e_if, e_and, e_or, e_not, e_andV, e_orV, e_andT, e_andF, e_orT, e_orF, e_chain, e_chT, e_chF, e_part, e_sl, e_var, e_varF, e_varO, e_look, e_lookF, e_lookO, e_look1, e_argV, e_argS, e_slot, e_slotF, e_slotO, e_call, e_frz, e_lstO, e_listO, e_anyI, e_sThen, e_seq, e_next, e_brk, e_cnt, e_ret, e_drop, e_set, e_setO, e_ifS, e_raise, e_exn, e_for, boolP, partP, List.getElem?_cons_zero, List.getElem?_cons_succ, List.set_cons_zero, List.set_cons_succ, if_true, if_false, Bool.false_eq_true, Bool.not_true, Bool.not_false, e_vrt, e_vnx, e_xer, e_append, e_appS, e_appK, e_aug, e_augS, e_augK, e_pair, e_fr, e_ow, pSz, pLen, pAdd, frzO, sizeLine_eq, List.length_cons, List.length_nil, Nat.reduceAdd, Nat.reduceLeDiff, Nat.reduceLT, Nat.zero_add, Nat.zero_le, Nat.reduceSub, List.nil_append, List.cons_append, List.append_nil, List.map_cons, List.map_nil, List.replicate, c1e g, mk_bad]
end K75

set_option linter.all false
set_option maxRecDepth 100000
set_option maxHeartbeats 2000000
namespace K75
open PySem PySem.Spec PyProof.Rows L2 LamX VS
/-! ### elements of lines -/
def oddB (x : List Nat) : Bool := !fF (strL x) && !fB (strL x) && !fA (strL x) && !fN (strL x) && !isNum x 2 && !tokE x && !isLet x
theorem Odd.of {x : List Nat} (h : oddB x = true) : Odd x := by
  unfold oddB at h
  simp only [Bool.and_eq_true, Bool.not_eq_true'] at h
  obtain ⟨⟨⟨⟨⟨⟨a, b⟩, c⟩, d⟩, e⟩, f⟩, g⟩ := h
  exact ⟨a, b, c, d, e, f, g⟩
def headB : List Nat → Bool
  | [] => false
  | c :: _ => !sp c
def oddHd : List (List Nat) → Bool
  | [] => false
  | a :: _ => oddB a
def elB (e : List Nat) : Bool := headB e && okL e && decide (e.length ≤ 60) && (decide (tk e = [e]) || (oddB e && oddHd (tk e)))
structure Els (e : List Nat) : Prop extends El e where
  sm : e.length ≤ 60
theorem Els.of {e : List Nat} (h : elB e = true) : Els e := by
  unfold elB at h
  simp only [Bool.and_eq_true, Bool.or_eq_true, decide_eq_true_eq] at h
  obtain ⟨⟨⟨h1, h2⟩, h3⟩, h4⟩ := h
  refine ⟨⟨?_, ?_, h2⟩, h3⟩
  · cases e with
    | nil => cases h1
    | cons c r => exact ⟨c, r, rfl, by simpa [headB] using h1⟩
  · rcases h4 with h4 | ⟨h4, h5⟩
    · exact .inl h4
    · refine .inr ⟨.of h4, ?_⟩
      cases ht : tk e with
      | nil => rw [ht] at h5; cases h5
      | cons a r => rw [ht] at h5; exact ⟨a, r, rfl, .of h5⟩
theorem join_len {s : List Nat} {B : Nat} : ∀ {es : List (List Nat)}, (∀ e ∈ es, e.length ≤ B) → (TL.joinL s es).length ≤ es.length * (B + s.length)
  | [], _ => Nat.zero_le _
  | [e], h => by
    have := h e List.mem_cons_self
    show e.length ≤ 1 * (B + s.length)
    omega
  | e :: f :: r, h => by
    have h1 := h e List.mem_cons_self
    have h2 := join_len (s := s) (es := f :: r) fun x hx => h x (List.mem_cons_of_mem _ hx)
    show (e ++ (s ++ TL.joinL s (f :: r))).length ≤ _
    simp only [List.length_append, List.length_cons, Nat.add_mul, Nat.one_mul] at h2 ⊢
    omega
theorem sum_len {B : Nat} : ∀ {es : List (List Nat)}, (∀ e ∈ es, e.length ≤ B) → ((es.map strL).map (·.length)).sum ≤ es.length * B
  | [], _ => Nat.zero_le _
  | e :: r, h => by
    have h1 := h e List.mem_cons_self
    have h2 := sum_len (es := r) fun x hx => h x (List.mem_cons_of_mem _ hx)
    simp only [List.map_cons, List.sum_cons, List.length_cons, strL_len, Nat.add_mul, Nat.one_mul] at h2 ⊢
    omega
theorem strsP_S : ∀ es : List (List Nat), strsP (es.map S) = some (es.map strL)
  | [] => rfl
  | e :: r => by
    show (strsP (r.map S)).map (strL e :: ·) = _
    rw [strsP_S r]; rfl
theorem join_S {s : List Nat} {es : List (List Nat)} (h : ∀ e ∈ es, e.length ≤ 60) (hl : es.length ≤ 1000) (hs : s.length ≤ 100) : pJoin (S s) [.lst (es.map S)] = some (S (TL.joinL s es)) := by
  show (strsP (es.map S)).bind (fun ys => if (ys.map (·.length)).sum + ys.length * (strL s).length ≤ 16777216 then some (PV.str (Txt.join (strL s) ys)) else none) = _
  rw [strsP_S]
  show (if ((es.map strL).map (·.length)).sum + (es.map strL).length * (strL s).length ≤ 16777216 then some (PV.str (Txt.join (strL s) (es.map strL))) else none) = _
  have h1 := sum_len h
  have h2 : (es.map strL).length * (strL s).length ≤ 1000 * 100 := by
    rw [List.length_map, strL_len]
    exact Nat.mul_le_mul hl hs
  rw [if_pos (by omega)]
  exact congrArg (fun z => some (PV.str z)) (SX.join_S s es)
/-! ### numbers and words as texts -/
def nl (n : Nat) : List Nat := cl (strI (n : Int))
theorem S_nl (n : Nat) : S (nl n) = .str (strI (n : Int)) := rfl
theorem nl_all : ∀ n < 100, isNum (nl n) 2 = true ∧ numV (nl n) = (n : Int) ∧ elB (nl n) = true ∧ tk (nl n) = [nl n] ∧ (n : Int).natAbs.log2 < 1920 := by decide +kernel
theorem str_n {n : Nat} (h : n < 100) : pStr [.int (n : Int)] = some (S (nl n)) := by
  show (if (n : Int).natAbs.log2 < 1920 then some (PV.str (strI (n : Int))) else none) = _
  rw [if_pos (nl_all n h).2.2.2.2]; rfl
theorem nl_dig : ∀ n < 10, nl n = [48 + n] := by decide +kernel
def wl (ds : List Nat) : List Nat := ds.map (48 + ·)
theorem dig_fig : ∀ n < 10, 48 + n ∈ figL := by decide +kernel
theorem wl_fig {ds : List Nat} (h : ∀ d ∈ ds, d < 10) : ∀ c ∈ wl ds, c ∈ figL := fun c hc => by
  obtain ⟨d, hd, rfl⟩ := List.mem_map.mp hc
  exact dig_fig d (h d hd)
theorem fig_sp : ∀ c ∈ figL, sp c = false ∧ c < 1114112 ∧ c ≠ 101 := by decide +kernel
theorem wl_els {ds : List Nat} (h : ∀ d ∈ ds, d < 10) (h0 : ds ≠ []) (hl : ds.length ≤ 8) : Els (wl ds) ∧ tk (wl ds) = [wl ds] ∧ tokE (wl ds) = false ∧ isLet (wl ds) = true := by
  have hf := wl_fig h
  have hn : wl ds ≠ [] := fun z => h0 (List.map_eq_nil_iff.mp z)
  have ht := tk_tok (fig_tok hn hf)
  have hlen : (wl ds).length ≤ 60 := by unfold wl; rw [List.length_map]; omega
  refine ⟨⟨⟨?_, .inl ht, ?_⟩, hlen⟩, ht, ?_, ?_⟩
  · cases e : wl ds with
    | nil => exact (hn e).elim
    | cons c r => exact ⟨c, r, rfl, (fig_sp c (hf c (by rw [e]; exact List.mem_cons_self))).1⟩
  · unfold okL
    rw [List.all_eq_true]
    exact fun c hc => decide_eq_true (fig_sp c (hf c hc)).2.1
  · unfold tokE
    refine decide_eq_false fun z => ?_
    exact (fig_sp 101 (hf 101 (by rw [z]; exact List.mem_cons_self))).2.2 rfl
  · unfold isLet
    rw [decide_eq_true hn, decide_eq_true hlen, Bool.and_self, Bool.true_and, List.all_eq_true]
    exact fun c hc => decide_eq_true (hf c hc)
theorem wl_val (ds : List Nat) : wordV (wl ds) = ds.map fun (d : Nat) => PV.int (d : Int) := by
  unfold wordV wl
  rw [List.map_map]
  refine List.map_congr_left fun d _ => ?_
  show PV.int (((48 + d : Nat) : Int) - 48) = PV.int (d : Int)
  congr 1
  omega
theorem join_dig : ∀ {ds : List Nat}, (∀ d ∈ ds, d < 10) → TL.joinL [] (ds.map nl) = wl ds
  | [], _ => rfl
  | [d], h => by
    show nl d = [48 + d]
    exact nl_dig d (h d List.mem_cons_self)
  | d :: f :: r, h => by
    show nl d ++ ([] ++ TL.joinL [] ((f :: r).map nl)) = _
    rw [join_dig fun x hx => h x (List.mem_cons_of_mem _ hx), nl_dig d (h d List.mem_cons_self)]; rfl
/-! ### what a right line tells -/
inductive QD : List (List Nat) → PV → Prop
  | bare {h : List Nat} (F : fF (strL h) = false) (B : fB (strL h) = true) (t : tk h = [h]) : QD [h] (.tup [S h])
  | word {h : List Nat} {ds : List Nat} (F : fF (strL h) = false) (B : fB (strL h) = false) (A : fA (strL h) = true) (t : tk h = [h]) (d : ∀ d ∈ ds, d < 10) (h0 : ds ≠ []) (hl : ds.length ≤ 8) : QD [h, wl ds] (.tup [S h, .tup (ds.map fun (d : Nat) => PV.int (d : Int))])
  | none {h : List Nat} (F : fF (strL h) = false) (B : fB (strL h) = false) (A : fA (strL h) = true) (t : tk h = [h]) : QD [h, [101]] (.tup [S h, .tup []])
  | num {h : List Nat} {n : Nat} (H : NumHead h) (W : fW (strL h) = false) (t : tk h = [h]) (hn : n < 100) : QD [h, nl n] (.tup [S h, .int (n : Int)])
  | two {h : List Nat} {n m : Nat} (H : NumHead h) (W : fW (strL h) = true) (t : tk h = [h]) (hn : n < 100) (hm : m < 100) : QD [h, nl n, nl m] (.tup [S h, .int (n : Int), .int (m : Int)])
  | flow {h x : List Nat} (F : fF (strL h) = true) (t : tk h = [h]) (hd : ∃ c r, x = c :: r ∧ sp c = false) : QD [h, x] (.tup [S h, .str (Txt.replace (strL x) ";" "\n")])
structure Right (es : List (List Nat)) (d : PV) : Prop where
  q : QD es d
  els : ∀ e ∈ es, Els e
  len : 1 ≤ es.length ∧ es.length ≤ 3
def rl (k : Nat) (es : List (List Nat)) (m : Nat) : List Nat := List.replicate k 32 ++ TL.joinL [32, 32] es ++ List.replicate m 32
theorem rl_tk {k m : Nat} {es : List (List Nat)} : tk (rl k es m) = es.flatMap tk := by
  unfold rl
  rw [tk_trail, tk_lead, tk_ln2]
theorem rl_line {k m : Nat} {es : List (List Nat)} (E : ∀ e ∈ es, Els e) (hl : es.length ≤ 3) (hk : k ≤ 10) (hm : m ≤ 10) : Line (rl k es m) (es.flatMap tk) := by
  have h1 := join_len (s := [32, 32]) (B := 60) fun e he => (E e he).sm
  refine ⟨?_, ?_, by rw [toks_tk, rl_tk]⟩
  · unfold rl
    rw [List.length_append, List.length_append, List.length_replicate, List.length_replicate]
    have : es.length * (60 + [32, 32].length) ≤ 3 * 62 := Nat.mul_le_mul hl (by decide)
    omega
  · have h2 : ∀ n, okL (List.replicate n 32) = true := fun n => by
      unfold okL
      rw [List.all_eq_true]
      intro c hc
      rw [(List.mem_replicate.mp hc).2]
      decide
    have h3 : okL (TL.joinL [32, 32] es) = true := ok_join (by decide) fun e he => (E e he).ok
    unfold rl
    have h4 := h2 k
    have h5 := h2 m
    unfold okL at *
    rw [List.all_append, List.all_append, h3, h4, h5]; rfl
theorem lead_drop (l : List Nat) : ∀ k, (List.replicate k 32 ++ l).dropWhile sp = l.dropWhile sp
  | 0 => rfl
  | k + 1 => by
    rw [List.replicate_succ, List.cons_append, List.dropWhile_cons, show sp 32 = true from rfl, if_pos rfl, lead_drop l k]
theorem ev_right {es : List (List Nat)} {d : PV} {k m : Nat} (R : Right es d) (hk : k ≤ 10) (hm : m ≤ 10) (hf : fF (strL (es.headD [])) = true → m = 0) : Gives m_question_of_text [S (rl k es m)] d := by
  obtain ⟨q, els, l1, l2⟩ := R
  have L := rl_line els l2 hk hm
  cases q with
  | bare F B t =>
    rename_i h
    rw [show [h].flatMap tk = [h] by simp [t]] at L
    exact ev_q_bare L F B
  | word F B A t dd h0 hl =>
    rename_i h ds
    obtain ⟨_, e2, e3, e4⟩ := wl_els dd h0 hl
    rw [show [h, wl ds].flatMap tk = [h, wl ds] by simp [t, e2]] at L
    have g := ev_readword (ts := [h, wl ds]) (i := 1) (line := 1) rfl (L.small _ (List.mem_cons_of_mem _ List.mem_cons_self)) e3 e4
    rw [wl_val] at g
    exact ev_q_word L rfl F B A g
  | none F B A t =>
    rename_i h
    rw [show [h, [101]].flatMap tk = [h, [101]] by
      have : tk [101] = [[101]] := by decide +kernel
      simp [t, this]] at L
    exact ev_q_word L rfl F B A (ev_readword_e (ts := [h, [101]]) (i := 1) (line := 1) rfl (by decide))
  | num H W t hn =>
    rename_i h n
    obtain ⟨e1, e2, e3, e4, _⟩ := nl_all n hn
    rw [show [h, nl n].flatMap tk = [h, nl n] by simp [t, e4]] at L
    have g := ev_q_num L H W (t := nl n) rfl e1 rfl
    rw [e2] at g
    exact g
  | two H W t hn hm =>
    rename_i h n n2
    obtain ⟨e1, e2, e3, e4, _⟩ := nl_all n hn
    obtain ⟨f1, f2, f3, f4, _⟩ := nl_all n2 hm
    rw [show [h, nl n, nl n2].flatMap tk = [h, nl n, nl n2] by simp [t, e4, f4]] at L
    have g := ev_q_two L H W (t := nl n) (u := nl n2) rfl e1 rfl f1 rfl
    rw [e2, f2] at g
    exact g
  | flow F t hd =>
    rename_i h x
    obtain rfl : m = 0 := hf F
    rw [show [h, x].flatMap tk = h :: tk x by simp [t]] at L
    obtain ⟨c, r, rfl, hc⟩ := hd
    obtain ⟨c2, r2, eh, hc2⟩ := (els h List.mem_cons_self).hd
    have er : restL (rl k [h, c :: r] 0) h.length = c :: r := by
      unfold restL rl
      rw [List.replicate_zero, List.append_nil, lead_drop]
      show (((h ++ (32 :: 32 :: (c :: r))).dropWhile sp).drop h.length).dropWhile sp = _
      have e1 : (h ++ (32 :: 32 :: (c :: r))).dropWhile sp = h ++ (32 :: 32 :: (c :: r)) := by
        rw [eh]
        exact dropW_head hc2
      rw [e1, List.drop_left, List.dropWhile_cons, show sp 32 = true from rfl, if_pos rfl, List.dropWhile_cons, show sp 32 = true from rfl, if_pos rfl, dropW_head hc]
    have g := ev_q_flow L F (by rw [er, List.all_cons, hc]; rfl)
    rw [er] at g
    exact g
end K75

set_option linter.all false
set_option maxRecDepth 100000
set_option maxHeartbeats 2000000
namespace K75
open PySem PySem.Spec PyProof.Rows L2 LamX VS
/-! ### a drawn question -/
def heads : List Str := ["barred", "rooms", "period", "ring", "zeta", "least", "parts", "sign", "allowed", "allowed", "count", "closed", "rate", "below", "flow", "sided"]
def texts : List Str := ["ways 1;row 2", "letters 2;barred 11", "?", "ways", ";"]
theorem heads_ok : ∀ x ∈ heads, tk (cl x) = [cl x] ∧ elB (cl x) = true ∧ ((fB x = true ∧ fF x = false) ∨ (x == "allowed") = true ∨ ((x == "below") = true) ∨ (fF x = true ∧ fB x = false ∧ (x == "allowed") = false ∧ (x == "below") = false) ∨ (fN x = true ∧ (x == "below") = false ∧ (x == "allowed") = false ∧ fF x = false ∧ fB x = false)) := by decide +kernel
theorem texts_ok : ∀ x ∈ texts, elB (cl x) = true ∧ x.length ≤ 60 := by decide +kernel
theorem S_cl (x : Str) : S (cl x) = .str x := rfl
theorem inB_of {x : Str} : pIn (.str x) (.lst [.str "barred", .str "rooms", .str "period", .str "ring", .str "zeta", .str "least", .str "parts", .str "sign"]) = some (.bl (fB x)) := in_lst [("barred" : Str), "rooms", "period", "ring", "zeta", "least", "parts", "sign"]
theorem toDs_ints : ∀ ds : List Nat, toDs (ds.map fun (d : Nat) => PV.int (d : Int)) = some (ds.map fun (d : Nat) => PyData.int (d : Int))
  | [] => rfl
  | s :: ss => by
    rw [List.map_cons, toDs]
    show (toDs (ss.map fun (d : Nat) => PV.int (d : Int))).map (PyData.int s :: ·) = _
    rw [toDs_ints ss]; rfl
theorem lay_ints : ∀ ds : List Nat, PyData.canLayAll0 (ds.map fun (d : Nat) => PyData.int (d : Int)) = true ∧ PyData.depthAll (ds.map fun (d : Nat) => PyData.int (d : Int)) = 0
  | [] => ⟨rfl, rfl⟩
  | s :: ss => by
    obtain ⟨h1, h2⟩ := lay_ints ss
    rw [List.map_cons, PyData.canLayAll0, PyData.depthAll, h1, h2]
    exact ⟨rfl, rfl⟩
theorem ne_unit (ds : List Nat) : pNe (.tup (ds.map fun (d : Nat) => PV.int (d : Int))) (.tup []) = some (.bl (!ds.isEmpty)) := by
  have e : toD (.tup (ds.map fun (d : Nat) => PV.int (d : Int))) = some (.tuple (ds.map fun (d : Nat) => PyData.int (d : Int))) := by
    rw [toD, toDs_ints]; rfl
  obtain ⟨h1, h2⟩ := lay_ints ds
  have sh : SeqAt.shaped (.tuple (ds.map fun (d : Nat) => PyData.int (d : Int))) = true := by
    unfold SeqAt.shaped
    rw [Bool.and_eq_true]
    refine ⟨h1, decide_eq_true ?_⟩
    show PyData.depthAll _ + 1 ≤ 64
    rw [h2]; omega
  show dNe _ (.tup []) = _
  unfold dNe
  rw [e]
  show (if SeqAt.shaped (.tuple (ds.map fun (d : Nat) => PyData.int (d : Int))) && SeqAt.shaped (.tuple []) then some (PV.bl (!PyData.eqv (.tuple (ds.map fun (d : Nat) => PyData.int (d : Int))) (.tuple []))) else none) = _
  rw [sh, if_pos (by rfl)]
  cases ds <;> rfl
theorem nat_of {n : Int} {m : Nat} (h0 : 0 ≤ n) (h : n < m) : ∃ k : Nat, n = k ∧ k < m := by
  obtain ⟨k, rfl⟩ := Int.eq_ofNat_of_zero_le h0
  exact ⟨k, rfl, by omega⟩
/-- the drawn letters of a word -/
abbrev cpW : M OV := mComp [6] (mRange1 (mCall m_l_draw (mArgS 0 (mArgV (M.pure (.int 9)) (M.pure []))))) (gSlot 6) (M.pure true) (mCall m_l_draw (mArgS 0 (mArgV (M.pure (.int 10)) (M.pure []))))
theorem ev_word_drawn {o : OV} {a b : Sl} (P : Pen o) : ∃ (ds : List Nat) (o' : OV), cpW [.ow o, a, b, .no, .no, .no, .no, .no] = .ok (.lst (ds.map fun (d : Nat) => PV.int (d : Int))) [.ow o', a, b, .no, .no, .no, .no, .no] ∧ Pen o' ∧ (∀ d ∈ ds, d < 10) ∧ ds.length ≤ 8 := by
  obtain ⟨n, o1, h1, P1, n0, n1⟩ := ev_draw (m := 9) P (by decide) (by decide)
  obtain ⟨k, rfl, hk⟩ := nat_of (m := 9) n0 n1
  have hr : mRange1 (mCall m_l_draw (mArgS 0 (mArgV (M.pure (.int 9)) (M.pure [])))) [.ow o, a, b, .no, .no, .no, .no, .no] = .ok ((List.range k).map fun (k : Nat) => PV.int (k : Int)) [.ow o1, a, b, .no, .no, .no, .no, .no] := by
    simp only [e_range1, decide_true, decide_false, e_enum0, e_enum1, e_enum2, e_forN, e_forC, e_lpN, e_lpC, e_lpB, e_lpR, e_lpE, e_body, e_gK, e_gSlot, e_gPair, e_asg, e_asgK, e_enum, e_lstP, e_opMap, e_callG, e_cgS, e_cgT, e_disp, e_toldM, e_toldO, e_toldE, e_toldK, e_extend, e_exS, e_exK, e_callO, e_ok, e_err, e_bad, e_okS, e_errS, e_badS, e_nx, e_rt, e_bk, e_ct, e_ex, e_bd, e_bind, e_pure, e_some, e_none, e_op1, e_op2, e_cons, e_test, e_callP, e_if, e_and, e_or, e_not, e_andV, e_orV, e_andT, e_andF, e_orT, e_orF, e_chain, e_chT, e_chF, e_part, e_sl, e_var, e_varF, e_varO, e_look, e_lookF, e_lookO, e_look1, e_argV, e_argS, e_slot, e_slotF, e_slotO, e_call, e_frz, e_lstO, e_listO, e_anyI, e_sThen, e_seq, e_next, e_brk, e_cnt, e_ret, e_drop, e_set, e_setO, e_ifS, e_raise, e_exn, e_for, boolP, partP, List.getElem?_cons_zero, List.getElem?_cons_succ, List.set_cons_zero, List.set_cons_succ, if_true, if_false, Bool.false_eq_true, Bool.not_true, Bool.not_false, e_vrt, e_vnx, e_xer, e_append, e_appS, e_appK, e_aug, e_augS, e_augK, e_pair, e_fr, e_ow, pSz, pLen, pAdd, frzO, sizeLine_eq, List.length_cons, List.length_nil, Nat.reduceAdd, Nat.reduceLeDiff, Nat.reduceLT, Nat.zero_add, Nat.zero_le, Nat.reduceSub, List.nil_append, List.cons_append, List.append_nil, List.map_cons, List.map_nil, List.replicate, d1 h1, rng_len (show k ≤ 16777216 by omega)]
  obtain ⟨acc, ρ', e, o2, s, P2, rfl, ds, rfl, hd, hl⟩ := comp_inv (vs := [6]) (g := gSlot 6) (c := M.pure true) (e := mCall m_l_draw (mArgS 0 (mArgV (M.pure (.int 10)) (M.pure []))))
    (fun ps acc ρ => ∃ o2 s, Pen o2 ∧ ρ = [.ow o2, a, b, .no, .no, .no, s, .no] ∧ ∃ ds : List Nat, acc = (ds.map fun (d : Nat) => PV.int (d : Int)) ∧ (∀ d ∈ ds, d < 10) ∧ ds.length + ps.length = k)
    hr ⟨o1, .no, P1, rfl, [], rfl, (fun d h => nomatch h), by simp⟩ (by rw [List.length_map, List.length_range, sizeLine_eq]; omega) (by
      rintro p ps acc ρ ⟨o2, s, P2, rfl, ds, rfl, hd, hl⟩
      obtain ⟨n, o3, h3, P3, n0, n1⟩ := ev_draw (m := 10) P2 (by decide) (by decide)
      obtain ⟨j, rfl, hj⟩ := nat_of (m := 10) n0 n1
      refine ⟨[.ow o2, a, b, .no, .no, .no, .fr p, .no], true, [.ow o2, a, b, .no, .no, .no, .fr p, .no], rfl, rfl, (fun z => nomatch z), fun _ => ⟨.int (j : Int), [.ow o3, a, b, .no, .no, .no, .fr p, .no], ?_, o3, .fr p, P3, rfl, ds ++ [j], by simp, ?_, ?_⟩⟩
      · simp only [decide_true, decide_false, e_enum0, e_enum1, e_enum2, e_forN, e_forC, e_lpN, e_lpC, e_lpB, e_lpR, e_lpE, e_body, e_gK, e_gSlot, e_gPair, e_asg, e_asgK, e_enum, e_lstP, e_opMap, e_callG, e_cgS, e_cgT, e_disp, e_toldM, e_toldO, e_toldE, e_toldK, e_extend, e_exS, e_exK, e_callO, e_ok, e_err, e_bad, e_okS, e_errS, e_badS, e_nx, e_rt, e_bk, e_ct, e_ex, e_bd, e_bind, e_pure, e_some, e_none, e_op1, e_op2, e_cons, e_test, e_callP, e_if, e_and, e_or, e_not, e_andV, e_orV, e_andT, e_andF, e_orT, e_orF, e_chain, e_chT, e_chF, e_part, e_sl, e_var, e_varF, e_varO, e_look, e_lookF, e_lookO, e_look1, e_argV, e_argS, e_slot, e_slotF, e_slotO, e_call, e_frz, e_lstO, e_listO, e_anyI, e_sThen, e_seq, e_next, e_brk, e_cnt, e_ret, e_drop, e_set, e_setO, e_ifS, e_raise, e_exn, e_for, boolP, partP, List.getElem?_cons_zero, List.getElem?_cons_succ, List.set_cons_zero, List.set_cons_succ, if_true, if_false, Bool.false_eq_true, Bool.not_true, Bool.not_false, e_vrt, e_vnx, e_xer, e_append, e_appS, e_appK, e_aug, e_augS, e_augK, e_pair, e_fr, e_ow, pSz, pLen, pAdd, frzO, sizeLine_eq, List.length_cons, List.length_nil, Nat.reduceAdd, Nat.reduceLeDiff, Nat.reduceLT, Nat.zero_add, Nat.zero_le, Nat.reduceSub, List.nil_append, List.cons_append, List.append_nil, List.map_cons, List.map_nil, List.replicate, d1 h3]
      · intro d hdd
        rcases List.mem_append.mp hdd with h | h
        · exact hd d h
        · obtain rfl := List.mem_singleton.mp h; exact hj
      · simp only [List.length_append, List.length_cons, List.length_nil] at hl ⊢
        omega)
  refine ⟨ds, o2, e.trans rfl, P2, hd, ?_⟩
  simp only [List.length_nil] at hl
  omega
def strF (p : PV) : PV := (pStr [p]).getD .non
theorem strF_int {n : Nat} (h : n < 100) : strF (.int (n : Int)) = S (nl n) := by unfold strF; rw [str_n h]; rfl
theorem cpS_eq {ds : List Nat} {o : OV} {a b c d e : Sl} (hd : ∀ d ∈ ds, d < 10) (hl : ds.length ≤ 8) : mComp [7] (mAnyI (mVar 3)) (gSlot 7) (M.pure true) (mCallP pStr (mCons (mVar 7) (M.pure []))) [.ow o, a, b, .fr (.tup (ds.map fun (d : Nat) => PV.int (d : Int))), c, d, e, .no] = .ok (.lst ((ds.map nl).map S)) [.ow o, a, b, .fr (.tup (ds.map fun (d : Nat) => PV.int (d : Int))), c, d, e, .no] := by
  have hr : mAnyI (mVar 3) [.ow o, a, b, .fr (.tup (ds.map fun (d : Nat) => PV.int (d : Int))), c, d, e, .no] = .ok (ds.map fun (d : Nat) => PV.int (d : Int)) [.ow o, a, b, .fr (.tup (ds.map fun (d : Nat) => PV.int (d : Int))), c, d, e, .no] := by
    simp only [decide_true, decide_false, e_enum0, e_enum1, e_enum2, e_forN, e_forC, e_lpN, e_lpC, e_lpB, e_lpR, e_lpE, e_body, e_gK, e_gSlot, e_gPair, e_asg, e_asgK, e_enum, e_lstP, e_opMap, e_callG, e_cgS, e_cgT, e_disp, e_toldM, e_toldO, e_toldE, e_toldK, e_extend, e_exS, e_exK, e_callO, e_ok, e_err, e_bad, e_okS, e_errS, e_badS, e_nx, e_rt, e_bk, e_ct, e_ex, e_bd, e_bind, e_pure, e_some, e_none, e_op1, e_op2, e_cons, e_test, e_callP, e_if, e_and, e_or, e_not, e_andV, e_orV, e_andT, e_andF, e_orT, e_orF, e_chain, e_chT, e_chF, e_part, e_sl, e_var, e_varF, e_varO, e_look, e_lookF, e_lookO, e_look1, e_argV, e_argS, e_slot, e_slotF, e_slotO, e_call, e_frz, e_lstO, e_listO, e_anyI, e_sThen, e_seq, e_next, e_brk, e_cnt, e_ret, e_drop, e_set, e_setO, e_ifS, e_raise, e_exn, e_for, boolP, partP, List.getElem?_cons_zero, List.getElem?_cons_succ, List.set_cons_zero, List.set_cons_succ, if_true, if_false, Bool.false_eq_true, Bool.not_true, Bool.not_false, e_vrt, e_vnx, e_xer, e_append, e_appS, e_appK, e_aug, e_augS, e_augK, e_pair, e_fr, e_ow, pSz, pLen, pAdd, frzO, sizeLine_eq, List.length_cons, List.length_nil, Nat.reduceAdd, Nat.reduceLeDiff, Nat.reduceLT, Nat.zero_add, Nat.zero_le, Nat.reduceSub, List.nil_append, List.cons_append, List.append_nil, List.map_cons, List.map_nil, List.replicate]; rfl
  have := comp_all (vs := [7]) (g := gSlot 7) (e := mCallP pStr (mCons (mVar 7) (M.pure []))) strF hr (by rw [List.length_map, sizeLine_eq]; omega) fun p hp => by
    obtain ⟨j, hj, rfl⟩ := List.mem_map.mp hp
    have h100 : j < 100 := by have := hd j hj; omega
    refine ⟨[.ow o, a, b, .fr (.tup (ds.map fun (d : Nat) => PV.int (d : Int))), c, d, e, .fr (.int (j : Int))], [.ow o, a, b, .fr (.tup (ds.map fun (d : Nat) => PV.int (d : Int))), c, d, e, .fr (.int (j : Int))], rfl, ?_, rfl⟩
    simp only [decide_true, decide_false, e_enum0, e_enum1, e_enum2, e_forN, e_forC, e_lpN, e_lpC, e_lpB, e_lpR, e_lpE, e_body, e_gK, e_gSlot, e_gPair, e_asg, e_asgK, e_enum, e_lstP, e_opMap, e_callG, e_cgS, e_cgT, e_disp, e_toldM, e_toldO, e_toldE, e_toldK, e_extend, e_exS, e_exK, e_callO, e_ok, e_err, e_bad, e_okS, e_errS, e_badS, e_nx, e_rt, e_bk, e_ct, e_ex, e_bd, e_bind, e_pure, e_some, e_none, e_op1, e_op2, e_cons, e_test, e_callP, e_if, e_and, e_or, e_not, e_andV, e_orV, e_andT, e_andF, e_orT, e_orF, e_chain, e_chT, e_chF, e_part, e_sl, e_var, e_varF, e_varO, e_look, e_lookF, e_lookO, e_look1, e_argV, e_argS, e_slot, e_slotF, e_slotO, e_call, e_frz, e_lstO, e_listO, e_anyI, e_sThen, e_seq, e_next, e_brk, e_cnt, e_ret, e_drop, e_set, e_setO, e_ifS, e_raise, e_exn, e_for, boolP, partP, List.getElem?_cons_zero, List.getElem?_cons_succ, List.set_cons_zero, List.set_cons_succ, if_true, if_false, Bool.false_eq_true, Bool.not_true, Bool.not_false, e_vrt, e_vnx, e_xer, e_append, e_appS, e_appK, e_aug, e_augS, e_augK, e_pair, e_fr, e_ow, pSz, pLen, pAdd, frzO, sizeLine_eq, List.length_cons, List.length_nil, Nat.reduceAdd, Nat.reduceLeDiff, Nat.reduceLT, Nat.zero_add, Nat.zero_le, Nat.reduceSub, List.nil_append, List.cons_append, List.append_nil, List.map_cons, List.map_nil, List.replicate, str_n h100, strF_int h100]
  refine this.trans ?_
  rw [List.map_map, List.map_map]
  have e : ds.map (strF ∘ fun (d : Nat) => PV.int (d : Int)) = ds.map (S ∘ nl) := List.map_congr_left fun j hj => strF_int (by have := hd j hj; omega)
  rw [e]
  rfl
theorem repl_ok {x : Str} (h : x.length ≤ 60) : pRepl ";" "\n" (.str x) = some (.str (Txt.replace x ";" "\n")) := by
  show (if x.length + (x.length + 1) * ("\n" : Str).length ≤ 16777216 then some (PV.str (Txt.replace x ";" "\n")) else none) = _
  rw [if_pos (by rw [show ("\n" : Str).length = 1 by decide +kernel]; omega)]
theorem ev_question {o : OV} (P : Pen o) : ∃ es d o', Moves m_l_question [] o (.tup [.lst (es.map S), d]) o' ∧ Pen o' ∧ Right es d := by
  obtain ⟨p, o1, h1, P1, hp⟩ := ev_pick (ps := heads.map PV.str) P (by decide) (by decide)
  obtain ⟨x, hx, rfl⟩ := List.mem_map.mp hp
  have h1 : Moves m_l_pick [.lst [.str "barred", .str "rooms", .str "period", .str "ring", .str "zeta", .str "least", .str "parts", .str "sign", .str "allowed", .str "allowed", .str "count", .str "closed", .str "rate", .str "below", .str "flow", .str "sided"]] o (.str x) o1 := h1
  obtain ⟨n, o2, h2, P2, n0, n1⟩ := ev_draw (m := 100) P1 (by decide) (by decide)
  obtain ⟨k, rfl, hk⟩ := nat_of (m := 100) n0 n1
  obtain ⟨t, el, cs⟩ := heads_ok x hx
  have Eh : Els (cl x) := .of el
  have c0b := fun ρ => c0 (ρ := ρ) ev_bare
  have stx : strL (cl x) = x := rfl
  obtain ⟨N1, N2, N3, N4, N5⟩ := nl_all k hk
  have el1 : ∀ e ∈ [cl x], Els e := fun e he => by obtain rfl := List.mem_singleton.mp he; exact Eh
  have el2 : ∀ {w : List Nat}, Els w → ∀ e ∈ [cl x, w], Els e := fun hw e he => by
    rcases List.mem_cons.mp he with rfl | he
    · exact Eh
    · obtain rfl := List.mem_singleton.mp he; exact hw
  rcases cs with ⟨hB, hF⟩ | hA | hW | ⟨hF, hB, hA, hW⟩ | ⟨hN, hW, hA, hF, hB⟩
  · refine ⟨[cl x], .tup [.str x], o2, moves_of (by rfl) (r := [.fr (.str x), .fr (.int k), .no, .no, .no, .no, .no]) ?_, P2, ⟨.bare hF hB t, el1, by simp⟩⟩
    simp only [b_l_question, decide_true, decide_false, e_enum0, e_enum1, e_enum2, e_forN, e_forC, e_lpN, e_lpC, e_lpB, e_lpR, e_lpE, e_body, e_gK, e_gSlot, e_gPair, e_asg, e_asgK, e_enum, e_lstP, e_opMap, e_callG, e_cgS, e_cgT, e_disp, e_toldM, e_toldO, e_toldE, e_toldK, e_extend, e_exS, e_exK, e_callO, e_ok, e_err, e_bad, e_okS, e_errS, e_badS, e_nx, e_rt, e_bk, e_ct, e_ex, e_bd, e_bind, e_pure, e_some, e_none, e_op1, e_op2, e_cons, e_test, e_callP, e_if, e_and, e_or, e_not, e_andV, e_orV, e_andT, e_andF, e_orT, e_orF, e_chain, e_chT, e_chF, e_part, e_sl, e_var, e_varF, e_varO, e_look, e_lookF, e_lookO, e_look1, e_argV, e_argS, e_slot, e_slotF, e_slotO, e_call, e_frz, e_lstO, e_listO, e_anyI, e_sThen, e_seq, e_next, e_brk, e_cnt, e_ret, e_drop, e_set, e_setO, e_ifS, e_raise, e_exn, e_for, boolP, partP, List.getElem?_cons_zero, List.getElem?_cons_succ, List.set_cons_zero, List.set_cons_succ, if_true, if_false, Bool.false_eq_true, Bool.not_true, Bool.not_false, e_vrt, e_vnx, e_xer, e_append, e_appS, e_appK, e_aug, e_augS, e_augK, e_pair, e_fr, e_ow, pSz, pLen, pAdd, frzO, sizeLine_eq, List.length_cons, List.length_nil, Nat.reduceAdd, Nat.reduceLeDiff, Nat.reduceLT, Nat.zero_add, Nat.zero_le, Nat.reduceSub, List.nil_append, List.cons_append, List.append_nil, List.map_cons, List.map_nil, List.replicate, c0b, d1 h1, d1 h2, inB_of, hB, S_cl]
  · obtain rfl := eq_of_beq hA
    have hB : fB "allowed" = false := by decide +kernel
    have hF : fF "allowed" = false := by decide +kernel
    have hA' : fA (strL (cl "allowed")) = true := hA
    obtain ⟨ds, o3, h3, P3, hd, hl⟩ := ev_word_drawn (a := .fr (.str "allowed")) (b := .fr (.int k)) P2
    cases hds : ds with
    | nil =>
      subst hds
      simp only [List.map_nil] at h3
      have ne : pNe (.tup []) (.tup []) = some (.bl false) := ne_unit []
      refine ⟨[cl "allowed", [101]], .tup [.str "allowed", .tup []], o3, moves_of (by rfl) (r := [.fr (.str "allowed"), .fr (.int k), .fr (.tup []), .no, .no, .no, .no]) ?_, P3, ⟨.none hF hB hA' t, el2 (.of (by decide +kernel)), by simp⟩⟩
      have se : S [101] = .str "e" := congrArg PV.str (by decide +kernel)
      simp only [b_l_question, decide_true, decide_false, e_enum0, e_enum1, e_enum2, e_forN, e_forC, e_lpN, e_lpC, e_lpB, e_lpR, e_lpE, e_body, e_gK, e_gSlot, e_gPair, e_asg, e_asgK, e_enum, e_lstP, e_opMap, e_callG, e_cgS, e_cgT, e_disp, e_toldM, e_toldO, e_toldE, e_toldK, e_extend, e_exS, e_exK, e_callO, e_ok, e_err, e_bad, e_okS, e_errS, e_badS, e_nx, e_rt, e_bk, e_ct, e_ex, e_bd, e_bind, e_pure, e_some, e_none, e_op1, e_op2, e_cons, e_test, e_callP, e_if, e_and, e_or, e_not, e_andV, e_orV, e_andT, e_andF, e_orT, e_orF, e_chain, e_chT, e_chF, e_part, e_sl, e_var, e_varF, e_varO, e_look, e_lookF, e_lookO, e_look1, e_argV, e_argS, e_slot, e_slotF, e_slotO, e_call, e_frz, e_lstO, e_listO, e_anyI, e_sThen, e_seq, e_next, e_brk, e_cnt, e_ret, e_drop, e_set, e_setO, e_ifS, e_raise, e_exn, e_for, boolP, partP, List.getElem?_cons_zero, List.getElem?_cons_succ, List.set_cons_zero, List.set_cons_succ, if_true, if_false, Bool.false_eq_true, Bool.not_true, Bool.not_false, e_vrt, e_vnx, e_xer, e_append, e_appS, e_appK, e_aug, e_augS, e_augK, e_pair, e_fr, e_ow, pSz, pLen, pAdd, frzO, sizeLine_eq, List.length_cons, List.length_nil, Nat.reduceAdd, Nat.reduceLeDiff, Nat.reduceLT, Nat.zero_add, Nat.zero_le, Nat.reduceSub, List.nil_append, List.cons_append, List.append_nil, List.map_cons, List.map_nil, List.replicate, c0b, d1 h1, d1 h2, inB_of, hB, S_cl, q_eqS, hA, h3, tupOf, ne, se]
    | cons d r =>
      have h0 : ds ≠ [] := by rw [hds]; exact List.cons_ne_nil _ _
      have ne : pNe (.tup (ds.map fun (d : Nat) => PV.int (d : Int))) (.tup []) = some (.bl true) := by
        rw [ne_unit, hds]; rfl
      obtain ⟨W1, W2, W3, W4⟩ := wl_els hd h0 hl
      refine ⟨[cl "allowed", wl ds], .tup [.str "allowed", .tup (ds.map fun (d : Nat) => PV.int (d : Int))], o3, moves_of (by rfl) (r := [.fr (.str "allowed"), .fr (.int k), .fr (.tup (ds.map fun (d : Nat) => PV.int (d : Int))), .no, .no, .no, .no]) ?_, P3, ⟨.word hF hB hA' t hd h0 hl, el2 W1, by simp⟩⟩
      have jn : pJoin (.str "") [.lst ((ds.map nl).map S)] = some (S (wl ds)) := by
        have e : ("" : Str) = strL [] := by decide +kernel
        rw [e, ← join_dig hd]
        exact join_S (fun e he => by obtain ⟨j, hj, rfl⟩ := List.mem_map.mp he; have := (Els.of (nl_all j (by have := hd j hj; omega)).2.2.1).sm; exact this) (by rw [List.length_map]; omega) (by decide)
      have ej : ∀ a b, mM1 pJoin (M.pure (.str "")) (mFrzM (mComp [7] (mAnyI (mVar 3)) (gSlot 7) (M.pure true) (mCallP pStr (mCons (mVar 7) (M.pure []))))) [.ow o3, a, b, .fr (.tup (ds.map fun (d : Nat) => PV.int (d : Int))), .no, .no, .no, .no] = .ok (S (wl ds)) [.ow o3, a, b, .fr (.tup (ds.map fun (d : Nat) => PV.int (d : Int))), .no, .no, .no, .no] := fun a b => by
        rw [e_m1 (o := M.pure (.str "")) (z := "") (ρ' := [.ow o3, a, b, .fr (.tup (ds.map fun (d : Nat) => PV.int (d : Int))), .no, .no, .no, .no]) rfl]
        simp only [e_frz, cpS_eq hd hl, e_ok, e_pure, frzO, jn, e_some]
      simp only [b_l_question, decide_true, decide_false, e_enum0, e_enum1, e_enum2, e_forN, e_forC, e_lpN, e_lpC, e_lpB, e_lpR, e_lpE, e_body, e_gK, e_gSlot, e_gPair, e_asg, e_asgK, e_enum, e_lstP, e_opMap, e_callG, e_cgS, e_cgT, e_disp, e_toldM, e_toldO, e_toldE, e_toldK, e_extend, e_exS, e_exK, e_callO, e_ok, e_err, e_bad, e_okS, e_errS, e_badS, e_nx, e_rt, e_bk, e_ct, e_ex, e_bd, e_bind, e_pure, e_some, e_none, e_op1, e_op2, e_cons, e_test, e_callP, e_if, e_and, e_or, e_not, e_andV, e_orV, e_andT, e_andF, e_orT, e_orF, e_chain, e_chT, e_chF, e_part, e_sl, e_var, e_varF, e_varO, e_look, e_lookF, e_lookO, e_look1, e_argV, e_argS, e_slot, e_slotF, e_slotO, e_call, e_frz, e_lstO, e_listO, e_anyI, e_sThen, e_seq, e_next, e_brk, e_cnt, e_ret, e_drop, e_set, e_setO, e_ifS, e_raise, e_exn, e_for, boolP, partP, List.getElem?_cons_zero, List.getElem?_cons_succ, List.set_cons_zero, List.set_cons_succ, if_true, if_false, Bool.false_eq_true, Bool.not_true, Bool.not_false, e_vrt, e_vnx, e_xer, e_append, e_appS, e_appK, e_aug, e_augS, e_augK, e_pair, e_fr, e_ow, pSz, pLen, pAdd, frzO, sizeLine_eq, List.length_cons, List.length_nil, Nat.reduceAdd, Nat.reduceLeDiff, Nat.reduceLT, Nat.zero_add, Nat.zero_le, Nat.reduceSub, List.nil_append, List.cons_append, List.append_nil, List.map_cons, List.map_nil, List.replicate, c0b, d1 h1, d1 h2, inB_of, hB, S_cl, q_eqS, hA, h3, tupOf, ne, ej]
  · obtain rfl := eq_of_beq hW
    have hB : fB "below" = false := by decide +kernel
    have hF : fF "below" = false := by decide +kernel
    have hA : (("below" : Str) == ("allowed" : Str)) = false := by decide +kernel
    obtain ⟨n, o3, h3, P3, n0, n1⟩ := ev_draw (m := 100) P2 (by decide) (by decide)
    obtain ⟨j, rfl, hj⟩ := nat_of (m := 100) n0 n1
    obtain ⟨M1, M2, M3, M4, M5⟩ := nl_all j hj
    refine ⟨[cl "below", nl k, nl j], .tup [.str "below", .int k, .int j], o3, moves_of (by rfl) (r := [.fr (.str "below"), .fr (.int k), .no, .fr (.int j), .no, .no, .no]) ?_, P3, ⟨.two ⟨hF, hB, hA, by decide +kernel⟩ hW t hk hj, fun e he => ?_, by simp⟩⟩
    · simp only [b_l_question, decide_true, decide_false, e_enum0, e_enum1, e_enum2, e_forN, e_forC, e_lpN, e_lpC, e_lpB, e_lpR, e_lpE, e_body, e_gK, e_gSlot, e_gPair, e_asg, e_asgK, e_enum, e_lstP, e_opMap, e_callG, e_cgS, e_cgT, e_disp, e_toldM, e_toldO, e_toldE, e_toldK, e_extend, e_exS, e_exK, e_callO, e_ok, e_err, e_bad, e_okS, e_errS, e_badS, e_nx, e_rt, e_bk, e_ct, e_ex, e_bd, e_bind, e_pure, e_some, e_none, e_op1, e_op2, e_cons, e_test, e_callP, e_if, e_and, e_or, e_not, e_andV, e_orV, e_andT, e_andF, e_orT, e_orF, e_chain, e_chT, e_chF, e_part, e_sl, e_var, e_varF, e_varO, e_look, e_lookF, e_lookO, e_look1, e_argV, e_argS, e_slot, e_slotF, e_slotO, e_call, e_frz, e_lstO, e_listO, e_anyI, e_sThen, e_seq, e_next, e_brk, e_cnt, e_ret, e_drop, e_set, e_setO, e_ifS, e_raise, e_exn, e_for, boolP, partP, List.getElem?_cons_zero, List.getElem?_cons_succ, List.set_cons_zero, List.set_cons_succ, if_true, if_false, Bool.false_eq_true, Bool.not_true, Bool.not_false, e_vrt, e_vnx, e_xer, e_append, e_appS, e_appK, e_aug, e_augS, e_augK, e_pair, e_fr, e_ow, pSz, pLen, pAdd, frzO, sizeLine_eq, List.length_cons, List.length_nil, Nat.reduceAdd, Nat.reduceLeDiff, Nat.reduceLT, Nat.zero_add, Nat.zero_le, Nat.reduceSub, List.nil_append, List.cons_append, List.append_nil, List.map_cons, List.map_nil, List.replicate, c0b, d1 h1, d1 h2, d1 h3, inB_of, hB, S_cl, q_eqS, hA, hW, str_n hk, str_n hj]
    · rcases List.mem_cons.mp he with rfl | he
      · exact Eh
      · rcases List.mem_cons.mp he with rfl | he
        · exact .of N3
        · obtain rfl := List.mem_singleton.mp he; exact .of M3
  · obtain ⟨p, o3, h3, P3, hp⟩ := ev_pick (ps := texts.map PV.str) P2 (by decide) (by decide)
    obtain ⟨y, hy, rfl⟩ := List.mem_map.mp hp
    obtain ⟨ty, ly⟩ := texts_ok y hy
    have Ey : Els (cl y) := .of ty
    have h3 : Moves m_l_pick [.lst [.str "ways 1;row 2", .str "letters 2;barred 11", .str "?", .str "ways", .str ";"]] o2 (.str y) o3 := h3
    refine ⟨[cl x, cl y], .tup [.str x, .str (Txt.replace y ";" "\n")], o3, moves_of (by rfl) (r := [.fr (.str x), .fr (.int k), .no, .no, .fr (.str y), .no, .no]) ?_, P3, ⟨.flow hF t Ey.hd, el2 Ey, by simp⟩⟩
    simp only [b_l_question, decide_true, decide_false, e_enum0, e_enum1, e_enum2, e_forN, e_forC, e_lpN, e_lpC, e_lpB, e_lpR, e_lpE, e_body, e_gK, e_gSlot, e_gPair, e_asg, e_asgK, e_enum, e_lstP, e_opMap, e_callG, e_cgS, e_cgT, e_disp, e_toldM, e_toldO, e_toldE, e_toldK, e_extend, e_exS, e_exK, e_callO, e_ok, e_err, e_bad, e_okS, e_errS, e_badS, e_nx, e_rt, e_bk, e_ct, e_ex, e_bd, e_bind, e_pure, e_some, e_none, e_op1, e_op2, e_cons, e_test, e_callP, e_if, e_and, e_or, e_not, e_andV, e_orV, e_andT, e_andF, e_orT, e_orF, e_chain, e_chT, e_chF, e_part, e_sl, e_var, e_varF, e_varO, e_look, e_lookF, e_lookO, e_look1, e_argV, e_argS, e_slot, e_slotF, e_slotO, e_call, e_frz, e_lstO, e_listO, e_anyI, e_sThen, e_seq, e_next, e_brk, e_cnt, e_ret, e_drop, e_set, e_setO, e_ifS, e_raise, e_exn, e_for, boolP, partP, List.getElem?_cons_zero, List.getElem?_cons_succ, List.set_cons_zero, List.set_cons_succ, if_true, if_false, Bool.false_eq_true, Bool.not_true, Bool.not_false, e_vrt, e_vnx, e_xer, e_append, e_appS, e_appK, e_aug, e_augS, e_augK, e_pair, e_fr, e_ow, pSz, pLen, pAdd, frzO, sizeLine_eq, List.length_cons, List.length_nil, Nat.reduceAdd, Nat.reduceLeDiff, Nat.reduceLT, Nat.zero_add, Nat.zero_le, Nat.reduceSub, List.nil_append, List.cons_append, List.append_nil, List.map_cons, List.map_nil, List.replicate, c0b, d1 h1, d1 h2, d1 h3, inB_of, hB, S_cl, q_eqS, hA, hW, in_F, hF, repl_ok ly]
  · refine ⟨[cl x, nl k], .tup [.str x, .int k], o2, moves_of (by rfl) (r := [.fr (.str x), .fr (.int k), .no, .no, .no, .no, .no]) ?_, P2, ⟨.num ⟨hF, hB, hA, hN⟩ hW t hk, el2 (.of N3), by simp⟩⟩
    simp only [b_l_question, decide_true, decide_false, e_enum0, e_enum1, e_enum2, e_forN, e_forC, e_lpN, e_lpC, e_lpB, e_lpR, e_lpE, e_body, e_gK, e_gSlot, e_gPair, e_asg, e_asgK, e_enum, e_lstP, e_opMap, e_callG, e_cgS, e_cgT, e_disp, e_toldM, e_toldO, e_toldE, e_toldK, e_extend, e_exS, e_exK, e_callO, e_ok, e_err, e_bad, e_okS, e_errS, e_badS, e_nx, e_rt, e_bk, e_ct, e_ex, e_bd, e_bind, e_pure, e_some, e_none, e_op1, e_op2, e_cons, e_test, e_callP, e_if, e_and, e_or, e_not, e_andV, e_orV, e_andT, e_andF, e_orT, e_orF, e_chain, e_chT, e_chF, e_part, e_sl, e_var, e_varF, e_varO, e_look, e_lookF, e_lookO, e_look1, e_argV, e_argS, e_slot, e_slotF, e_slotO, e_call, e_frz, e_lstO, e_listO, e_anyI, e_sThen, e_seq, e_next, e_brk, e_cnt, e_ret, e_drop, e_set, e_setO, e_ifS, e_raise, e_exn, e_for, boolP, partP, List.getElem?_cons_zero, List.getElem?_cons_succ, List.set_cons_zero, List.set_cons_succ, if_true, if_false, Bool.false_eq_true, Bool.not_true, Bool.not_false, e_vrt, e_vnx, e_xer, e_append, e_appS, e_appK, e_aug, e_augS, e_augK, e_pair, e_fr, e_ow, pSz, pLen, pAdd, frzO, sizeLine_eq, List.length_cons, List.length_nil, Nat.reduceAdd, Nat.reduceLeDiff, Nat.reduceLT, Nat.zero_add, Nat.zero_le, Nat.reduceSub, List.nil_append, List.cons_append, List.append_nil, List.map_cons, List.map_nil, List.replicate, c0b, d1 h1, d1 h2, inB_of, hB, S_cl, q_eqS, hA, hW, in_F, hF, str_n hk]
end K75

set_option linter.all false
set_option maxRecDepth 100000
set_option maxHeartbeats 2000000
namespace K75
open PySem PySem.Spec PyProof.Rows L2 LamX VS
noncomputable section
/-! ### one round of the law -/
theorem is_due {es : List (List Nat)} {d : PV} (q : QD es d) : Gives (m_l_is 8) [d, d] (.bl true) := by
  cases q with
  | bare F B t =>
    refine is_tup 7 (by simp) fun p hp => ?_
    obtain rfl := List.mem_singleton.mp hp
    exact is_str 6 _
  | word F B A t dd h0 hl =>
    refine is_tup 7 (by simp) fun p hp => ?_
    rcases List.mem_cons.mp hp with rfl | hp
    · exact is_str 6 _
    · obtain rfl := List.mem_singleton.mp hp
      refine is_tup 6 (by rw [List.length_map]; omega) fun p hp => ?_
      obtain ⟨j, _, rfl⟩ := List.mem_map.mp hp
      exact is_int 5 _
  | none F B A t =>
    refine is_tup 7 (by simp) fun p hp => ?_
    rcases List.mem_cons.mp hp with rfl | hp
    · exact is_str 6 _
    · obtain rfl := List.mem_singleton.mp hp
      exact is_tup 6 (by simp) fun p hp => nomatch hp
  | num H W t hn =>
    refine is_tup 7 (by simp) fun p hp => ?_
    rcases List.mem_cons.mp hp with rfl | hp
    · exact is_str 6 _
    · obtain rfl := List.mem_singleton.mp hp
      exact is_int 6 _
  | two H W t hn hm =>
    refine is_tup 7 (by simp) fun p hp => ?_
    rcases List.mem_cons.mp hp with rfl | hp
    · exact is_str 6 _
    · rcases List.mem_cons.mp hp with rfl | hp
      · exact is_int 6 _
      · obtain rfl := List.mem_singleton.mp hp
        exact is_int 6 _
  | flow F t hd =>
    refine is_tup 7 (by simp) fun p hp => ?_
    rcases List.mem_cons.mp hp with rfl | hp
    · exact is_str 6 _
    · obtain rfl := List.mem_singleton.mp hp
      exact is_str 6 _
theorem mul_sp : ∀ k : Nat, k < 3 → Txt.mul " " (k : Int) = strL (List.replicate k 32) := by decide +kernel
theorem pMul_sp {k : Nat} (h : k < 3) : pMul (.str " ") (.int (k : Int)) = some (S (List.replicate k 32)) := by
  show (if 0 ≤ (k : Int) ∧ (k : Int) ≤ 1000 ∧ (" " : Str).length ≤ 1000 then some (PV.str (Txt.mul " " (k : Int))) else none) = _
  rw [if_pos ⟨by omega, by omega, by decide +kernel⟩, mul_sp k h]
theorem add_S {a b : List Nat} (h : a.length + b.length ≤ 16777216) : pAdd (S a) (S b) = some (S (a ++ b)) := by
  show (if (strL a).length + (strL b).length ≤ sizeLine then some (PV.str (strL a ++ strL b)) else none) = _
  rw [if_pos (by rw [strL_len, strL_len, sizeLine_eq]; exact h)]
  exact congrArg (fun z => some (PV.str z)) (SX.S_cat a b)
abbrev TXT : M PV := mOp2 pAdd (mOp2 pAdd (mOp2 pMul (M.pure (.str " ")) (mCall m_l_draw (mArgS 0 (mArgV (M.pure (.int 3)) (M.pure []))))) (mM1 pJoin (M.pure (.str "  ")) (mVar 1))) (mVar 3)
theorem sp2 : (PV.str "  ") = S [32, 32] := congrArg PV.str (by decide +kernel)
theorem sp1 : (PV.str " ") = S [32] := congrArg PV.str (by decide +kernel)
theorem ev_txt {o : OV} {es : List (List Nat)} {ps : List PV} {m : Nat} {d a b c e f : Sl} (P : Pen o) (hp : ps = es.map S) (els : ∀ e ∈ es, Els e) (hl : es.length ≤ 3) (hm : m ≤ 10) : ∃ k o', k ≤ 10 ∧ Pen o' ∧
    TXT [.ow o, .fr (.lst ps), d, .fr (S (List.replicate m 32)), a, b, c, e, f] = .ok (S (rl k es m)) [.ow o', .fr (.lst ps), d, .fr (S (List.replicate m 32)), a, b, c, e, f] := by
  obtain ⟨n, o1, h1, P1, n0, n1⟩ := ev_draw (m := 3) P (by decide) (by decide)
  obtain ⟨k, rfl, hk⟩ := nat_of (m := 3) n0 n1
  refine ⟨k, o1, by omega, P1, ?_⟩
  have h60 : ∀ e ∈ es, e.length ≤ 60 := fun e he => (els e he).sm
  have jn : pJoin (.str "  ") [.lst ps] = some (S (TL.joinL [32, 32] es)) := by
    rw [sp2, hp]
    exact join_S h60 (by omega) (by decide)
  have jl := join_len (s := [32, 32]) h60
  have jl2 : es.length * (60 + [32, 32].length) ≤ 3 * 62 := Nat.mul_le_mul hl (by decide)
  have e1 : mOp2 pMul (M.pure (.str " ")) (mCall m_l_draw (mArgS 0 (mArgV (M.pure (.int 3)) (M.pure [])))) [.ow o, .fr (.lst ps), d, .fr (S (List.replicate m 32)), a, b, c, e, f] = .ok (S (List.replicate k 32)) [.ow o1, .fr (.lst ps), d, .fr (S (List.replicate m 32)), a, b, c, e, f] := by
    rw [e_op2, e_pure, e_ok, e_bind, e_call, e_argS, e_slot, List.getElem?_cons_zero, e_slotO, e_ok, e_bind, e_argV, e_pure, e_ok, e_bind, e_pure, e_ok, e_pure, e_ok, e_pure, e_ok, d1 h1, e_ok, pMul_sp hk]
    rfl
  have e2 : mM1 pJoin (M.pure (.str "  ")) (mVar 1) [.ow o1, .fr (.lst ps), d, .fr (S (List.replicate m 32)), a, b, c, e, f] = .ok (S (TL.joinL [32, 32] es)) [.ow o1, .fr (.lst ps), d, .fr (S (List.replicate m 32)), a, b, c, e, f] := by
    rw [e_m1 (o := M.pure (.str "  ")) (z := "  ") (ρ' := [.ow o1, .fr (.lst ps), d, .fr (S (List.replicate m 32)), a, b, c, e, f]) rfl]
    rw [e_var, List.getElem?_cons_succ, List.getElem?_cons_zero, e_varF, e_ok, jn]
    rfl
  have a1 : pAdd (S (List.replicate k 32)) (S (TL.joinL [32, 32] es)) = some (S (List.replicate k 32 ++ TL.joinL [32, 32] es)) := add_S (by rw [List.length_replicate]; omega)
  have a2 : pAdd (S (List.replicate k 32 ++ TL.joinL [32, 32] es)) (S (List.replicate m 32)) = some (S (rl k es m)) := add_S (by rw [List.length_append, List.length_replicate, List.length_replicate]; omega)
  unfold TXT
  rw [e_op2, e_op2, e1, e_ok, e_bind, e2, e_ok, a1, e_some, e_ok, e_bind, e_var, List.getElem?_cons_succ, List.getElem?_cons_succ, List.getElem?_cons_succ, List.getElem?_cons_zero, e_varF, e_ok, a2]
  rfl
theorem sl_to {ps : List PV} {i : Nat} (h : i ≤ ps.length) : pSl (.lst ps) none (some (i : Int)) = some (.lst (ps.take i)) := by
  show some (PV.lst (cutP ps none (some (i : Int)))) = _
  unfold cutP
  rw [HT.sIx_nat, HT.sIx_none, Nat.min_eq_left h]
  rfl
theorem sl_frm {ps : List PV} {i : Nat} : pSl (.lst ps) (some (i : Int)) none = some (.lst (ps.drop i)) := by
  show some (PV.lst (cutP ps (some (i : Int)) none)) = _
  unfold cutP
  rw [HT.sIx_nat, HT.sIx_none]
  congr 2
  by_cases h : i ≤ ps.length
  · rw [Nat.min_eq_left h, List.take_of_length_le (by rw [List.length_drop]; omega)]
  · rw [Nat.min_eq_right (by omega), List.drop_length, List.drop_eq_nil_of_le (by omega), List.take_nil]
theorem sl_frm1 {ps : List PV} {i : Nat} : pSl (.lst ps) (some ((i : Int) + 1)) none = some (.lst (ps.drop (i + 1))) := sl_frm (i := i + 1)
abbrev others : List Str := ["rate", "ring", "12", "012", "123", "e", "x", "-", "A", "0", "3"]
theorem others_ok : ∀ x ∈ others, elB (cl x) = true := by decide +kernel
abbrev BT : M PV := mCallP (pSz .lst) (mCons (mOp2 pAdd (mSl pSl (mVar 1) (M.pure none) (mPart (mVar 5))) (mSl pSl (mVar 1) (mPart (mOp2 pAdd (mVar 5) (M.pure (.int 1)))) (M.pure none))) (mCons (mOp2 pAdd (mVar 1) (mCallP (pSz .lst) (mCons (mVar 6) (M.pure [])))) (mCons (mOp2 pAdd (mOp2 pAdd (mSl pSl (mVar 1) (M.pure none) (mPart (mVar 5))) (mCallP (pSz .lst) (mCons (mVar 6) (M.pure [])))) (mSl pSl (mVar 1) (mPart (mOp2 pAdd (mVar 5) (M.pure (.int 1)))) (M.pure none))) (mCons (mOp2 pAdd (mOp2 pAdd (mSl pSl (mVar 1) (M.pure none) (mPart (mVar 5))) (mCallP (pSz .lst) (mCons (mVar 6) (M.pure [])))) (mSl pSl (mVar 1) (mPart (mVar 5)) (M.pure none))) (M.pure [])))))
theorem ev_bt {o : OV} {ps : List PV} {i : Nat} {p : PV} {d t l b w : Sl} (hi : i ≤ ps.length) (hl : ps.length ≤ 1000) : BT [.ow o, .fr (.lst ps), d, t, l, .fr (.int (i : Int)), .fr p, b, w] = .ok (.lst [.lst (ps.take i ++ ps.drop (i + 1)), .lst (ps ++ [p]), .lst (ps.take i ++ [p] ++ ps.drop (i + 1)), .lst (ps.take i ++ [p] ++ ps.drop i)]) [.ow o, .fr (.lst ps), d, t, l, .fr (.int (i : Int)), .fr p, b, w] := by
  have h1 := List.length_take_le i ps
  have h1' : (ps.take i).length ≤ ps.length := by rw [List.length_take]; omega
  have h2 : (ps.drop (i + 1)).length ≤ ps.length := by rw [List.length_drop]; omega
  have h3 : (ps.drop i).length ≤ ps.length := by rw [List.length_drop]; omega
  have a1 : pAdd (.lst (ps.take i)) (.lst (ps.drop (i + 1))) = some (.lst (ps.take i ++ ps.drop (i + 1))) := by
    show (if (ps.take i).length + (ps.drop (i + 1)).length ≤ sizeLine then some (PV.lst (ps.take i ++ ps.drop (i + 1))) else none) = _
    rw [if_pos (by rw [sizeLine_eq]; omega)]
  have a2 : pAdd (.lst ps) (.lst [p]) = some (.lst (ps ++ [p])) := by
    show (if ps.length + 1 ≤ sizeLine then some (PV.lst (ps ++ [p])) else none) = _
    rw [if_pos (by rw [sizeLine_eq]; omega)]
  have a3 : pAdd (.lst (ps.take i)) (.lst [p]) = some (.lst (ps.take i ++ [p])) := by
    show (if (ps.take i).length + 1 ≤ sizeLine then some (PV.lst (ps.take i ++ [p])) else none) = _
    rw [if_pos (by rw [sizeLine_eq]; omega)]
  have a4 : pAdd (.lst (ps.take i ++ [p])) (.lst (ps.drop (i + 1))) = some (.lst (ps.take i ++ [p] ++ ps.drop (i + 1))) := by
    show (if (ps.take i ++ [p]).length + (ps.drop (i + 1)).length ≤ sizeLine then some (PV.lst (ps.take i ++ [p] ++ ps.drop (i + 1))) else none) = _
    rw [if_pos (by rw [sizeLine_eq, List.length_append, List.length_singleton]; omega)]
  have a5 : pAdd (.lst (ps.take i ++ [p])) (.lst (ps.drop i)) = some (.lst (ps.take i ++ [p] ++ ps.drop i)) := by
    show (if (ps.take i ++ [p]).length + (ps.drop i).length ≤ sizeLine then some (PV.lst (ps.take i ++ [p] ++ ps.drop i)) else none) = _
    rw [if_pos (by rw [sizeLine_eq, List.length_append, List.length_singleton]; omega)]
  have a0 : pAdd (.int (i : Int)) (.int 1) = some (.int ((i : Int) + 1)) := rfl
  unfold BT
  simp only [decide_true, decide_false, e_enum0, e_enum1, e_enum2, e_forN, e_forC, e_lpN, e_lpC, e_lpB, e_lpR, e_lpE, e_body, e_gK, e_gSlot, e_gPair, e_asg, e_asgK, e_enum, e_lstP, e_opMap, e_callG, e_cgS, e_cgT, e_disp, e_toldM, e_toldO, e_toldE, e_toldK, e_extend, e_exS, e_exK, e_callO, e_ok, e_err, e_bad, e_okS, e_errS, e_badS, e_nx, e_rt, e_bk, e_ct, e_ex, e_bd, e_bind, e_pure, e_some, e_none, e_op1, e_op2, e_cons, e_test, e_callP, e_if, e_and, e_or, e_not, e_andV, e_orV, e_andT, e_andF, e_orT, e_orF, e_chain, e_chT, e_chF, e_part, e_sl, e_var, e_varF, e_varO, e_look, e_lookF, e_lookO, e_look1, e_argV, e_argS, e_slot, e_slotF, e_slotO, e_call, e_frz, e_lstO, e_listO, e_anyI, e_sThen, e_seq, e_next, e_brk, e_cnt, e_ret, e_drop, e_set, e_setO, e_ifS, e_raise, e_exn, e_for, boolP, partP, List.getElem?_cons_zero, List.getElem?_cons_succ, List.set_cons_zero, List.set_cons_succ, if_true, if_false, Bool.false_eq_true, Bool.not_true, Bool.not_false, e_vrt, e_vnx, e_xer, e_append, e_appS, e_appK, e_aug, e_augS, e_augK, e_pair, e_fr, e_ow, pSz, pLen, frzO, sizeLine_eq, List.length_cons, List.length_nil, Nat.reduceAdd, Nat.reduceLeDiff, Nat.reduceLT, Nat.zero_add, Nat.zero_le, Nat.reduceSub, List.nil_append, List.cons_append, List.append_nil, List.map_cons, List.map_nil, List.replicate, a0, a1, a2, a3, a4, a5, sl_to hi, sl_frm, sl_frm1]
theorem okP_fault (n : Nat) : okP (faultP n) = true := by
  unfold faultP
  by_cases h : n = 0
  · rw [if_pos h]; rfl
  · rw [if_neg h]
    with_unfolding_all rfl
/-- the verdict of a bent line is the law's own -/
theorem bent_ok {es : List (List Nat)} (E : ∀ e ∈ es, Els e) (hl : es.length ≤ 4) : Gives m_l_wrong [.lst (es.map S)] (.int (wrongN es : Nat)) ∧ Gives m_l_line_fault [S (ln es)] (faultP (wrongN es)) ∧ pJoin (.str " ") [.lst (es.map S)] = some (S (ln es)) := by
  have h60 : ∀ e ∈ es, e.length ≤ 60 := fun e he => (E e he).sm
  have jl : (ln es).length ≤ _ := join_len (s := [32]) h60
  have jl2 : es.length * (60 + [32].length) ≤ 4 * 61 := Nat.mul_le_mul hl (by decide)
  refine ⟨ev_wrong (fun e he => (E e he).ok) (fun e he => by have := h60 e he; omega), ev_fault (verdict (fun e he => (E e he).toEl) (by omega)), ?_⟩
  rw [sp1]
  exact join_S h60 (by omega) (by decide)
abbrev TB : MS := (mSeq (mPairS 5 6 (mFr (mCall m_l_draw (mArgS 0 (mArgV (mCallP pLen (mCons (mVar 1) (M.pure []))) (M.pure []))))) (mFr (mCall m_l_pick (mArgS 0 (mArgV (mCallP (pSz .lst) (mCons (M.pure (.str "rate")) (mCons (M.pure (.str "ring")) (mCons (M.pure (.str "12")) (mCons (M.pure (.str "012")) (mCons (M.pure (.str "123")) (mCons (M.pure (.str "e")) (mCons (M.pure (.str "x")) (mCons (M.pure (.str "-")) (mCons (M.pure (.str "A")) (mCons (M.pure (.str "0")) (mCons (M.pure (.str "3")) (M.pure []))))))))))))) (M.pure [])))))) (mSeq (mSet 7 (mCall m_l_pick (mArgS 0 (mArgV BT (M.pure []))))) (mSeq (mSet 8 (mCall m_l_wrong (mArgV (mVar 7) (M.pure [])))) (mSeq (mIfS (mTest (mOp2 pNe (mCall m_l_line_fault (mArgV (mM1 pJoin (M.pure (.str " ")) (mVar 7)) (M.pure []))) (mIf (mTest (mOp2 pGt (mVar 8) (M.pure (.int 0)))) (mCallP (pSz .tup) (mCons (M.pure (.str "text")) (mCons (M.pure (.int 1)) (mCons (mVar 8) (M.pure []))))) (M.pure .non)))) (mSeq (mRet (M.pure (.bl false))) mNext) mNext) mNext))))
theorem bent_of {es : List (List Nat)} {ps : List PV} {i : Nat} {y : Str} {p : PV} (hp : ps = es.map S) (E : ∀ e ∈ es, Els e) (h3 : es.length ≤ 3) (hy : Els (cl y)) (h : p ∈ [PV.lst (ps.take i ++ ps.drop (i + 1)), .lst (ps ++ [.str y]), .lst (ps.take i ++ [.str y] ++ ps.drop (i + 1)), .lst (ps.take i ++ [.str y] ++ ps.drop i)]) :
    ∃ fs : List (List Nat), p = .lst (fs.map S) ∧ (∀ e ∈ fs, Els e) ∧ fs.length ≤ 4 := by
  have tk : ∀ n, ∀ e ∈ es.take n, Els e := fun n e he => E e (List.mem_of_mem_take he)
  have dr : ∀ n, ∀ e ∈ es.drop n, Els e := fun n e he => E e (List.mem_of_mem_drop he)
  have one : ∀ e ∈ [cl y], Els e := fun e he => by obtain rfl := List.mem_singleton.mp he; exact hy
  have app : ∀ {xs ys : List (List Nat)}, (∀ e ∈ xs, Els e) → (∀ e ∈ ys, Els e) → ∀ e ∈ xs ++ ys, Els e := fun h1 h2 e he => (List.mem_append.mp he).elim (h1 e) (h2 e)
  have l1 : ∀ n, (es.take n).length ≤ n := fun n => List.length_take_le n es
  have l2 : ∀ n, (es.drop n).length = es.length - n := fun n => List.length_drop
  have l3 : ∀ n, (es.take n).length ≤ es.length := fun n => by rw [List.length_take]; omega
  subst hp
  rcases List.mem_cons.mp h with rfl | h
  · refine ⟨es.take i ++ es.drop (i + 1), by rw [List.map_append, List.map_take, List.map_drop], app (tk _) (dr _), ?_⟩
    have := l1 i; have := l2 (i + 1); have := l3 i
    rw [List.length_append]; omega
  rcases List.mem_cons.mp h with rfl | h
  · refine ⟨es ++ [cl y], by rw [List.map_append]; rfl, app E one, ?_⟩
    rw [List.length_append, List.length_singleton]; omega
  rcases List.mem_cons.mp h with rfl | h
  · refine ⟨es.take i ++ [cl y] ++ es.drop (i + 1), by rw [List.map_append, List.map_append, List.map_take, List.map_drop]; rfl, app (app (tk _) one) (dr _), ?_⟩
    have := l1 i; have := l2 (i + 1); have := l3 i
    rw [List.length_append, List.length_append, List.length_singleton]; omega
  · obtain rfl := List.mem_singleton.mp h
    refine ⟨es.take i ++ [cl y] ++ es.drop i, by rw [List.map_append, List.map_append, List.map_take, List.map_drop]; rfl, app (app (tk _) one) (dr _), ?_⟩
    have := l1 i; have := l2 i; have := l3 i
    rw [List.length_append, List.length_append, List.length_singleton]; omega
theorem ev_turn {o : OV} {es : List (List Nat)} {ps : List PV} {d t s4 s5 s6 s7 s8 : Sl} (P : Pen o) (hp : ps = es.map S) (E : ∀ e ∈ es, Els e) (h1 : 1 ≤ es.length) (h3 : es.length ≤ 3) :
    ∃ o' s5' s6' s7' s8', TB [.ow o, .fr (.lst ps), d, t, s4, s5, s6, s7, s8] = .nx [.ow o', .fr (.lst ps), d, t, s4, s5', s6', s7', s8'] ∧ Pen o' := by
  have hlen : ps.length = es.length := by rw [hp, List.length_map]
  obtain ⟨n, o1, g1, P1, n0, n1⟩ := ev_draw (m := ps.length) P (by omega) (by omega)
  obtain ⟨i, rfl, hi⟩ := nat_of (m := ps.length) n0 n1
  obtain ⟨p, o2, g2, P2, hm⟩ := ev_pick (ps := others.map PV.str) P1 (by decide) (by decide)
  obtain ⟨y, hy, rfl⟩ := List.mem_map.mp hm
  have g2 : Moves m_l_pick [.lst [.str "rate", .str "ring", .str "12", .str "012", .str "123", .str "e", .str "x", .str "-", .str "A", .str "0", .str "3"]] o1 (.str y) o2 := g2
  have hy : Els (cl y) := .of (others_ok y hy)
  obtain ⟨p, o3, g3, P3, hm3⟩ := ev_pick (ps := [PV.lst (ps.take i ++ ps.drop (i + 1)), .lst (ps ++ [.str y]), .lst (ps.take i ++ [.str y] ++ ps.drop (i + 1)), .lst (ps.take i ++ [.str y] ++ ps.drop i)]) P2 (List.cons_ne_nil _ _) (by simp)
  obtain ⟨fs, rfl, Ef, lf⟩ := bent_of hp E h3 hy hm3
  obtain ⟨w1, w2, w3⟩ := bent_ok Ef lf
  refine ⟨o3, .fr (.int (i : Int)), .fr (.str y), .fr (.lst (fs.map S)), .fr (.int (wrongN fs : Nat)), ?_, P3⟩
  have bt : ∀ b w, BT [.ow o2, .fr (.lst ps), d, t, s4, .fr (.int (i : Int)), .fr (.str y), b, w] = _ := fun b w => ev_bt (by omega) (by omega)
  generalize hqs : fs.map S = qs at *
  have ej : ∀ a b c e f g w, mM1 pJoin (M.pure (.str " ")) (mVar 7) [a, b, c, e, f, g, w, .fr (.lst qs), .fr (.int (wrongN fs : Nat))] = .ok (S (ln fs)) [a, b, c, e, f, g, w, .fr (.lst qs), .fr (.int (wrongN fs : Nat))] := fun a b c e f g w => by
    rw [e_m1 (o := M.pure (.str " ")) (z := " ") (ρ' := [a, b, c, e, f, g, w, .fr (.lst qs), .fr (.int (wrongN fs : Nat))]) rfl]
    simp only [decide_true, decide_false, e_enum0, e_enum1, e_enum2, e_forN, e_forC, e_lpN, e_lpC, e_lpB, e_lpR, e_lpE, e_body, e_gK, e_gSlot, e_gPair, e_asg, e_asgK, e_enum, e_lstP, e_opMap, e_callG, e_cgS, e_cgT, e_disp, e_toldM, e_toldO, e_toldE, e_toldK, e_extend, e_exS, e_exK, e_callO, e_ok, e_err, e_bad, e_okS, e_errS, e_badS, e_nx, e_rt, e_bk, e_ct, e_ex, e_bd, e_bind, e_pure, e_some, e_none, e_op1, e_op2, e_cons, e_test, e_callP, e_if, e_and, e_or, e_not, e_andV, e_orV, e_andT, e_andF, e_orT, e_orF, e_chain, e_chT, e_chF, e_part, e_sl, e_var, e_varF, e_varO, e_look, e_lookF, e_lookO, e_look1, e_argV, e_argS, e_slot, e_slotF, e_slotO, e_call, e_frz, e_lstO, e_listO, e_anyI, e_sThen, e_seq, e_next, e_brk, e_cnt, e_ret, e_drop, e_set, e_setO, e_ifS, e_raise, e_exn, e_for, boolP, partP, List.getElem?_cons_zero, List.getElem?_cons_succ, List.set_cons_zero, List.set_cons_succ, if_true, if_false, Bool.false_eq_true, Bool.not_true, Bool.not_false, e_vrt, e_vnx, e_xer, e_append, e_appS, e_appK, e_aug, e_augS, e_augK, e_pair, e_fr, e_ow, pSz, pLen, pAdd, frzO, sizeLine_eq, List.length_cons, List.length_nil, Nat.reduceAdd, Nat.reduceLeDiff, Nat.reduceLT, Nat.zero_add, Nat.zero_le, Nat.reduceSub, List.nil_append, List.cons_append, List.append_nil, List.map_cons, List.map_nil, List.replicate, w3]
  have pl : pLen [.lst ps] = some (.int ps.length) := rfl
  have ne := pNe_same (okP_fault (wrongN fs))
  have gt0 : pGt (.int (wrongN fs : Nat)) (.int 0) = some (.bl (decide (0 < wrongN fs))) := gt_nat (j := 0)
  unfold TB
  generalize hBT : BT = bb at *
  by_cases h0 : wrongN fs = 0
  · have e : faultP (wrongN fs) = .non := by unfold faultP; rw [if_pos h0]
    rw [e] at ne w2
    have d0 : decide (0 < wrongN fs) = false := decide_eq_false (by omega)
    simp only [decide_true, decide_false, e_enum0, e_enum1, e_enum2, e_forN, e_forC, e_lpN, e_lpC, e_lpB, e_lpR, e_lpE, e_body, e_gK, e_gSlot, e_gPair, e_asg, e_asgK, e_enum, e_lstP, e_opMap, e_callG, e_cgS, e_cgT, e_disp, e_toldM, e_toldO, e_toldE, e_toldK, e_extend, e_exS, e_exK, e_callO, e_ok, e_err, e_bad, e_okS, e_errS, e_badS, e_nx, e_rt, e_bk, e_ct, e_ex, e_bd, e_bind, e_pure, e_some, e_none, e_op1, e_op2, e_cons, e_test, e_callP, e_if, e_and, e_or, e_not, e_andV, e_orV, e_andT, e_andF, e_orT, e_orF, e_chain, e_chT, e_chF, e_part, e_sl, e_var, e_varF, e_varO, e_look, e_lookF, e_lookO, e_look1, e_argV, e_argS, e_slot, e_slotF, e_slotO, e_call, e_frz, e_lstO, e_listO, e_anyI, e_sThen, e_seq, e_next, e_brk, e_cnt, e_ret, e_drop, e_set, e_setO, e_ifS, e_raise, e_exn, e_for, boolP, partP, List.getElem?_cons_zero, List.getElem?_cons_succ, List.set_cons_zero, List.set_cons_succ, if_true, if_false, Bool.false_eq_true, Bool.not_true, Bool.not_false, e_vrt, e_vnx, e_xer, e_append, e_appS, e_appK, e_aug, e_augS, e_augK, e_pair, e_fr, e_ow, pSz, pLen, pAdd, frzO, sizeLine_eq, List.length_cons, List.length_nil, Nat.reduceAdd, Nat.reduceLeDiff, Nat.reduceLT, Nat.zero_add, Nat.zero_le, Nat.reduceSub, List.nil_append, List.cons_append, List.append_nil, List.map_cons, List.map_nil, List.replicate, d1 g1, d1 g2, bt, d1 g3, c1 w1, ej, c1 w2, gt0, d0, ne]
  · have e : faultP (wrongN fs) = .tup [.str "text", .int 1, .int (wrongN fs : Nat)] := by unfold faultP; rw [if_neg h0]
    rw [e] at ne w2
    have d0 : decide (0 < wrongN fs) = true := decide_eq_true (by omega)
    simp only [decide_true, decide_false, e_enum0, e_enum1, e_enum2, e_forN, e_forC, e_lpN, e_lpC, e_lpB, e_lpR, e_lpE, e_body, e_gK, e_gSlot, e_gPair, e_asg, e_asgK, e_enum, e_lstP, e_opMap, e_callG, e_cgS, e_cgT, e_disp, e_toldM, e_toldO, e_toldE, e_toldK, e_extend, e_exS, e_exK, e_callO, e_ok, e_err, e_bad, e_okS, e_errS, e_badS, e_nx, e_rt, e_bk, e_ct, e_ex, e_bd, e_bind, e_pure, e_some, e_none, e_op1, e_op2, e_cons, e_test, e_callP, e_if, e_and, e_or, e_not, e_andV, e_orV, e_andT, e_andF, e_orT, e_orF, e_chain, e_chT, e_chF, e_part, e_sl, e_var, e_varF, e_varO, e_look, e_lookF, e_lookO, e_look1, e_argV, e_argS, e_slot, e_slotF, e_slotO, e_call, e_frz, e_lstO, e_listO, e_anyI, e_sThen, e_seq, e_next, e_brk, e_cnt, e_ret, e_drop, e_set, e_setO, e_ifS, e_raise, e_exn, e_for, boolP, partP, List.getElem?_cons_zero, List.getElem?_cons_succ, List.set_cons_zero, List.set_cons_succ, if_true, if_false, Bool.false_eq_true, Bool.not_true, Bool.not_false, e_vrt, e_vnx, e_xer, e_append, e_appS, e_appK, e_aug, e_augS, e_augK, e_pair, e_fr, e_ow, pSz, pLen, pAdd, frzO, sizeLine_eq, List.length_cons, List.length_nil, Nat.reduceAdd, Nat.reduceLeDiff, Nat.reduceLT, Nat.zero_add, Nat.zero_le, Nat.reduceSub, List.nil_append, List.cons_append, List.append_nil, List.map_cons, List.map_nil, List.replicate, d1 g1, d1 g2, bt, d1 g3, c1 w1, ej, c1 w2, gt0, d0, ne]
theorem ev_l_right {o : OV} (P : Pen o) : ∃ o', Moves m_l_right [] o (.bl true) o' ∧ Pen o' := by
  obtain ⟨es, d, o1, g1, P1, R⟩ := ev_question P
  have due := is_due R.q
  obtain ⟨h, r, rfl⟩ : ∃ h r, es = h :: r := by
    cases hes : es with
    | nil => have := R.len.1; rw [hes] at this; simp at this
    | cons h r => exact ⟨h, r, rfl⟩
  generalize hps : (h :: r).map S = ps at g1
  have ix : pIx (.lst ps) (.int 0) = some (S h) := by rw [← hps]; exact head_ix
  have tail : ∃ m o2, m ≤ 10 ∧ Pen o2 ∧ (fF (strL h) = true → m = 0) ∧ ∀ s3 s4 s5 s6 s7 s8, mIf (mTest (mOp2 pIn (mOp2 pIx (mVar 1) (M.pure (.int 0))) (mCallP (pSz .tup) (mCons (M.pure (.str "flow")) (mCons (M.pure (.str "sided")) (M.pure [])))))) (M.pure (.str "")) (mOp2 pMul (M.pure (.str " ")) (mCall m_l_draw (mArgS 0 (mArgV (M.pure (.int 2)) (M.pure []))))) [.ow o1, .fr (.lst ps), .fr d, s3, s4, s5, s6, s7, s8] = .ok (S (List.replicate m 32)) [.ow o2, .fr (.lst ps), .fr d, s3, s4, s5, s6, s7, s8] := by
    cases hF : fF (strL h) with
    | true =>
      refine ⟨0, o1, by omega, P1, fun _ => rfl, fun s3 s4 s5 s6 s7 s8 => ?_⟩
      have se : (PV.str "") = S (List.replicate 0 32) := congrArg PV.str strL_nil
      simp only [decide_true, decide_false, e_enum0, e_enum1, e_enum2, e_forN, e_forC, e_lpN, e_lpC, e_lpB, e_lpR, e_lpE, e_body, e_gK, e_gSlot, e_gPair, e_asg, e_asgK, e_enum, e_lstP, e_opMap, e_callG, e_cgS, e_cgT, e_disp, e_toldM, e_toldO, e_toldE, e_toldK, e_extend, e_exS, e_exK, e_callO, e_ok, e_err, e_bad, e_okS, e_errS, e_badS, e_nx, e_rt, e_bk, e_ct, e_ex, e_bd, e_bind, e_pure, e_some, e_none, e_op1, e_op2, e_cons, e_test, e_callP, e_if, e_and, e_or, e_not, e_andV, e_orV, e_andT, e_andF, e_orT, e_orF, e_chain, e_chT, e_chF, e_part, e_sl, e_var, e_varF, e_varO, e_look, e_lookF, e_lookO, e_look1, e_argV, e_argS, e_slot, e_slotF, e_slotO, e_call, e_frz, e_lstO, e_listO, e_anyI, e_sThen, e_seq, e_next, e_brk, e_cnt, e_ret, e_drop, e_set, e_setO, e_ifS, e_raise, e_exn, e_for, boolP, partP, List.getElem?_cons_zero, List.getElem?_cons_succ, List.set_cons_zero, List.set_cons_succ, if_true, if_false, Bool.false_eq_true, Bool.not_true, Bool.not_false, e_vrt, e_vnx, e_xer, e_append, e_appS, e_appK, e_aug, e_augS, e_augK, e_pair, e_fr, e_ow, pSz, pLen, pAdd, frzO, sizeLine_eq, List.length_cons, List.length_nil, Nat.reduceAdd, Nat.reduceLeDiff, Nat.reduceLT, Nat.zero_add, Nat.zero_le, Nat.reduceSub, List.nil_append, List.cons_append, List.append_nil, List.map_cons, List.map_nil, List.replicate, ix, in_F, hF]
      rw [se]
      rfl
    | false =>
      obtain ⟨n, o2, g2, P2, n0, n1⟩ := ev_draw (m := 2) P1 (by decide) (by decide)
      obtain ⟨k, rfl, hk⟩ := nat_of (m := 2) n0 n1
      refine ⟨k, o2, by omega, P2, (fun z => nomatch z), fun s3 s4 s5 s6 s7 s8 => ?_⟩
      simp only [decide_true, decide_false, e_enum0, e_enum1, e_enum2, e_forN, e_forC, e_lpN, e_lpC, e_lpB, e_lpR, e_lpE, e_body, e_gK, e_gSlot, e_gPair, e_asg, e_asgK, e_enum, e_lstP, e_opMap, e_callG, e_cgS, e_cgT, e_disp, e_toldM, e_toldO, e_toldE, e_toldK, e_extend, e_exS, e_exK, e_callO, e_ok, e_err, e_bad, e_okS, e_errS, e_badS, e_nx, e_rt, e_bk, e_ct, e_ex, e_bd, e_bind, e_pure, e_some, e_none, e_op1, e_op2, e_cons, e_test, e_callP, e_if, e_and, e_or, e_not, e_andV, e_orV, e_andT, e_andF, e_orT, e_orF, e_chain, e_chT, e_chF, e_part, e_sl, e_var, e_varF, e_varO, e_look, e_lookF, e_lookO, e_look1, e_argV, e_argS, e_slot, e_slotF, e_slotO, e_call, e_frz, e_lstO, e_listO, e_anyI, e_sThen, e_seq, e_next, e_brk, e_cnt, e_ret, e_drop, e_set, e_setO, e_ifS, e_raise, e_exn, e_for, boolP, partP, List.getElem?_cons_zero, List.getElem?_cons_succ, List.set_cons_zero, List.set_cons_succ, if_true, if_false, Bool.false_eq_true, Bool.not_true, Bool.not_false, e_vrt, e_vnx, e_xer, e_append, e_appS, e_appK, e_aug, e_augS, e_augK, e_pair, e_fr, e_ow, pSz, pLen, pAdd, frzO, sizeLine_eq, List.length_cons, List.length_nil, Nat.reduceAdd, Nat.reduceLeDiff, Nat.reduceLT, Nat.zero_add, Nat.zero_le, Nat.reduceSub, List.nil_append, List.cons_append, List.append_nil, List.map_cons, List.map_nil, List.replicate, ix, in_F, hF, d1 g2, pMul_sp (show k < 3 by omega)]
  obtain ⟨m, o2, hm, P2, hmF, tl⟩ := tail
  obtain ⟨k, o3, hk, P3, tx⟩ := ev_txt (m := m) (d := .fr d) (a := .no) (b := .no) (c := .no) (e := .no) (f := .no) P2 hps.symm R.els R.len.2 hm
  have q := ev_right (k := k) (m := m) R hk hm hmF
  have key := for_eval (b := bodyM (gSlot 4) TB) (fun qs ρ => ∃ o s4 s5 s6 s7 s8, Pen o ∧ ρ = [.ow o, .fr (.lst ps), .fr d, .fr (S (List.replicate m 32)), s4, s5, s6, s7, s8])
    (ps := (List.range 6).map fun (k : Nat) => PV.int (k : Int)) (ρ := [.ow o3, .fr (.lst ps), .fr d, .fr (S (List.replicate m 32)), .no, .no, .no, .no, .no]) ⟨o3, _, _, _, _, _, P3, rfl⟩ (by
      rintro p qs ρ ⟨o, s4, s5, s6, s7, s8, P, rfl⟩
      obtain ⟨o', s5', s6', s7', s8', e, P'⟩ := ev_turn (d := .fr d) (t := .fr (S (List.replicate m 32))) (s4 := .fr p) (s5 := s5) (s6 := s6) (s7 := s7) (s8 := s8) P hps.symm R.els R.len.1 R.len.2
      exact ⟨_, e, o', _, _, _, _, _, P', rfl⟩)
  obtain ⟨ρ', ef, o4, s4, s5, s6, s7, s8, P4, rfl⟩ := key
  refine ⟨o4, moves_of (by rfl) (r := [.fr (.lst ps), .fr d, .fr (S (List.replicate m 32)), s4, s5, s6, s7, s8]) ?_, P4⟩
  have r6 : pRange1 (.int 6) = some ((List.range 6).map fun (k : Nat) => PV.int (k : Int)) := rng_len (n := 6) (by omega)
  unfold b_l_right
  generalize hTB : bodyM (gSlot 4) TB = tb at ef
  generalize (List.range 6).map (fun (k : Nat) => PV.int (k : Int)) = six at ef r6
  generalize hTX : TXT = txt at tx
  generalize hTL : mIf (mTest (mOp2 pIn (mOp2 pIx (mVar 1) (M.pure (.int 0))) (mCallP (pSz .tup) (mCons (M.pure (.str "flow")) (mCons (M.pure (.str "sided")) (M.pure [])))))) (M.pure (.str "")) (mOp2 pMul (M.pure (.str " ")) (mCall m_l_draw (mArgS 0 (mArgV (M.pure (.int 2)) (M.pure []))))) = tlm at tl
  unfold TXT at hTX
  unfold TB BT at hTB
  simp only [hTX, hTL]
  simp only [decide_true, decide_false, e_enum0, e_enum1, e_enum2, e_forN, e_forC, e_lpN, e_lpC, e_lpB, e_lpR, e_lpE, e_body, e_gK, e_gSlot, e_gPair, e_asg, e_asgK, e_enum, e_lstP, e_opMap, e_callG, e_cgS, e_cgT, e_disp, e_toldM, e_toldO, e_toldE, e_toldK, e_extend, e_exS, e_exK, e_callO, e_ok, e_err, e_bad, e_okS, e_errS, e_badS, e_nx, e_rt, e_bk, e_ct, e_ex, e_bd, e_bind, e_pure, e_some, e_none, e_op1, e_op2, e_cons, e_test, e_callP, e_if, e_and, e_or, e_not, e_andV, e_orV, e_andT, e_andF, e_orT, e_orF, e_chain, e_chT, e_chF, e_part, e_sl, e_var, e_varF, e_varO, e_look, e_lookF, e_lookO, e_look1, e_argV, e_argS, e_slot, e_slotF, e_slotO, e_call, e_frz, e_lstO, e_listO, e_anyI, e_sThen, e_seq, e_next, e_brk, e_cnt, e_ret, e_drop, e_set, e_setO, e_ifS, e_raise, e_exn, e_for, boolP, partP, List.getElem?_cons_zero, List.getElem?_cons_succ, List.set_cons_zero, List.set_cons_succ, if_true, if_false, Bool.false_eq_true, Bool.not_true, Bool.not_false, e_vrt, e_vnx, e_xer, e_append, e_appS, e_appK, e_aug, e_augS, e_augK, e_pair, e_fr, e_ow, pSz, pLen, pAdd, frzO, sizeLine_eq, List.length_cons, List.length_nil, Nat.reduceAdd, Nat.reduceLeDiff, Nat.reduceLT, Nat.zero_add, Nat.zero_le, Nat.reduceSub, List.nil_append, List.cons_append, List.append_nil, List.map_cons, List.map_nil, List.replicate, d0 g1, tl, tx, c1 q, c2 due, e_range1, r6, hTB, ef]
end
end K75

set_option linter.all false
set_option maxRecDepth 100000
set_option maxHeartbeats 2000000
namespace K75
open PySem PySem.Spec PyProof.Rows L2 LamX VS
noncomputable section
/-! ### the lines that are shown -/
theorem line_of {x : Str} {ts : List (List Nat)} (h1 : (cl x).length < 8000000) (h2 : okL (cl x) = true) (h3 : toks (cl x) = ts) : Line (cl x) ts := ⟨h1, h2, h3⟩
theorem sh1 : Verd (cl "") 1 := verdN (by decide) (ev_q_empty (line_of (by decide +kernel) (by decide +kernel) (by decide +kernel)))
theorem sh2 : Verd (cl "  ") 1 := verdN (by decide) (ev_q_empty (line_of (by decide +kernel) (by decide +kernel) (by decide +kernel)))
theorem sh3 : Verd (cl "Ring") 1 := verdN (by decide) (ev_q_none (h := cl "R") (r := [cl "ing"]) (line_of (by decide +kernel) (by decide +kernel) (by decide +kernel)) (by decide +kernel) (by decide +kernel) (by decide +kernel) (by decide +kernel))
theorem sh4 : Verd (cl "rings") 1 := verdN (by decide) (ev_q_none (h := cl "rings") (r := []) (line_of (by decide +kernel) (by decide +kernel) (by decide +kernel)) (by decide +kernel) (by decide +kernel) (by decide +kernel) (by decide +kernel))
theorem sh5 : Verd (cl "ring ring") 2 := verdN (by decide) (ev_q_bare_bad (h := cl "ring") (r := [cl "ring"]) (line_of (by decide +kernel) (by decide +kernel) (by decide +kernel)) (List.cons_ne_nil _ _) (by decide +kernel) (by decide +kernel))
theorem sh6 : Verd (cl "flow") 2 := verdN (by decide) (ev_q_flow_bad (h := cl "flow") (r := []) (line_of (by decide +kernel) (by decide +kernel) (by decide +kernel)) (by decide +kernel) (by decide +kernel))
theorem sh7 : Verd (cl "flow  ") 2 := verdN (by decide) (ev_q_flow_bad (h := cl "flow") (r := []) (line_of (by decide +kernel) (by decide +kernel) (by decide +kernel)) (by decide +kernel) (by decide +kernel))
theorem sh8 : Verd (cl "sided") 2 := verdN (by decide) (ev_q_flow_bad (h := cl "sided") (r := []) (line_of (by decide +kernel) (by decide +kernel) (by decide +kernel)) (by decide +kernel) (by decide +kernel))
theorem nh_rate : NumHead (cl "rate") := ⟨by decide +kernel, by decide +kernel, by decide +kernel, by decide +kernel⟩
theorem nh_count : NumHead (cl "count") := ⟨by decide +kernel, by decide +kernel, by decide +kernel, by decide +kernel⟩
theorem nh_closed : NumHead (cl "closed") := ⟨by decide +kernel, by decide +kernel, by decide +kernel, by decide +kernel⟩
theorem nh_below : NumHead (cl "below") := ⟨by decide +kernel, by decide +kernel, by decide +kernel, by decide +kernel⟩
theorem sh9 : Verd (cl "rate") 2 := verdN (by decide) (ev_q_num_bad (h := cl "rate") (r := []) (line_of (by decide +kernel) (by decide +kernel) (by decide +kernel)) nh_rate (by decide +kernel) fun t ht => nomatch ht)
theorem sh10 : Verd (cl "rate 100") 2 := verdN (by decide) (ev_q_num_bad (h := cl "rate") (r := [cl "100"]) (line_of (by decide +kernel) (by decide +kernel) (by decide +kernel)) nh_rate (by decide +kernel) fun t ht => by cases ht; decide +kernel)
theorem sh11 : Verd (cl "below 1") 3 := verdN (by decide) (ev_q_two_bad2 (h := cl "below") (r := [cl "1"]) (t := cl "1") (line_of (by decide +kernel) (by decide +kernel) (by decide +kernel)) nh_below (by decide +kernel) rfl (by decide +kernel) fun t ht => nomatch ht)
theorem sh12 : Verd (cl "below 1 2 3") 4 := verdN (by decide) (ev_q_two_more (h := cl "below") (r := [cl "1", cl "2", cl "3"]) (t := cl "1") (u := cl "2") (line_of (by decide +kernel) (by decide +kernel) (by decide +kernel)) nh_below (by decide +kernel) rfl (by decide +kernel) rfl (by decide +kernel) (by decide))
theorem sh13 : Verd (cl "allowed 1 1") 3 := by
  have L : Line (cl "allowed 1 1") [cl "allowed", cl "1", cl "1"] := line_of (by decide +kernel) (by decide +kernel) (by decide +kernel)
  exact verdN (by decide) (ev_q_word_more L (by decide) (by decide +kernel) (by decide +kernel) (by decide +kernel) (ev_readword (ts := [cl "allowed", cl "1", cl "1"]) (i := 1) (l := cl "1") rfl (by decide +kernel) (by decide +kernel) (by decide +kernel)))
theorem sh14 : Verd (cl "allowed") 2 := by
  have L : Line (cl "allowed") [cl "allowed"] := line_of (by decide +kernel) (by decide +kernel) (by decide +kernel)
  exact verdN (by decide) (ev_q_word_bad L (by decide +kernel) (by decide +kernel) (by decide +kernel) (ev_readword_bad (ts := [cl "allowed"]) (i := 1) L.small fun t ht => nomatch ht))
theorem sh15 : Verd (cl "count 01") 2 := verdN (by decide) (ev_q_num_bad (h := cl "count") (r := [cl "01"]) (line_of (by decide +kernel) (by decide +kernel) (by decide +kernel)) nh_count (by decide +kernel) fun t ht => by cases ht; decide +kernel)
theorem sh16 : Verd (cl "closed -1") 2 := verdN (by decide) (ev_q_num_bad (h := cl "closed") (r := [cl "-", cl "1"]) (line_of (by decide +kernel) (by decide +kernel) (by decide +kernel)) nh_closed (by decide +kernel) fun t ht => by cases ht; decide +kernel)
theorem sh17 : Verd (cl "\tring") 1 := verdN (by decide) (ev_q_none (h := cl "\t") (r := [cl "ring"]) (line_of (by decide +kernel) (by decide +kernel) (by decide +kernel)) (by decide +kernel) (by decide +kernel) (by decide +kernel) (by decide +kernel))
def long61 : Str := ("allowed " : Str) ++ Txt.mul "0" 61
theorem sh18 : Verd (cl long61) 2 := by
  have L : Line (cl long61) [cl "allowed", List.replicate 61 48] := line_of (by decide +kernel) (by decide +kernel) (by decide +kernel)
  exact verdN (by decide) (ev_q_word_bad L (by decide +kernel) (by decide +kernel) (by decide +kernel) (ev_readword_bad (ts := [cl "allowed", List.replicate 61 48]) (i := 1) L.small fun t ht => by cases ht; exact ⟨by decide +kernel, by decide +kernel⟩))
abbrev shown : List (Str × Nat) := [("", 1), ("  ", 1), ("Ring", 1), ("rings", 1), ("ring ring", 2), ("flow", 2), ("flow  ", 2), ("sided", 2), ("rate", 2), ("rate 100", 2), ("below 1", 3), ("below 1 2 3", 4), ("allowed 1 1", 3), ("allowed", 2), ("count 01", 2), ("closed -1", 2), ("\tring", 1), (long61, 2)]
theorem shown_ok : ∀ q ∈ shown, Verd (cl q.1) q.2 ∧ q.2 ≠ 0 := by
  intro q hq
  rcases List.mem_cons.mp hq with rfl | hq
  · exact ⟨sh1, by decide⟩
  rcases List.mem_cons.mp hq with rfl | hq
  · exact ⟨sh2, by decide⟩
  rcases List.mem_cons.mp hq with rfl | hq
  · exact ⟨sh3, by decide⟩
  rcases List.mem_cons.mp hq with rfl | hq
  · exact ⟨sh4, by decide⟩
  rcases List.mem_cons.mp hq with rfl | hq
  · exact ⟨sh5, by decide⟩
  rcases List.mem_cons.mp hq with rfl | hq
  · exact ⟨sh6, by decide⟩
  rcases List.mem_cons.mp hq with rfl | hq
  · exact ⟨sh7, by decide⟩
  rcases List.mem_cons.mp hq with rfl | hq
  · exact ⟨sh8, by decide⟩
  rcases List.mem_cons.mp hq with rfl | hq
  · exact ⟨sh9, by decide⟩
  rcases List.mem_cons.mp hq with rfl | hq
  · exact ⟨sh10, by decide⟩
  rcases List.mem_cons.mp hq with rfl | hq
  · exact ⟨sh11, by decide⟩
  rcases List.mem_cons.mp hq with rfl | hq
  · exact ⟨sh12, by decide⟩
  rcases List.mem_cons.mp hq with rfl | hq
  · exact ⟨sh13, by decide⟩
  rcases List.mem_cons.mp hq with rfl | hq
  · exact ⟨sh14, by decide⟩
  rcases List.mem_cons.mp hq with rfl | hq
  · exact ⟨sh15, by decide⟩
  rcases List.mem_cons.mp hq with rfl | hq
  · exact ⟨sh16, by decide⟩
  rcases List.mem_cons.mp hq with rfl | hq
  · exact ⟨sh17, by decide⟩
  · obtain rfl := List.mem_singleton.mp hq
    exact ⟨sh18, by decide⟩
abbrev shP (q : Str × Nat) : PV := .tup [.str q.1, .int (q.2 : Int)]
abbrev shC : M Bool := mTest (mOp2 pNe (mCall m_l_line_fault (mArgV (mVar 5) (M.pure []))) (mCallP (pSz .tup) (mCons (M.pure (.str "text")) (mCons (M.pure (.int 1)) (mCons (mVar 6) (M.pure []))))))
theorem ev_shown {a b c d : Sl} {ps : List PV} (hp : ps = shown.map shP) : mComp [5, 6] (mAnyI (mVar 4)) (gTupP (gConsP (gSlot 5) (gConsP (gSlot 6) gNilP))) shC (mVar 5) [a, b, c, d, .ow (.lst ps), .no, .no] = .ok (.lst []) [a, b, c, d, .fr (.lst ps), .no, .no] := by
  have hr : mAnyI (mVar 4) [a, b, c, d, .ow (.lst ps), .no, .no] = .ok ps [a, b, c, d, .fr (.lst ps), .no, .no] := by
    simp only [decide_true, decide_false, e_enum0, e_enum1, e_enum2, e_forN, e_forC, e_lpN, e_lpC, e_lpB, e_lpR, e_lpE, e_body, e_gK, e_gSlot, e_gPair, e_asg, e_asgK, e_enum, e_lstP, e_opMap, e_callG, e_cgS, e_cgT, e_disp, e_toldM, e_toldO, e_toldE, e_toldK, e_extend, e_exS, e_exK, e_callO, e_ok, e_err, e_bad, e_okS, e_errS, e_badS, e_nx, e_rt, e_bk, e_ct, e_ex, e_bd, e_bind, e_pure, e_some, e_none, e_op1, e_op2, e_cons, e_test, e_callP, e_if, e_and, e_or, e_not, e_andV, e_orV, e_andT, e_andF, e_orT, e_orF, e_chain, e_chT, e_chF, e_part, e_sl, e_var, e_varF, e_varO, e_look, e_lookF, e_lookO, e_look1, e_argV, e_argS, e_slot, e_slotF, e_slotO, e_call, e_frz, e_lstO, e_listO, e_anyI, e_sThen, e_seq, e_next, e_brk, e_cnt, e_ret, e_drop, e_set, e_setO, e_ifS, e_raise, e_exn, e_for, boolP, partP, List.getElem?_cons_zero, List.getElem?_cons_succ, List.set_cons_zero, List.set_cons_succ, if_true, if_false, Bool.false_eq_true, Bool.not_true, Bool.not_false, e_vrt, e_vnx, e_xer, e_append, e_appS, e_appK, e_aug, e_augS, e_augK, e_pair, e_fr, e_ow, pSz, pLen, pAdd, frzO, sizeLine_eq, List.length_cons, List.length_nil, Nat.reduceAdd, Nat.reduceLeDiff, Nat.reduceLT, Nat.zero_add, Nat.zero_le, Nat.reduceSub, List.nil_append, List.cons_append, List.append_nil, List.map_cons, List.map_nil, List.replicate, anyP, seqP]
  have := comp_eval (vs := [5, 6]) (g := gTupP (gConsP (gSlot 5) (gConsP (gSlot 6) gNilP))) (c := shC) (e := mVar 5) (fun _ => false) id hr (by rw [hp, List.length_map, sizeLine_eq]; decide) fun p hpm => by
    rw [hp] at hpm
    obtain ⟨q, hq, rfl⟩ := List.mem_map.mp hpm
    obtain ⟨v, h0⟩ := shown_ok q hq
    have g := ev_fault v
    have ne := pNe_same (okP_fault q.2)
    have e : faultP q.2 = .tup [.str "text", .int 1, .int (q.2 : Int)] := by unfold faultP; rw [if_neg h0]
    rw [e] at g ne
    have g : Gives m_l_line_fault [.str q.1] (.tup [.str "text", .int 1, .int (q.2 : Int)]) := g
    refine ⟨[a, b, c, d, .fr (.lst ps), .fr (.str q.1), .fr (.int (q.2 : Int))], [a, b, c, d, .fr (.lst ps), .fr (.str q.1), .fr (.int (q.2 : Int))], rfl, ?_, fun _ => rfl, fun z => nomatch z⟩
    unfold shC
    simp only [decide_true, decide_false, e_enum0, e_enum1, e_enum2, e_forN, e_forC, e_lpN, e_lpC, e_lpB, e_lpR, e_lpE, e_body, e_gK, e_gSlot, e_gPair, e_asg, e_asgK, e_enum, e_lstP, e_opMap, e_callG, e_cgS, e_cgT, e_disp, e_toldM, e_toldO, e_toldE, e_toldK, e_extend, e_exS, e_exK, e_callO, e_ok, e_err, e_bad, e_okS, e_errS, e_badS, e_nx, e_rt, e_bk, e_ct, e_ex, e_bd, e_bind, e_pure, e_some, e_none, e_op1, e_op2, e_cons, e_test, e_callP, e_if, e_and, e_or, e_not, e_andV, e_orV, e_andT, e_andF, e_orT, e_orF, e_chain, e_chT, e_chF, e_part, e_sl, e_var, e_varF, e_varO, e_look, e_lookF, e_lookO, e_look1, e_argV, e_argS, e_slot, e_slotF, e_slotO, e_call, e_frz, e_lstO, e_listO, e_anyI, e_sThen, e_seq, e_next, e_brk, e_cnt, e_ret, e_drop, e_set, e_setO, e_ifS, e_raise, e_exn, e_for, boolP, partP, List.getElem?_cons_zero, List.getElem?_cons_succ, List.set_cons_zero, List.set_cons_succ, if_true, if_false, Bool.false_eq_true, Bool.not_true, Bool.not_false, e_vrt, e_vnx, e_xer, e_append, e_appS, e_appK, e_aug, e_augS, e_augK, e_pair, e_fr, e_ow, pSz, pLen, pAdd, frzO, sizeLine_eq, List.length_cons, List.length_nil, Nat.reduceAdd, Nat.reduceLeDiff, Nat.reduceLT, Nat.zero_add, Nat.zero_le, Nat.reduceSub, List.nil_append, List.cons_append, List.append_nil, List.map_cons, List.map_nil, List.replicate, c1 g, ne]
  refine this.trans ?_
  rw [List.filter_eq_nil_iff.mpr (fun _ _ => Bool.false_ne_true)]
  rfl
theorem add_long : pAdd (.str "allowed ") (.str (Txt.mul "0" 61)) = some (.str long61) := by
  show (if ("allowed " : Str).length + (Txt.mul "0" 61).length ≤ sizeLine then some (PV.str (("allowed " : Str) ++ Txt.mul "0" 61)) else none) = _
  rw [if_pos (by rw [sizeLine_eq]; decide +kernel)]; rfl
theorem mul61 : pMul (.str "0") (.int 61) = some (.str (Txt.mul "0" 61)) := by
  show (if 0 ≤ (61 : Int) ∧ (61 : Int) ≤ 1000 ∧ ("0" : Str).length ≤ 1000 then some (PV.str (Txt.mul "0" 61)) else none) = _
  rw [if_pos ⟨by decide, by decide, by decide +kernel⟩]
theorem mul20 : pMul (.str "012") (.int 20) = some (.str (Txt.mul "012" 20)) := by
  show (if 0 ≤ (20 : Int) ∧ (20 : Int) ≤ 1000 ∧ ("012" : Str).length ≤ 1000 then some (PV.str (Txt.mul "012" 20)) else none) = _
  rw [if_pos ⟨by decide, by decide, by decide +kernel⟩]
def long60 : Str := ("allowed " : Str) ++ Txt.mul "012" 20
theorem add_long60 : pAdd (.str "allowed ") (.str (Txt.mul "012" 20)) = some (.str long60) := by
  show (if ("allowed " : Str).length + (Txt.mul "012" 20).length ≤ sizeLine then some (PV.str (("allowed " : Str) ++ Txt.mul "012" 20)) else none) = _
  rw [if_pos (by rw [sizeLine_eq]; decide +kernel)]; rfl
abbrev ds60 : List PV := (List.replicate 20 [PV.int 0, .int 1, .int 2]).flatten
theorem tup20 : pMul (.tup [.int 0, .int 1, .int 2]) (.int 20) = some (.tup ds60) := by
  show (if 2 ≤ (20 : Int) ∧ (20 : Int) ≤ 1000 ∧ [PV.int 0, .int 1, .int 2].length ≤ 1000 ∧ [PV.int 0, .int 1, .int 2] ≠ [] then some (PV.tup (List.replicate (20 : Int).toNat [PV.int 0, .int 1, .int 2]).flatten) else none) = _
  rw [if_pos ⟨by decide, by decide, by decide, List.cons_ne_nil _ _⟩]; rfl
theorem ev_last1 : Gives m_question_of_text [.str "flow ways 1; row 2"] (.tup [.str "flow", .str "ways 1\n row 2"]) := by
  have L : Line (cl "flow ways 1; row 2") [cl "flow", cl "ways", cl "1", cl ";", cl "row", cl "2"] := line_of (by decide +kernel) (by decide +kernel) (by decide +kernel)
  have g := ev_q_flow L (by decide +kernel) (by decide +kernel)
  have e : Txt.replace (strL (restL (cl "flow ways 1; row 2") (cl "flow").length)) ";" "\n" = "ways 1\n row 2" := by decide +kernel
  rw [e] at g
  exact g
abbrev w60 : List Nat := (List.replicate 20 [48, 49, 50]).flatten
theorem ev_last2 : Gives m_question_of_text [.str long60] (.tup [.str "allowed", .tup ds60]) := by
  have L : Line (cl long60) [cl "allowed", w60] := line_of (by decide +kernel) (by decide +kernel) (by decide +kernel)
  have g := ev_q_word L rfl (by decide +kernel) (by decide +kernel) (by decide +kernel) (ev_readword (ts := [cl "allowed", w60]) (i := 1) (l := w60) rfl (by decide +kernel) (by decide +kernel) (by decide +kernel))
  exact g
theorem is_last1 : Gives (m_l_is 8) [.tup [.str "flow", .str "ways 1\n row 2"], .tup [.str "flow", .str "ways 1\n row 2"]] (.bl true) := by
  refine is_tup 7 (by simp) fun p hp => ?_
  rcases List.mem_cons.mp hp with rfl | hp
  · exact is_str 6 _
  · obtain rfl := List.mem_singleton.mp hp
    exact is_str 6 _
theorem is_last2 : Gives (m_l_is 8) [.tup [.str "allowed", .tup ds60], .tup [.str "allowed", .tup ds60]] (.bl true) := by
  refine is_tup 7 (by simp) fun p hp => ?_
  rcases List.mem_cons.mp hp with rfl | hp
  · exact is_str 6 _
  · obtain rfl := List.mem_singleton.mp hp
    refine is_tup 6 (by decide) fun p hp => ?_
    obtain ⟨l, hl, hp⟩ := List.mem_flatten.mp hp
    rw [(List.mem_replicate.mp hl).2] at hp
    rcases List.mem_cons.mp hp with rfl | hp
    · exact is_int 5 _
    · rcases List.mem_cons.mp hp with rfl | hp
      · exact is_int 5 _
      · obtain rfl := List.mem_singleton.mp hp
        exact is_int 5 _
/-! ### the law -/
abbrev LB : MS := (mSeq (mIfS (mNot (mTest (mCall m_l_right (mArgS 1 (M.pure []))))) (mSeq (mRet (M.pure (.bl false))) mNext) mNext) mNext)
theorem ev_law (cs : List Int) : ∃ ρ, b_law [.fr (.sq (cs.map PV.int)), .no, .no, .no, .no, .no, .no] = .rt (.bl true) ρ := by
  obtain ⟨o, ss, hp, P⟩ := ev_pen cs
  generalize hsc : PV.sq (cs.map PV.int) = sc at *
  have key := for_eval (b := bodyM (gSlot 2) LB) (fun qs ρ => ∃ o s, Pen o ∧ ρ = [.fr sc, .ow o, s, .no, .no, .no, .no])
    (ps := (List.range 8).map fun (k : Nat) => PV.int (k : Int)) (ρ := [.fr sc, .ow o, .no, .no, .no, .no, .no]) ⟨o, _, P, rfl⟩ (by
      rintro p qs ρ ⟨o, s, P, rfl⟩
      obtain ⟨o', h, P'⟩ := ev_l_right P
      refine ⟨[.fr sc, .ow o', .fr p, .no, .no, .no, .no], ?_, o', _, P', rfl⟩
      show LB [.fr sc, .ow o, .fr p, .no, .no, .no, .no] = _
      unfold LB
      simp only [decide_true, decide_false, e_enum0, e_enum1, e_enum2, e_forN, e_forC, e_lpN, e_lpC, e_lpB, e_lpR, e_lpE, e_body, e_gK, e_gSlot, e_gPair, e_asg, e_asgK, e_enum, e_lstP, e_opMap, e_callG, e_cgS, e_cgT, e_disp, e_toldM, e_toldO, e_toldE, e_toldK, e_extend, e_exS, e_exK, e_callO, e_ok, e_err, e_bad, e_okS, e_errS, e_badS, e_nx, e_rt, e_bk, e_ct, e_ex, e_bd, e_bind, e_pure, e_some, e_none, e_op1, e_op2, e_cons, e_test, e_callP, e_if, e_and, e_or, e_not, e_andV, e_orV, e_andT, e_andF, e_orT, e_orF, e_chain, e_chT, e_chF, e_part, e_sl, e_var, e_varF, e_varO, e_look, e_lookF, e_lookO, e_look1, e_argV, e_argS, e_slot, e_slotF, e_slotO, e_call, e_frz, e_lstO, e_listO, e_anyI, e_sThen, e_seq, e_next, e_brk, e_cnt, e_ret, e_drop, e_set, e_setO, e_ifS, e_raise, e_exn, e_for, boolP, partP, List.getElem?_cons_zero, List.getElem?_cons_succ, List.set_cons_zero, List.set_cons_succ, if_true, if_false, Bool.false_eq_true, Bool.not_true, Bool.not_false, e_vrt, e_vnx, e_xer, e_append, e_appS, e_appK, e_aug, e_augS, e_augK, e_pair, e_fr, e_ow, pSz, pLen, pAdd, frzO, sizeLine_eq, List.length_cons, List.length_nil, Nat.reduceAdd, Nat.reduceLeDiff, Nat.reduceLT, Nat.zero_add, Nat.zero_le, Nat.reduceSub, List.nil_append, List.cons_append, List.append_nil, List.map_cons, List.map_nil, List.replicate, d0' h])
  obtain ⟨ρ', ef, o2, s2, P2, rfl⟩ := key
  obtain ⟨bd, o3, h3, P3, hb⟩ := ev_pick (ps := [PV.non, .int 3, .bl true, .lst [.str "ring"]]) P2 (by simp) (by simp)
  have nb : pIsi [bd, .ty "str"] = some (.bl false) := by
    rcases List.mem_cons.mp hb with rfl | hb
    · rfl
    rcases List.mem_cons.mp hb with rfl | hb
    · rfl
    rcases List.mem_cons.mp hb with rfl | hb
    · rfl
    · obtain rfl := List.mem_singleton.mp hb; rfl
  have fb := ev_fault_bad nb
  have ne : pNe (.tup [.str "text", .int 0, .int 0]) (.tup [.str "text", .int 0, .int 0]) = some (.bl false) := pNe_same (by with_unfolding_all rfl)
  have ne0 : pNe (.lst []) (.lst []) = some (.bl false) := pNe_same (by decide)
  have r8 : pRange1 (.int 8) = some ((List.range 8).map fun (k : Nat) => PV.int (k : Int)) := rng_len (n := 8) (by omega)
  have es : ∀ a b c d, mComp [5, 6] (mAnyI (mVar 4)) (gTupP (gConsP (gSlot 5) (gConsP (gSlot 6) gNilP))) shC (mVar 5) [a, b, c, d, .ow (.lst [.tup [.str "", .int 1], .tup [.str "  ", .int 1], .tup [.str "Ring", .int 1], .tup [.str "rings", .int 1], .tup [.str "ring ring", .int 2], .tup [.str "flow", .int 2], .tup [.str "flow  ", .int 2], .tup [.str "sided", .int 2], .tup [.str "rate", .int 2], .tup [.str "rate 100", .int 2], .tup [.str "below 1", .int 3], .tup [.str "below 1 2 3", .int 4], .tup [.str "allowed 1 1", .int 3], .tup [.str "allowed", .int 2], .tup [.str "count 01", .int 2], .tup [.str "closed -1", .int 2], .tup [.str "\tring", .int 1], .tup [.str long61, .int 2]]), .no, .no] = .ok (.lst []) [a, b, c, d, .fr (.lst [.tup [.str "", .int 1], .tup [.str "  ", .int 1], .tup [.str "Ring", .int 1], .tup [.str "rings", .int 1], .tup [.str "ring ring", .int 2], .tup [.str "flow", .int 2], .tup [.str "flow  ", .int 2], .tup [.str "sided", .int 2], .tup [.str "rate", .int 2], .tup [.str "rate 100", .int 2], .tup [.str "below 1", .int 3], .tup [.str "below 1 2 3", .int 4], .tup [.str "allowed 1 1", .int 3], .tup [.str "allowed", .int 2], .tup [.str "count 01", .int 2], .tup [.str "closed -1", .int 2], .tup [.str "\tring", .int 1], .tup [.str long61, .int 2]]), .no, .no] := fun a b c d => ev_shown rfl
  refine ⟨[.fr sc, .ow o3, s2, .fr bd, .fr (.lst [.tup [.str "", .int 1], .tup [.str "  ", .int 1], .tup [.str "Ring", .int 1], .tup [.str "rings", .int 1], .tup [.str "ring ring", .int 2], .tup [.str "flow", .int 2], .tup [.str "flow  ", .int 2], .tup [.str "sided", .int 2], .tup [.str "rate", .int 2], .tup [.str "rate 100", .int 2], .tup [.str "below 1", .int 3], .tup [.str "below 1 2 3", .int 4], .tup [.str "allowed 1 1", .int 3], .tup [.str "allowed", .int 2], .tup [.str "count 01", .int 2], .tup [.str "closed -1", .int 2], .tup [.str "\tring", .int 1], .tup [.str long61, .int 2]]), .no, .no], ?_⟩
  have pen : ∀ ρ : PEnv, callRO m_l_pen [.val sc] ρ = .ok o ρ := fun ρ => callO1 hp
  unfold b_law
  generalize hLB : bodyM (gSlot 2) LB = lb at ef
  generalize (List.range 8).map (fun (k : Nat) => PV.int (k : Int)) = eight at ef r8
  unfold LB at hLB
  generalize hCP : mComp [5, 6] (mAnyI (mVar 4)) (gTupP (gConsP (gSlot 5) (gConsP (gSlot 6) gNilP))) shC (mVar 5) = cp at es
  simp only [decide_true, decide_false, e_enum0, e_enum1, e_enum2, e_forN, e_forC, e_lpN, e_lpC, e_lpB, e_lpR, e_lpE, e_body, e_gK, e_gSlot, e_gPair, e_asg, e_asgK, e_enum, e_lstP, e_opMap, e_callG, e_cgS, e_cgT, e_disp, e_toldM, e_toldO, e_toldE, e_toldK, e_extend, e_exS, e_exK, e_callO, e_ok, e_err, e_bad, e_okS, e_errS, e_badS, e_nx, e_rt, e_bk, e_ct, e_ex, e_bd, e_bind, e_pure, e_some, e_none, e_op1, e_op2, e_cons, e_test, e_callP, e_if, e_and, e_or, e_not, e_andV, e_orV, e_andT, e_andF, e_orT, e_orF, e_chain, e_chT, e_chF, e_part, e_sl, e_var, e_varF, e_varO, e_look, e_lookF, e_lookO, e_look1, e_argV, e_argS, e_slot, e_slotF, e_slotO, e_call, e_frz, e_lstO, e_listO, e_anyI, e_sThen, e_seq, e_next, e_brk, e_cnt, e_ret, e_drop, e_set, e_setO, e_ifS, e_raise, e_exn, e_for, boolP, partP, List.getElem?_cons_zero, List.getElem?_cons_succ, List.set_cons_zero, List.set_cons_succ, if_true, if_false, Bool.false_eq_true, Bool.not_true, Bool.not_false, e_vrt, e_vnx, e_xer, e_append, e_appS, e_appK, e_aug, e_augS, e_augK, e_pair, e_fr, e_ow, pSz, pLen, frzO, sizeLine_eq, List.length_cons, List.length_nil, Nat.reduceAdd, Nat.reduceLeDiff, Nat.reduceLT, Nat.zero_add, Nat.zero_le, Nat.reduceSub, List.nil_append, List.cons_append, List.append_nil, List.map_cons, List.map_nil, List.replicate, pen, e_range1, r8, hLB, ef, d1' h3, c1 fb, ne, add_long, mul61, es, ne0, c1 ev_last1, c2 is_last1, mul20, add_long60, tup20, c1 ev_last2, c2 is_last2]
theorem law_true (ns : List Int) : ∃ ρ, m_law [.fr (.sq (ns.map PV.int))] = .ok (.bl true) ρ := by
  obtain ⟨ρ, h⟩ := ev_law ns
  refine ⟨argsBack (fun _ => false) 0 [.fr (.sq (ns.map PV.int))] ρ, ?_⟩
  have h : b_law ([.fr (.sq (ns.map PV.int))] ++ List.replicate (7 - 1) .no) = .rt (.bl true) ρ := h
  unfold m_law fnM
  rw [h]
end
end K75

set_option Elab.async false
set_option linter.all false
set_option maxRecDepth 100000
set_option maxHeartbeats 4000000
namespace K75
open PySem PySem.Spec PyProof.Rows L2 LamX VS PySem.HandSPX
noncomputable section
def faOf (f1 f2 f3 f4 f5 f6 f7 f8 f9 f10 f11 f12 f13 f14 f15 f16 f17 f21 f22 f23 f24 f25 f32 f33 f34 f35 f36 f37 f38 f39 f41 f42 f43 f44 f45 f46 f47 f48 f49 f50 f51 f52 f53 f54 f55 f508 cc PP : Addr) : Nat → Addr := fun i =>
  match i with
  | 1 => f1
  | 2 => f2
  | 3 => f3
  | 4 => f4
  | 5 => f5
  | 6 => f6
  | 7 => f7
  | 8 => f8
  | 9 => f9
  | 10 => f10
  | 11 => f11
  | 12 => f12
  | 13 => f13
  | 14 => f14
  | 15 => f15
  | 16 => f16
  | 17 => f17
  | 21 => f21
  | 22 => f22
  | 23 => f23
  | 24 => f24
  | 25 => f25
  | 32 => f32
  | 33 => f33
  | 34 => f34
  | 35 => f35
  | 36 => f36
  | 37 => f37
  | 38 => f38
  | 39 => f39
  | 41 => f41
  | 42 => f42
  | 43 => f43
  | 44 => f44
  | 45 => f45
  | 46 => f46
  | 47 => f47
  | 48 => f48
  | 49 => f49
  | 50 => f50
  | 51 => f51
  | 52 => f52
  | 53 => f53
  | 54 => f54
  | 55 => f55
  | 508 => f508
  | 900 => cc
  | 901 => PP
  | _ => 0
def fdOf (g21 g22 g23 g24 g25 g32 g33 g34 g35 g36 g37 g38 g39 g41 g42 g43 g44 g47 g46 g45 g48 g49 g50 g51 g52 g53 g54 g55 g508 : FuncData) : Nat → FuncData := fun i =>
  match i with
  | 21 => g21
  | 22 => g22
  | 23 => g23
  | 24 => g24
  | 25 => g25
  | 32 => g32
  | 33 => g33
  | 34 => g34
  | 35 => g35
  | 36 => g36
  | 37 => g37
  | 38 => g38
  | 39 => g39
  | 41 => g41
  | 42 => g42
  | 43 => g43
  | 44 => g44
  | 45 => g45
  | 46 => g46
  | 47 => g47
  | 48 => g48
  | 49 => g49
  | 50 => g50
  | 51 => g51
  | 52 => g52
  | 53 => g53
  | 54 => g54
  | 55 => g55
  | 508 => g508
  | _ => g55
theorem all_mk {l : PySem.W.OpenLaw} {w : World} {K : PySem.W.Frag} {h : Heap} {mg : Str → Option Value} {fL : Addr} (X : K.In h) (G : h.Ns mainGlobals mg) (hm : mg "law" = some (.ref fL))
    {f1 f2 f3 f4 f5 f6 f7 f8 f9 f10 f11 f12 f13 f14 f15 f16 f17 f21 f22 f23 f24 f25 f32 f33 f34 f35 f36 f37 f38 f39 f41 f42 f43 f44 f47 f46 f45 f48 f49 f50 f51 f52 f53 f54 f55 ad_BARE ad_NUMBERED f508 cc PP : Addr} {od21 an21 od22 an22 od23 an23 od24 an24 od25 an25 od32 an32 od33 an33 od34 an34 od35 an35 od36 an36 od37 an37 od38 an38 od39 an39 od41 an41 od42 an42 od43 an43 od44 an44 od47 an47 od46 an46 od45 an45 od48 an48 od49 an49 od50 an50 od51 an51 od52 an52 od53 an53 od54 an54 od55 an55 do_BARE do_NUMBERED od508 an508 : Option Addr} {oc21 kV21 dc21 pm21 ct21 cd21 oc22 kV22 dc22 pm22 ct22 cd22 oc23 kV23 dc23 pm23 ct23 cd23 oc24 kV24 dc24 pm24 ct24 cd24 oc25 kV25 dc25 pm25 ct25 cd25 oc32 kV32 dc32 pm32 ct32 cd32 oc33 kV33 dc33 pm33 ct33 cd33 oc34 kV34 dc34 pm34 ct34 cd34 oc35 kV35 dc35 pm35 ct35 cd35 oc36 kV36 dc36 pm36 ct36 cd36 oc37 kV37 dc37 pm37 ct37 cd37 oc38 kV38 dc38 pm38 ct38 cd38 oc39 kV39 dc39 pm39 ct39 cd39 oc41 kV41 dc41 pm41 ct41 cd41 oc42 kV42 dc42 pm42 ct42 cd42 oc43 kV43 dc43 pm43 ct43 cd43 oc44 kV44 dc44 pm44 ct44 cd44 oc47 kV47 dc47 pm47 ct47 cd47 oc46 kV46 dc46 pm46 ct46 cd46 oc45 kV45 dc45 pm45 ct45 cd45 oc48 kV48 dc48 pm48 ct48 oc49 kV49 dc49 pm49 ct49 cd49 oc50 kV50 dc50 pm50 ct50 cd50 oc51 kV51 dc51 pm51 ct51 cd51 oc52 kV52 dc52 pm52 ct52 cd52 oc53 kV53 dc53 pm53 ct53 cd53 oc54 kV54 dc54 pm54 ct54 cd54 oc55 kV55 dc55 pm55 ct55 cd55 oc508 kV508 dc508 pm508 ct508 cd508 : Value} {sl21 sl22 sl23 sl24 sl25 sl32 sl33 sl34 sl35 sl36 sl37 sl38 sl39 sl41 sl42 sl43 sl44 sl47 sl46 sl45 sl48 sl49 sl50 sl51 sl52 sl53 sl54 sl55 sa_BARE sa_NUMBERED sl508 : Array (Option Value)} {t_SMALL t_FIGURES t_MOST_FIGURES t_MOST_SHOWN t_MOST_LONG t_BARE_0 t_BARE_1 t_BARE_2 t_BARE_3 t_BARE_4 t_BARE_5 t_BARE_6 t_BARE_7 t_NUMBERED_0 t_NUMBERED_1 t_NUMBERED_2 t_NUMBERED_3 : Tok} {nn_BARE nn_NUMBERED : Nat} {nm8 q8 : Str} {N8 : Addr} {bs8 bm8 sub8 : List Value} {sn8 : List Str} {ab8 : Bool} {col8 : Option Bool} {dd8 : Option Addr} {ka8 kb8 kc8 kd8 ke8 : Option Value}
    (a1 : PySem.W.nsIn K mainGlobals "ShiftError" = some (some (.ref f1)))
    (a2 : PySem.W.nsIn K mainGlobals "BadNumber" = some (some (.ref f2)))
    (a3 : PySem.W.nsIn K mainGlobals "BadRow" = some (some (.ref f3)))
    (a4 : PySem.W.nsIn K mainGlobals "BadWord" = some (some (.ref f4)))
    (a5 : PySem.W.nsIn K mainGlobals "BadTable" = some (some (.ref f5)))
    (a6 : PySem.W.nsIn K mainGlobals "BadBook" = some (some (.ref f6)))
    (a7 : PySem.W.nsIn K mainGlobals "BadName" = some (some (.ref f7)))
    (a8 : PySem.W.nsIn K mainGlobals "BadText" = some (some (.ref f8)))
    (a9 : PySem.W.nsIn K mainGlobals "NoPlace" = some (some (.ref f9)))
    (a10 : PySem.W.nsIn K mainGlobals "NoName" = some (some (.ref f10)))
    (a11 : PySem.W.nsIn K mainGlobals "TakenName" = some (some (.ref f11)))
    (a12 : PySem.W.nsIn K mainGlobals "Unlike" = some (some (.ref f12)))
    (a13 : PySem.W.nsIn K mainGlobals "NotThere" = some (some (.ref f13)))
    (a14 : PySem.W.nsIn K mainGlobals "TooMany" = some (some (.ref f14)))
    (a15 : PySem.W.nsIn K mainGlobals "NotKept" = some (some (.ref f15)))
    (a16 : PySem.W.nsIn K mainGlobals "NothingToUndo" = some (some (.ref f16)))
    (a17 : PySem.W.nsIn K mainGlobals "NothingToRedo" = some (some (.ref f17)))
    (a21 : PySem.W.nsIn K mainGlobals "need_string" = some (some (.ref f21)))
    (l21 : K.lookup f21 = some ⟨oc21, od21, .func (PySem.W.fnOf "need_string" "need_string" (defArgs s_need_string) (defBody s_need_string) (defScope s_need_string) .none kV21 dc21 pm21 an21 cd21 ct21), sl21⟩)
    (c21 : PySem.W.codeIn K cd21 "need_string" = true)
    (k21 : PySem.W.keepIn K (.ref f21) = true)
    (a22 : PySem.W.nsIn K mainGlobals "run_of" = some (some (.ref f22)))
    (l22 : K.lookup f22 = some ⟨oc22, od22, .func (PySem.W.fnOf "run_of" "run_of" (defArgs s_run_of) (defBody s_run_of) (defScope s_run_of) .none kV22 dc22 pm22 an22 cd22 ct22), sl22⟩)
    (c22 : PySem.W.codeIn K cd22 "run_of" = true)
    (k22 : PySem.W.keepIn K (.ref f22) = true)
    (a23 : PySem.W.nsIn K mainGlobals "tokens_of" = some (some (.ref f23)))
    (l23 : K.lookup f23 = some ⟨oc23, od23, .func (PySem.W.fnOf "tokens_of" "tokens_of" (defArgs s_tokens_of) (defBody s_tokens_of) (defScope s_tokens_of) .none kV23 dc23 pm23 an23 cd23 ct23), sl23⟩)
    (c23 : PySem.W.codeIn K cd23 "tokens_of" = true)
    (k23 : PySem.W.keepIn K (.ref f23) = true)
    (a24 : PySem.W.nsIn K mainGlobals "need_end" = some (some (.ref f24)))
    (l24 : K.lookup f24 = some ⟨oc24, od24, .func (PySem.W.fnOf "need_end" "need_end" (defArgs s_need_end) (defBody s_need_end) (defScope s_need_end) .none kV24 dc24 pm24 an24 cd24 ct24), sl24⟩)
    (c24 : PySem.W.codeIn K cd24 "need_end" = true)
    (k24 : PySem.W.keepIn K (.ref f24) = true)
    (a25 : PySem.W.nsIn K mainGlobals "is_numeral" = some (some (.ref f25)))
    (l25 : K.lookup f25 = some ⟨oc25, od25, .func (PySem.W.fnOf "is_numeral" "is_numeral" (defArgs s_is_numeral) (defBody s_is_numeral) (defScope s_is_numeral) .none kV25 dc25 pm25 an25 cd25 ct25), sl25⟩)
    (c25 : PySem.W.codeIn K cd25 "is_numeral" = true)
    (k25 : PySem.W.keepIn K (.ref f25) = true)
    (a32 : PySem.W.nsIn K mainGlobals "read_numeral" = some (some (.ref f32)))
    (l32 : K.lookup f32 = some ⟨oc32, od32, .func (PySem.W.fnOf "read_numeral" "read_numeral" (defArgs s_read_numeral) (defBody s_read_numeral) (defScope s_read_numeral) .none kV32 dc32 pm32 an32 cd32 ct32), sl32⟩)
    (c32 : PySem.W.codeIn K cd32 "read_numeral" = true)
    (k32 : PySem.W.keepIn K (.ref f32) = true)
    (a33 : PySem.W.nsIn K mainGlobals "is_letters" = some (some (.ref f33)))
    (l33 : K.lookup f33 = some ⟨oc33, od33, .func (PySem.W.fnOf "is_letters" "is_letters" (defArgs s_is_letters) (defBody s_is_letters) (defScope s_is_letters) .none kV33 dc33 pm33 an33 cd33 ct33), sl33⟩)
    (c33 : PySem.W.codeIn K cd33 "is_letters" = true)
    (k33 : PySem.W.keepIn K (.ref f33) = true)
    (a34 : PySem.W.nsIn K mainGlobals "word_in" = some (some (.ref f34)))
    (l34 : K.lookup f34 = some ⟨oc34, od34, .func (PySem.W.fnOf "word_in" "word_in" (defArgs s_word_in) (defBody s_word_in) (defScope s_word_in) .none kV34 dc34 pm34 an34 cd34 ct34), sl34⟩)
    (c34 : PySem.W.codeIn K cd34 "word_in" = true)
    (k34 : PySem.W.keepIn K (.ref f34) = true)
    (a35 : PySem.W.nsIn K mainGlobals "read_word" = some (some (.ref f35)))
    (l35 : K.lookup f35 = some ⟨oc35, od35, .func (PySem.W.fnOf "read_word" "read_word" (defArgs s_read_word) (defBody s_read_word) (defScope s_read_word) .none kV35 dc35 pm35 an35 cd35 ct35), sl35⟩)
    (c35 : PySem.W.codeIn K cd35 "read_word" = true)
    (k35 : PySem.W.keepIn K (.ref f35) = true)
    (a36 : PySem.W.nsIn K mainGlobals "rest_behind" = some (some (.ref f36)))
    (l36 : K.lookup f36 = some ⟨oc36, od36, .func (PySem.W.fnOf "rest_behind" "rest_behind" (defArgs s_rest_behind) (defBody s_rest_behind) (defScope s_rest_behind) .none kV36 dc36 pm36 an36 cd36 ct36), sl36⟩)
    (c36 : PySem.W.codeIn K cd36 "rest_behind" = true)
    (k36 : PySem.W.keepIn K (.ref f36) = true)
    (a37 : PySem.W.nsIn K mainGlobals "read_inner" = some (some (.ref f37)))
    (l37 : K.lookup f37 = some ⟨oc37, od37, .func (PySem.W.fnOf "read_inner" "read_inner" (defArgs s_read_inner) (defBody s_read_inner) (defScope s_read_inner) .none kV37 dc37 pm37 an37 cd37 ct37), sl37⟩)
    (c37 : PySem.W.codeIn K cd37 "read_inner" = true)
    (k37 : PySem.W.keepIn K (.ref f37) = true)
    (a38 : PySem.W.nsIn K mainGlobals "question_in" = some (some (.ref f38)))
    (l38 : K.lookup f38 = some ⟨oc38, od38, .func (PySem.W.fnOf "question_in" "question_in" (defArgs s_question_in) (defBody s_question_in) (defScope s_question_in) .none kV38 dc38 pm38 an38 cd38 ct38), sl38⟩)
    (c38 : PySem.W.codeIn K cd38 "question_in" = true)
    (k38 : PySem.W.keepIn K (.ref f38) = true)
    (a39 : PySem.W.nsIn K mainGlobals "question_of_text" = some (some (.ref f39)))
    (l39 : K.lookup f39 = some ⟨oc39, od39, .func (PySem.W.fnOf "question_of_text" "question_of_text" (defArgs s_question_of_text) (defBody s_question_of_text) (defScope s_question_of_text) .none kV39 dc39 pm39 an39 cd39 ct39), sl39⟩)
    (c39 : PySem.W.codeIn K cd39 "question_of_text" = true)
    (k39 : PySem.W.keepIn K (.ref f39) = true)
    (a41 : PySem.W.nsIn K mainGlobals "_law_pen" = some (some (.ref f41)))
    (l41 : K.lookup f41 = some ⟨oc41, od41, .func (PySem.W.fnOf "_law_pen" "_law_pen" (defArgs s_l_pen) (defBody s_l_pen) (defScope s_l_pen) .none kV41 dc41 pm41 an41 cd41 ct41), sl41⟩)
    (c41 : PySem.W.codeIn K cd41 "_law_pen" = true)
    (k41 : PySem.W.keepIn K (.ref f41) = true)
    (a42 : PySem.W.nsIn K mainGlobals "_law_draw" = some (some (.ref f42)))
    (l42 : K.lookup f42 = some ⟨oc42, od42, .func (PySem.W.fnOf "_law_draw" "_law_draw" (defArgs s_l_draw) (defBody s_l_draw) (defScope s_l_draw) .none kV42 dc42 pm42 an42 cd42 ct42), sl42⟩)
    (c42 : PySem.W.codeIn K cd42 "_law_draw" = true)
    (k42 : PySem.W.keepIn K (.ref f42) = true)
    (a43 : PySem.W.nsIn K mainGlobals "_law_pick" = some (some (.ref f43)))
    (l43 : K.lookup f43 = some ⟨oc43, od43, .func (PySem.W.fnOf "_law_pick" "_law_pick" (defArgs s_l_pick) (defBody s_l_pick) (defScope s_l_pick) .none kV43 dc43 pm43 an43 cd43 ct43), sl43⟩)
    (c43 : PySem.W.codeIn K cd43 "_law_pick" = true)
    (k43 : PySem.W.keepIn K (.ref f43) = true)
    (a44 : PySem.W.nsIn K mainGlobals "_law_is" = some (some (.ref f44)))
    (l44 : K.lookup f44 = some ⟨oc44, od44, .func (PySem.W.fnOf "_law_is" "_law_is" (defArgs s_l_is) (defBody s_l_is) (defScope s_l_is) .none kV44 dc44 pm44 an44 cd44 ct44), sl44⟩)
    (c44 : PySem.W.codeIn K cd44 "_law_is" = true)
    (k44 : PySem.W.keepIn K (.ref f44) = true)
    (a47 : PySem.W.nsIn K mainGlobals "_law_more_kinds" = some (some (.ref f47)))
    (l47 : K.lookup f47 = some ⟨oc47, od47, .func (PySem.W.fnOf "_law_more_kinds" "_law_more_kinds" (defArgs s_l_more_kinds) (defBody s_l_more_kinds) (defScope s_l_more_kinds) .none kV47 dc47 pm47 an47 cd47 ct47), sl47⟩)
    (c47 : PySem.W.codeIn K cd47 "_law_more_kinds" = true)
    (k47 : PySem.W.keepIn K (.ref f47) = true)
    (a46 : PySem.W.nsIn K mainGlobals "_law_kinds" = some (some (.ref f46)))
    (l46 : K.lookup f46 = some ⟨oc46, od46, .func (PySem.W.fnOf "_law_kinds" "_law_kinds" (defArgs s_l_kinds) (defBody s_l_kinds) (defScope s_l_kinds) .none kV46 dc46 pm46 an46 cd46 ct46), sl46⟩)
    (c46 : PySem.W.codeIn K cd46 "_law_kinds" = true)
    (k46 : PySem.W.keepIn K (.ref f46) = true)
    (a45 : PySem.W.nsIn K mainGlobals "_law_fault" = some (some (.ref f45)))
    (l45 : K.lookup f45 = some ⟨oc45, od45, .func (PySem.W.fnOf "_law_fault" "_law_fault" (defArgs s_l_fault) (defBody s_l_fault) (defScope s_l_fault) .none kV45 dc45 pm45 an45 cd45 ct45), sl45⟩)
    (c45 : PySem.W.codeIn K cd45 "_law_fault" = true)
    (k45 : PySem.W.keepIn K (.ref f45) = true)
    (a48 : PySem.W.nsIn K mainGlobals "_law_line_fault" = some (some (.ref f48)))
    (l48 : K.lookup f48 = some ⟨oc48, od48, .func (PySem.W.fnOf "_law_line_fault" "_law_line_fault" (defArgs s_l_line_fault) (defBody s_l_line_fault) (defScope s_l_line_fault) .none kV48 dc48 pm48 an48 (.ref cc) ct48), sl48⟩)
    (c48 : PySem.W.codeIn K (.ref cc) "_law_line_fault" = true)
    (k48 : PySem.W.keepIn K (.ref f48) = true)
    (a49 : PySem.W.nsIn K mainGlobals "_law_bare" = some (some (.ref f49)))
    (l49 : K.lookup f49 = some ⟨oc49, od49, .func (PySem.W.fnOf "_law_bare" "_law_bare" (defArgs s_l_bare) (defBody s_l_bare) (defScope s_l_bare) .none kV49 dc49 pm49 an49 cd49 ct49), sl49⟩)
    (c49 : PySem.W.codeIn K cd49 "_law_bare" = true)
    (k49 : PySem.W.keepIn K (.ref f49) = true)
    (a50 : PySem.W.nsIn K mainGlobals "_law_question" = some (some (.ref f50)))
    (l50 : K.lookup f50 = some ⟨oc50, od50, .func (PySem.W.fnOf "_law_question" "_law_question" (defArgs s_l_question) (defBody s_l_question) (defScope s_l_question) .none kV50 dc50 pm50 an50 cd50 ct50), sl50⟩)
    (c50 : PySem.W.codeIn K cd50 "_law_question" = true)
    (k50 : PySem.W.keepIn K (.ref f50) = true)
    (a51 : PySem.W.nsIn K mainGlobals "_law_is_numeral" = some (some (.ref f51)))
    (l51 : K.lookup f51 = some ⟨oc51, od51, .func (PySem.W.fnOf "_law_is_numeral" "_law_is_numeral" (defArgs s_l_is_numeral) (defBody s_l_is_numeral) (defScope s_l_is_numeral) .none kV51 dc51 pm51 an51 cd51 ct51), sl51⟩)
    (c51 : PySem.W.codeIn K cd51 "_law_is_numeral" = true)
    (k51 : PySem.W.keepIn K (.ref f51) = true)
    (a52 : PySem.W.nsIn K mainGlobals "_law_is_word" = some (some (.ref f52)))
    (l52 : K.lookup f52 = some ⟨oc52, od52, .func (PySem.W.fnOf "_law_is_word" "_law_is_word" (defArgs s_l_is_word) (defBody s_l_is_word) (defScope s_l_is_word) .none kV52 dc52 pm52 an52 cd52 ct52), sl52⟩)
    (c52 : PySem.W.codeIn K cd52 "_law_is_word" = true)
    (k52 : PySem.W.keepIn K (.ref f52) = true)
    (a53 : PySem.W.nsIn K mainGlobals "_law_wrong" = some (some (.ref f53)))
    (l53 : K.lookup f53 = some ⟨oc53, od53, .func (PySem.W.fnOf "_law_wrong" "_law_wrong" (defArgs s_l_wrong) (defBody s_l_wrong) (defScope s_l_wrong) .none kV53 dc53 pm53 an53 cd53 ct53), sl53⟩)
    (c53 : PySem.W.codeIn K cd53 "_law_wrong" = true)
    (k53 : PySem.W.keepIn K (.ref f53) = true)
    (a54 : PySem.W.nsIn K mainGlobals "_law_right" = some (some (.ref f54)))
    (l54 : K.lookup f54 = some ⟨oc54, od54, .func (PySem.W.fnOf "_law_right" "_law_right" (defArgs s_l_right) (defBody s_l_right) (defScope s_l_right) .none kV54 dc54 pm54 an54 cd54 ct54), sl54⟩)
    (c54 : PySem.W.codeIn K cd54 "_law_right" = true)
    (k54 : PySem.W.keepIn K (.ref f54) = true)
    (a55 : PySem.W.nsIn K mainGlobals "law" = some (some (.ref f55)))
    (l55 : K.lookup f55 = some ⟨oc55, od55, .func (PySem.W.fnOf "law" "law" (defArgs s_law) (defBody s_law) (defScope s_law) .none kV55 dc55 pm55 an55 cd55 ct55), sl55⟩)
    (c55 : PySem.W.codeIn K cd55 "law" = true)
    (k55 : PySem.W.keepIn K (.ref f55) = true)
    (z_ValueError : PySem.W.nsIn K mainGlobals "ValueError" = some none)
    (z_all : PySem.W.nsIn K mainGlobals "all" = some none)
    (z_bool : PySem.W.nsIn K mainGlobals "bool" = some none)
    (z_enumerate : PySem.W.nsIn K mainGlobals "enumerate" = some none)
    (z_int : PySem.W.nsIn K mainGlobals "int" = some none)
    (z_isinstance : PySem.W.nsIn K mainGlobals "isinstance" = some none)
    (z_len : PySem.W.nsIn K mainGlobals "len" = some none)
    (z_list : PySem.W.nsIn K mainGlobals "list" = some none)
    (z_max : PySem.W.nsIn K mainGlobals "max" = some none)
    (z_range : PySem.W.nsIn K mainGlobals "range" = some none)
    (z_repr : PySem.W.nsIn K mainGlobals "repr" = some none)
    (z_str : PySem.W.nsIn K mainGlobals "str" = some none)
    (z_tuple : PySem.W.nsIn K mainGlobals "tuple" = some none)
    (n_SMALL : PySem.W.nsIn K mainGlobals "SMALL" = some (some (.str "abcdefghijklmnopqrstuvwxyz" t_SMALL)))
    (n_FIGURES : PySem.W.nsIn K mainGlobals "FIGURES" = some (some (.str "0123456789" t_FIGURES)))
    (n_MOST_FIGURES : PySem.W.nsIn K mainGlobals "MOST_FIGURES" = some (some (.int 2 t_MOST_FIGURES)))
    (n_MOST_SHOWN : PySem.W.nsIn K mainGlobals "MOST_SHOWN" = some (some (.int 99 t_MOST_SHOWN)))
    (n_MOST_LONG : PySem.W.nsIn K mainGlobals "MOST_LONG" = some (some (.int 60 t_MOST_LONG)))
    (n_BARE : PySem.W.nsIn K mainGlobals "BARE" = some (some (.ref ad_BARE)))
    (l_BARE : K.lookup ad_BARE = some ⟨.type "tuple", do_BARE, .seq #[.str "barred" t_BARE_0, .str "rooms" t_BARE_1, .str "period" t_BARE_2, .str "ring" t_BARE_3, .str "zeta" t_BARE_4, .str "least" t_BARE_5, .str "parts" t_BARE_6, .str "sign" t_BARE_7] nn_BARE, sa_BARE⟩)
    (n_NUMBERED : PySem.W.nsIn K mainGlobals "NUMBERED" = some (some (.ref ad_NUMBERED)))
    (l_NUMBERED : K.lookup ad_NUMBERED = some ⟨.type "tuple", do_NUMBERED, .seq #[.str "count" t_NUMBERED_0, .str "closed" t_NUMBERED_1, .str "rate" t_NUMBERED_2, .str "below" t_NUMBERED_3] nn_NUMBERED, sa_NUMBERED⟩)
    (x8 : K.lookup f8 = some (excClassObj nm8 q8 f8 N8 bs8 bm8 true sn8 sub8 ab8 col8 dd8 ka8 kb8 kc8 kd8 ke8 "ValueError.__new__"))
    (rv8 : PySem.HandSPX.refsVE bm8 = true)
    (sa8 : PySem.W.findIn K (.ref f8) "__setattr__" = some (some (.builtin "object.__setattr__")))
    (eC8 : PySem.W.subIn K (.ref f8) (.type "BaseException") = some true)
    (tC8 : PySem.W.typeIn K (.ref f8) = some (.type "type"))
    (kC8 : PySem.W.keepIn K (.ref f8) = true)
    (i8 : PySem.W.findIn K (.ref f8) "__init__" = some (some (.ref f508)))
    (ti8 : PySem.W.typeIn K (.ref f508) = some (.type "function"))
    (l508 : K.lookup f508 = some ⟨oc508, od508, .func (PySem.W.fnOf "__init__" "BadText.__init__" (defArgs sI_BadText) (defBody sI_BadText) (defScope sI_BadText) .none kV508 dc508 pm508 an508 cd508 ct508), sl508⟩)
    (c508 : PySem.W.codeIn K cd508 "BadText.__init__" = true)
    (k508 : PySem.W.keepIn K (.ref f508) = true)
    (no8_line : PySem.W.findIn K (.ref f8) "line" = some none)
    (no8_token : PySem.W.findIn K (.ref f8) "token" = some none)
    (xk8 : exkB K f8 = true)
    (kt8_1 : PySem.W.kitOne K (.ref f8) (.ref f1) = some true)
    (kt8_2 : PySem.W.kitOne K (.ref f8) (.ref f2) = some false)
    (kt8_3 : PySem.W.kitOne K (.ref f8) (.ref f3) = some false)
    (kt8_4 : PySem.W.kitOne K (.ref f8) (.ref f4) = some false)
    (kt8_5 : PySem.W.kitOne K (.ref f8) (.ref f5) = some false)
    (kt8_6 : PySem.W.kitOne K (.ref f8) (.ref f6) = some false)
    (kt8_7 : PySem.W.kitOne K (.ref f8) (.ref f7) = some false)
    (kt8_8 : PySem.W.kitOne K (.ref f8) (.ref f8) = some true)
    (kt8_9 : PySem.W.kitOne K (.ref f8) (.ref f9) = some false)
    (kt8_10 : PySem.W.kitOne K (.ref f8) (.ref f10) = some false)
    (kt8_11 : PySem.W.kitOne K (.ref f8) (.ref f11) = some false)
    (kt8_12 : PySem.W.kitOne K (.ref f8) (.ref f12) = some false)
    (kt8_13 : PySem.W.kitOne K (.ref f8) (.ref f13) = some false)
    (kt8_14 : PySem.W.kitOne K (.ref f8) (.ref f14) = some false)
    (kt8_15 : PySem.W.kitOne K (.ref f8) (.ref f15) = some false)
    (kt8_16 : PySem.W.kitOne K (.ref f8) (.ref f16) = some false)
    (kt8_17 : PySem.W.kitOne K (.ref f8) (.ref f17) = some false)
    (kv8 : PySem.W.kitOne K (.ref f8) (.type "ValueError") = some true)
    (ex8 : PySem.W.exmOne K (.ref f8) (.ref f1) = some true)
    (tP : h.get? PP = some (PySem.W.tabObj #[]))
    (ch : PySem.W.codeHdIn K cc PP = true)
    (nP : K.lookup PP = none)
    (val : ∀ ns : List Int, ∃ ρ, m_law [.fr (.sq (ns.map PV.int))] = .ok (.bl true) ρ) : LawAtS l w K (L2.CX l.prog w) 10 63 "script" mg fL h := by
  have e : some (Value.ref f55) = some (.ref fL) := (PySem.W.mg_of X G a55).symm.trans hm
  obtain e : f55 = fL := Value.ref.inj (Option.some.inj e)
  subst e

  refine ⟨PySem.W.fnOf "law" "law" (defArgs s_law) (defBody s_law) (defScope s_law) .none kV55 dc55 pm55 an55 cd55 ct55, [(cc, PP)], spV K mg [(PP, (envOfC "_law_line_fault" (defScope s_l_line_fault) 0 0 .none).qual ++ "<lambda>")] 1 m_law, ?_, ?_, ?_, fun s u => .of_eq rfl, ?_, ?_⟩
  · intro p hp
    obtain rfl := List.mem_singleton.mp hp
    exact tP
  · intro p hp
    obtain rfl := List.mem_singleton.mp hp
    exact nP
  · intro p hp
    obtain rfl := List.mem_singleton.mp hp
    exact PySem.W.codeHd_of_K X ch
  · intro H a ns _ _ hT hS
    exact law_sp (fun p hp => by obtain rfl := List.mem_singleton.mp hp; exact hT _ List.mem_cons_self) hS (val ns)
  · intro base Kb Nb TB
    have Tx : Txt K mg (faOf f1 f2 f3 f4 f5 f6 f7 f8 f9 f10 f11 f12 f13 f14 f15 f16 f17 f21 f22 f23 f24 f25 f32 f33 f34 f35 f36 f37 f38 f39 f41 f42 f43 f44 f45 f46 f47 f48 f49 f50 f51 f52 f53 f54 f55 f508 cc PP) (fdOf (PySem.W.fnOf "need_string" "need_string" (defArgs s_need_string) (defBody s_need_string) (defScope s_need_string) .none kV21 dc21 pm21 an21 cd21 ct21) (PySem.W.fnOf "run_of" "run_of" (defArgs s_run_of) (defBody s_run_of) (defScope s_run_of) .none kV22 dc22 pm22 an22 cd22 ct22) (PySem.W.fnOf "tokens_of" "tokens_of" (defArgs s_tokens_of) (defBody s_tokens_of) (defScope s_tokens_of) .none kV23 dc23 pm23 an23 cd23 ct23) (PySem.W.fnOf "need_end" "need_end" (defArgs s_need_end) (defBody s_need_end) (defScope s_need_end) .none kV24 dc24 pm24 an24 cd24 ct24) (PySem.W.fnOf "is_numeral" "is_numeral" (defArgs s_is_numeral) (defBody s_is_numeral) (defScope s_is_numeral) .none kV25 dc25 pm25 an25 cd25 ct25) (PySem.W.fnOf "read_numeral" "read_numeral" (defArgs s_read_numeral) (defBody s_read_numeral) (defScope s_read_numeral) .none kV32 dc32 pm32 an32 cd32 ct32) (PySem.W.fnOf "is_letters" "is_letters" (defArgs s_is_letters) (defBody s_is_letters) (defScope s_is_letters) .none kV33 dc33 pm33 an33 cd33 ct33) (PySem.W.fnOf "word_in" "word_in" (defArgs s_word_in) (defBody s_word_in) (defScope s_word_in) .none kV34 dc34 pm34 an34 cd34 ct34) (PySem.W.fnOf "read_word" "read_word" (defArgs s_read_word) (defBody s_read_word) (defScope s_read_word) .none kV35 dc35 pm35 an35 cd35 ct35) (PySem.W.fnOf "rest_behind" "rest_behind" (defArgs s_rest_behind) (defBody s_rest_behind) (defScope s_rest_behind) .none kV36 dc36 pm36 an36 cd36 ct36) (PySem.W.fnOf "read_inner" "read_inner" (defArgs s_read_inner) (defBody s_read_inner) (defScope s_read_inner) .none kV37 dc37 pm37 an37 cd37 ct37) (PySem.W.fnOf "question_in" "question_in" (defArgs s_question_in) (defBody s_question_in) (defScope s_question_in) .none kV38 dc38 pm38 an38 cd38 ct38) (PySem.W.fnOf "question_of_text" "question_of_text" (defArgs s_question_of_text) (defBody s_question_of_text) (defScope s_question_of_text) .none kV39 dc39 pm39 an39 cd39 ct39) (PySem.W.fnOf "_law_pen" "_law_pen" (defArgs s_l_pen) (defBody s_l_pen) (defScope s_l_pen) .none kV41 dc41 pm41 an41 cd41 ct41) (PySem.W.fnOf "_law_draw" "_law_draw" (defArgs s_l_draw) (defBody s_l_draw) (defScope s_l_draw) .none kV42 dc42 pm42 an42 cd42 ct42) (PySem.W.fnOf "_law_pick" "_law_pick" (defArgs s_l_pick) (defBody s_l_pick) (defScope s_l_pick) .none kV43 dc43 pm43 an43 cd43 ct43) (PySem.W.fnOf "_law_is" "_law_is" (defArgs s_l_is) (defBody s_l_is) (defScope s_l_is) .none kV44 dc44 pm44 an44 cd44 ct44) (PySem.W.fnOf "_law_more_kinds" "_law_more_kinds" (defArgs s_l_more_kinds) (defBody s_l_more_kinds) (defScope s_l_more_kinds) .none kV47 dc47 pm47 an47 cd47 ct47) (PySem.W.fnOf "_law_kinds" "_law_kinds" (defArgs s_l_kinds) (defBody s_l_kinds) (defScope s_l_kinds) .none kV46 dc46 pm46 an46 cd46 ct46) (PySem.W.fnOf "_law_fault" "_law_fault" (defArgs s_l_fault) (defBody s_l_fault) (defScope s_l_fault) .none kV45 dc45 pm45 an45 cd45 ct45) (PySem.W.fnOf "_law_line_fault" "_law_line_fault" (defArgs s_l_line_fault) (defBody s_l_line_fault) (defScope s_l_line_fault) .none kV48 dc48 pm48 an48 (.ref cc) ct48) (PySem.W.fnOf "_law_bare" "_law_bare" (defArgs s_l_bare) (defBody s_l_bare) (defScope s_l_bare) .none kV49 dc49 pm49 an49 cd49 ct49) (PySem.W.fnOf "_law_question" "_law_question" (defArgs s_l_question) (defBody s_l_question) (defScope s_l_question) .none kV50 dc50 pm50 an50 cd50 ct50) (PySem.W.fnOf "_law_is_numeral" "_law_is_numeral" (defArgs s_l_is_numeral) (defBody s_l_is_numeral) (defScope s_l_is_numeral) .none kV51 dc51 pm51 an51 cd51 ct51) (PySem.W.fnOf "_law_is_word" "_law_is_word" (defArgs s_l_is_word) (defBody s_l_is_word) (defScope s_l_is_word) .none kV52 dc52 pm52 an52 cd52 ct52) (PySem.W.fnOf "_law_wrong" "_law_wrong" (defArgs s_l_wrong) (defBody s_l_wrong) (defScope s_l_wrong) .none kV53 dc53 pm53 an53 cd53 ct53) (PySem.W.fnOf "_law_right" "_law_right" (defArgs s_l_right) (defBody s_l_right) (defScope s_l_right) .none kV54 dc54 pm54 an54 cd54 ct54) (PySem.W.fnOf "law" "law" (defArgs s_law) (defBody s_law) (defScope s_law) .none kV55 dc55 pm55 an55 cd55 ct55) (PySem.W.fnOf "__init__" "BadText.__init__" (defArgs sI_BadText) (defBody sI_BadText) (defScope sI_BadText) .none kV508 dc508 pm508 an508 cd508 ct508)) [(PP, (envOfC "_law_line_fault" (defScope s_l_line_fault) 0 0 .none).qual ++ "<lambda>")] base := {
      F_need_string := fun_mk (st := s_need_string) l21 c21 k21
      m_need_string := PySem.W.mg_of X G a21
      b_need_string := (fun_mk (st := s_need_string) l21 c21 k21).binds (ps := ["text"]) fun _ _ _ _ _ _ us hl => match us, hl with | [_], _ => rfl
      F_run_of := fun_mk (st := s_run_of) l22 c22 k22
      m_run_of := PySem.W.mg_of X G a22
      b_run_of := (fun_mk (st := s_run_of) l22 c22 k22).binds (ps := ["text", "at", "some"]) fun _ _ _ _ _ _ us hl => match us, hl with | [_, _, _], _ => rfl
      F_tokens_of := fun_mk (st := s_tokens_of) l23 c23 k23
      m_tokens_of := PySem.W.mg_of X G a23
      b_tokens_of := (fun_mk (st := s_tokens_of) l23 c23 k23).binds (ps := ["text"]) fun _ _ _ _ _ _ us hl => match us, hl with | [_], _ => rfl
      F_need_end := fun_mk (st := s_need_end) l24 c24 k24
      m_need_end := PySem.W.mg_of X G a24
      b_need_end := (fun_mk (st := s_need_end) l24 c24 k24).binds (ps := ["tokens", "at", "line"]) fun _ _ _ _ _ _ us hl => match us, hl with | [_, _, _], _ => rfl
      F_is_numeral := fun_mk (st := s_is_numeral) l25 c25 k25
      m_is_numeral := PySem.W.mg_of X G a25
      b_is_numeral := (fun_mk (st := s_is_numeral) l25 c25 k25).binds (ps := ["token", "most"]) fun _ _ _ _ _ _ us hl => match us, hl with | [_, _], _ => rfl
      F_read_numeral := fun_mk (st := s_read_numeral) l32 c32 k32
      m_read_numeral := PySem.W.mg_of X G a32
      b_read_numeral := (fun_mk (st := s_read_numeral) l32 c32 k32).binds (ps := ["tokens", "at", "line", "low", "high"]) fun _ _ _ _ _ _ us hl => match us, hl with | [_, _, _, _, _], _ => rfl
      F_is_letters := fun_mk (st := s_is_letters) l33 c33 k33
      m_is_letters := PySem.W.mg_of X G a33
      b_is_letters := (fun_mk (st := s_is_letters) l33 c33 k33).binds (ps := ["token", "letters", "most"]) fun _ _ _ _ _ _ us hl => match us, hl with | [_, _, _], _ => rfl
      F_word_in := fun_mk (st := s_word_in) l34 c34 k34
      m_word_in := PySem.W.mg_of X G a34
      b_word_in := (fun_mk (st := s_word_in) l34 c34 k34).binds (ps := ["token"]) fun _ _ _ _ _ _ us hl => match us, hl with | [_], _ => rfl
      F_read_word := fun_mk (st := s_read_word) l35 c35 k35
      m_read_word := PySem.W.mg_of X G a35
      b_read_word := (fun_mk (st := s_read_word) l35 c35 k35).binds (ps := ["tokens", "at", "line"]) fun _ _ _ _ _ _ us hl => match us, hl with | [_, _, _], _ => rfl
      F_rest_behind := fun_mk (st := s_rest_behind) l36 c36 k36
      m_rest_behind := PySem.W.mg_of X G a36
      b_rest_behind := (fun_mk (st := s_rest_behind) l36 c36 k36).binds (ps := ["text", "head"]) fun _ _ _ _ _ _ us hl => match us, hl with | [_, _], _ => rfl
      F_read_inner := fun_mk (st := s_read_inner) l37 c37 k37
      m_read_inner := PySem.W.mg_of X G a37
      b_read_inner := (fun_mk (st := s_read_inner) l37 c37 k37).binds (ps := ["text", "head", "line"]) fun _ _ _ _ _ _ us hl => match us, hl with | [_, _, _], _ => rfl
      F_question_in := fun_mk (st := s_question_in) l38 c38 k38
      m_question_in := PySem.W.mg_of X G a38
      b_question_in := (fun_mk (st := s_question_in) l38 c38 k38).binds (ps := ["text", "line"]) fun _ _ _ _ _ _ us hl => match us, hl with | [_, _], _ => rfl
      F_question_of_text := fun_mk (st := s_question_of_text) l39 c39 k39
      m_question_of_text := PySem.W.mg_of X G a39
      b_question_of_text := (fun_mk (st := s_question_of_text) l39 c39 k39).binds (ps := ["text"]) fun _ _ _ _ _ _ us hl => match us, hl with | [_], _ => rfl
      F_l_pen := fun_mk (st := s_l_pen) l41 c41 k41
      m_l_pen := PySem.W.mg_of X G a41
      b_l_pen := (fun_mk (st := s_l_pen) l41 c41 k41).binds (ps := ["script"]) fun _ _ _ _ _ _ us hl => match us, hl with | [_], _ => rfl
      F_l_draw := fun_mk (st := s_l_draw) l42 c42 k42
      m_l_draw := PySem.W.mg_of X G a42
      b_l_draw := (fun_mk (st := s_l_draw) l42 c42 k42).binds (ps := ["pen", "many"]) fun _ _ _ _ _ _ us hl => match us, hl with | [_, _], _ => rfl
      F_l_pick := fun_mk (st := s_l_pick) l43 c43 k43
      m_l_pick := PySem.W.mg_of X G a43
      b_l_pick := (fun_mk (st := s_l_pick) l43 c43 k43).binds (ps := ["pen", "some"]) fun _ _ _ _ _ _ us hl => match us, hl with | [_, _], _ => rfl
      F_l_is := fun_mk (st := s_l_is) l44 c44 k44
      m_l_is := PySem.W.mg_of X G a44
      b_l_is := (fun_mk (st := s_l_is) l44 c44 k44).binds (ps := ["told", "due"]) fun _ _ _ _ _ _ us hl => match us, hl with | [_, _], _ => rfl
      F_l_more_kinds := fun_mk (st := s_l_more_kinds) l47 c47 k47
      m_l_more_kinds := PySem.W.mg_of X G a47
      b_l_more_kinds := (fun_mk (st := s_l_more_kinds) l47 c47 k47).binds (ps := ["e"]) fun _ _ _ _ _ _ us hl => match us, hl with | [_], _ => rfl
      F_l_kinds := fun_mk (st := s_l_kinds) l46 c46 k46
      m_l_kinds := PySem.W.mg_of X G a46
      b_l_kinds := (fun_mk (st := s_l_kinds) l46 c46 k46).binds (ps := ["e"]) fun _ _ _ _ _ _ us hl => match us, hl with | [_], _ => rfl
      F_l_fault := fun_mk (st := s_l_fault) l45 c45 k45
      m_l_fault := PySem.W.mg_of X G a45
      b_l_fault := (fun_mk (st := s_l_fault) l45 c45 k45).binds (ps := ["call"]) fun _ _ _ _ _ _ us hl => match us, hl with | [_], _ => rfl
      F_l_line_fault := fun_mk (st := s_l_line_fault) l48 c48 k48
      m_l_line_fault := PySem.W.mg_of X G a48
      b_l_line_fault := (fun_mk (st := s_l_line_fault) l48 c48 k48).binds (ps := ["text"]) fun _ _ _ _ _ _ us hl => match us, hl with | [_], _ => rfl
      F_l_bare := fun_mk (st := s_l_bare) l49 c49 k49
      m_l_bare := PySem.W.mg_of X G a49
      b_l_bare := (fun_mk (st := s_l_bare) l49 c49 k49).binds (ps := []) fun _ _ _ _ _ _ us hl => match us, hl with | [], _ => rfl
      F_l_question := fun_mk (st := s_l_question) l50 c50 k50
      m_l_question := PySem.W.mg_of X G a50
      b_l_question := (fun_mk (st := s_l_question) l50 c50 k50).binds (ps := ["pen"]) fun _ _ _ _ _ _ us hl => match us, hl with | [_], _ => rfl
      F_l_is_numeral := fun_mk (st := s_l_is_numeral) l51 c51 k51
      m_l_is_numeral := PySem.W.mg_of X G a51
      b_l_is_numeral := (fun_mk (st := s_l_is_numeral) l51 c51 k51).binds (ps := ["token"]) fun _ _ _ _ _ _ us hl => match us, hl with | [_], _ => rfl
      F_l_is_word := fun_mk (st := s_l_is_word) l52 c52 k52
      m_l_is_word := PySem.W.mg_of X G a52
      b_l_is_word := (fun_mk (st := s_l_is_word) l52 c52 k52).binds (ps := ["token"]) fun _ _ _ _ _ _ us hl => match us, hl with | [_], _ => rfl
      F_l_wrong := fun_mk (st := s_l_wrong) l53 c53 k53
      m_l_wrong := PySem.W.mg_of X G a53
      b_l_wrong := (fun_mk (st := s_l_wrong) l53 c53 k53).binds (ps := ["tokens"]) fun _ _ _ _ _ _ us hl => match us, hl with | [_], _ => rfl
      F_l_right := fun_mk (st := s_l_right) l54 c54 k54
      m_l_right := PySem.W.mg_of X G a54
      b_l_right := (fun_mk (st := s_l_right) l54 c54 k54).binds (ps := ["pen"]) fun _ _ _ _ _ _ us hl => match us, hl with | [_], _ => rfl
      F_law := fun_mk (st := s_law) l55 c55 k55
      m_law := PySem.W.mg_of X G a55
      b_law := (fun_mk (st := s_law) l55 c55 k55).binds (ps := ["script"]) fun _ _ _ _ _ _ us hl => match us, hl with | [_], _ => rfl
      z_ValueError := PySem.W.mg_none_of X G z_ValueError
      z_all := PySem.W.mg_none_of X G z_all
      z_bool := PySem.W.mg_none_of X G z_bool
      z_enumerate := PySem.W.mg_none_of X G z_enumerate
      z_int := PySem.W.mg_none_of X G z_int
      z_isinstance := PySem.W.mg_none_of X G z_isinstance
      z_len := PySem.W.mg_none_of X G z_len
      z_list := PySem.W.mg_none_of X G z_list
      z_max := PySem.W.mg_none_of X G z_max
      z_range := PySem.W.mg_none_of X G z_range
      z_repr := PySem.W.mg_none_of X G z_repr
      z_str := PySem.W.mg_none_of X G z_str
      z_tuple := PySem.W.mg_none_of X G z_tuple
      g_SMALL := glv_str (PySem.W.mg_of X G n_SMALL)
      g_FIGURES := glv_str (PySem.W.mg_of X G n_FIGURES)
      g_MOST_FIGURES := glv_int (PySem.W.mg_of X G n_MOST_FIGURES)
      g_MOST_SHOWN := glv_int (PySem.W.mg_of X G n_MOST_SHOWN)
      g_MOST_LONG := glv_int (PySem.W.mg_of X G n_MOST_LONG)
      g_BARE := glv_tup (vs := [.str "barred", .str "rooms", .str "period", .str "ring", .str "zeta", .str "least", .str "parts", .str "sign"]) (PySem.W.mg_of X G n_BARE) l_BARE (show 8 ≤ sizeLine by decide) (Paired.cons ⟨_, rfl⟩ (Paired.cons ⟨_, rfl⟩ (Paired.cons ⟨_, rfl⟩ (Paired.cons ⟨_, rfl⟩ (Paired.cons ⟨_, rfl⟩ (Paired.cons ⟨_, rfl⟩ (Paired.cons ⟨_, rfl⟩ (Paired.cons ⟨_, rfl⟩ Paired.nil)))))))) fun _ => ⟨_, _, rfl, rfl, ⟨_, _, rfl, rfl, ⟨_, _, rfl, rfl, ⟨_, _, rfl, rfl, ⟨_, _, rfl, rfl, ⟨_, _, rfl, rfl, ⟨_, _, rfl, rfl, ⟨_, _, rfl, rfl, rfl⟩⟩⟩⟩⟩⟩⟩⟩
      g_NUMBERED := glv_tup (vs := [.str "count", .str "closed", .str "rate", .str "below"]) (PySem.W.mg_of X G n_NUMBERED) l_NUMBERED (show 4 ≤ sizeLine by decide) (Paired.cons ⟨_, rfl⟩ (Paired.cons ⟨_, rfl⟩ (Paired.cons ⟨_, rfl⟩ (Paired.cons ⟨_, rfl⟩ Paired.nil)))) fun _ => ⟨_, _, rfl, rfl, ⟨_, _, rfl, rfl, ⟨_, _, rfl, rfl, ⟨_, _, rfl, rfl, rfl⟩⟩⟩⟩
      mC_ShiftError := PySem.W.mg_of X G a1
      mC_BadNumber := PySem.W.mg_of X G a2
      mC_BadRow := PySem.W.mg_of X G a3
      mC_BadWord := PySem.W.mg_of X G a4
      mC_BadTable := PySem.W.mg_of X G a5
      mC_BadBook := PySem.W.mg_of X G a6
      mC_BadName := PySem.W.mg_of X G a7
      mC_BadText := PySem.W.mg_of X G a8
      mC_NoPlace := PySem.W.mg_of X G a9
      mC_NoName := PySem.W.mg_of X G a10
      mC_TakenName := PySem.W.mg_of X G a11
      mC_Unlike := PySem.W.mg_of X G a12
      mC_NotThere := PySem.W.mg_of X G a13
      mC_TooMany := PySem.W.mg_of X G a14
      mC_NotKept := PySem.W.mg_of X G a15
      mC_NothingToUndo := PySem.W.mg_of X G a16
      mC_NothingToRedo := PySem.W.mg_of X G a17
      oex_BadText := ⟨⟨_, _, _, _, _, _, _, _, _, _, _, _, _, _, _, x8, rv8⟩, sa8, eC8, tC8, kC8⟩
      iC_BadText := i8
      tI_BadText := ti8
      FI_BadText := fun_mk (st := sI_BadText) l508 c508 k508
      bI_BadText := (fun_mk (st := sI_BadText) l508 c508 k508).binds (ps := NI_BadText) fun _ _ _ _ _ _ us hl => match us, hl with | [_, _, _], _ => rfl
      no_BadText_line := no8_line
      no_BadText_token := no8_token
      xk_BadText := exk_by xk8
      kit_BadText_ShiftError := kt8_1
      kit_BadText_BadNumber := kt8_2
      kit_BadText_BadRow := kt8_3
      kit_BadText_BadWord := kt8_4
      kit_BadText_BadTable := kt8_5
      kit_BadText_BadBook := kt8_6
      kit_BadText_BadName := kt8_7
      kit_BadText_BadText := kt8_8
      kit_BadText_NoPlace := kt8_9
      kit_BadText_NoName := kt8_10
      kit_BadText_TakenName := kt8_11
      kit_BadText_Unlike := kt8_12
      kit_BadText_NotThere := kt8_13
      kit_BadText_TooMany := kt8_14
      kit_BadText_NotKept := kt8_15
      kit_BadText_NothingToUndo := kt8_16
      kit_BadText_NothingToRedo := kt8_17
      kit_BadText_VE := kv8
      exm_BadText := ex8
      tb := TB _ List.mem_cons_self
      cd_l_line_fault := rfl
      eT := rfl
    }
    exact ok_law Tx
end
end K75

open PySem PySem.W PyProof.Rows
set_option Elab.async false
set_option maxRecDepth 100000 in
set_option maxHeartbeats 0 in
theorem PySem.Challenge.cw_flowshifts_k75_whole_questions_holds : PySem.Challenge.rw_flowshifts_k75_whole_questions.Holds := by
  w_on; o_law; k_head; (case hw => w_witness2)
  k_fill
  refine LamX.walk_ofTs (l := PySem.Challenge.rw_flowshifts_k75_whole_questions) (k := 10) (x := "script") (CX := fun w => L2.CX PySem.Challenge.rw_flowshifts_k75_whole_questions.prog w) rfl (by decide) rfl ⟨rfl, by decide, by decide⟩ (fun w h Y => PySem.W.km_in_of Y) ?F ?G
  case F =>
    intro w mg fa h Y KX G hmg
    refine' K75.all_mk KX G hmg ?a1 ?a2 ?a3 ?a4 ?a5 ?a6 ?a7 ?a8 ?a9 ?a10 ?a11 ?a12 ?a13 ?a14 ?a15 ?a16 ?a17 ?a21 ?l21 ?c21 ?k21 ?a22 ?l22 ?c22 ?k22 ?a23 ?l23 ?c23 ?k23 ?a24 ?l24 ?c24 ?k24 ?a25 ?l25 ?c25 ?k25 ?a32 ?l32 ?c32 ?k32 ?a33 ?l33 ?c33 ?k33 ?a34 ?l34 ?c34 ?k34 ?a35 ?l35 ?c35 ?k35 ?a36 ?l36 ?c36 ?k36 ?a37 ?l37 ?c37 ?k37 ?a38 ?l38 ?c38 ?k38 ?a39 ?l39 ?c39 ?k39 ?a41 ?l41 ?c41 ?k41 ?a42 ?l42 ?c42 ?k42 ?a43 ?l43 ?c43 ?k43 ?a44 ?l44 ?c44 ?k44 ?a47 ?l47 ?c47 ?k47 ?a46 ?l46 ?c46 ?k46 ?a45 ?l45 ?c45 ?k45 ?a48 ?l48 ?c48 ?k48 ?a49 ?l49 ?c49 ?k49 ?a50 ?l50 ?c50 ?k50 ?a51 ?l51 ?c51 ?k51 ?a52 ?l52 ?c52 ?k52 ?a53 ?l53 ?c53 ?k53 ?a54 ?l54 ?c54 ?k54 ?a55 ?l55 ?c55 ?k55 ?z_ValueError ?z_all ?z_bool ?z_enumerate ?z_int ?z_isinstance ?z_len ?z_list ?z_max ?z_range ?z_repr ?z_str ?z_tuple ?n_SMALL ?n_FIGURES ?n_MOST_FIGURES ?n_MOST_SHOWN ?n_MOST_LONG ?n_BARE ?l_BARE ?n_NUMBERED ?l_NUMBERED ?x8 ?rv8 ?sa8 ?eC8 ?tC8 ?kC8 ?i8 ?ti8 ?l508 ?c508 ?k508 ?no8_line ?no8_token ?xk8 ?kt8_1 ?kt8_2 ?kt8_3 ?kt8_4 ?kt8_5 ?kt8_6 ?kt8_7 ?kt8_8 ?kt8_9 ?kt8_10 ?kt8_11 ?kt8_12 ?kt8_13 ?kt8_14 ?kt8_15 ?kt8_16 ?kt8_17 ?kv8 ?ex8 ?tP ?ch ?nP K75.law_true
    (case a1 => k_is)
    (case a2 => k_is)
    (case a3 => k_is)
    (case a4 => k_is)
    (case a5 => k_is)
    (case a6 => k_is)
    (case a7 => k_is)
    (case a8 => k_is)
    (case a9 => k_is)
    (case a10 => k_is)
    (case a11 => k_is)
    (case a12 => k_is)
    (case a13 => k_is)
    (case a14 => k_is)
    (case a15 => k_is)
    (case a16 => k_is)
    (case a17 => k_is)
    (case a21 => k_is)
    (case l21 => k_is)
    (case c21 => k_is)
    (case k21 => k_is)
    (case a22 => k_is)
    (case l22 => k_is)
    (case c22 => k_is)
    (case k22 => k_is)
    (case a23 => k_is)
    (case l23 => k_is)
    (case c23 => k_is)
    (case k23 => k_is)
    (case a24 => k_is)
    (case l24 => k_is)
    (case c24 => k_is)
    (case k24 => k_is)
    (case a25 => k_is)
    (case l25 => k_is)
    (case c25 => k_is)
    (case k25 => k_is)
    (case a32 => k_is)
    (case l32 => k_is)
    (case c32 => k_is)
    (case k32 => k_is)
    (case a33 => k_is)
    (case l33 => k_is)
    (case c33 => k_is)
    (case k33 => k_is)
    (case a34 => k_is)
    (case l34 => k_is)
    (case c34 => k_is)
    (case k34 => k_is)
    (case a35 => k_is)
    (case l35 => k_is)
    (case c35 => k_is)
    (case k35 => k_is)
    (case a36 => k_is)
    (case l36 => k_is)
    (case c36 => k_is)
    (case k36 => k_is)
    (case a37 => k_is)
    (case l37 => k_is)
    (case c37 => k_is)
    (case k37 => k_is)
    (case a38 => k_is)
    (case l38 => k_is)
    (case c38 => k_is)
    (case k38 => k_is)
    (case a39 => k_is)
    (case l39 => k_is)
    (case c39 => k_is)
    (case k39 => k_is)
    (case a41 => k_is)
    (case l41 => k_is)
    (case c41 => k_is)
    (case k41 => k_is)
    (case a42 => k_is)
    (case l42 => k_is)
    (case c42 => k_is)
    (case k42 => k_is)
    (case a43 => k_is)
    (case l43 => k_is)
    (case c43 => k_is)
    (case k43 => k_is)
    (case a44 => k_is)
    (case l44 => k_is)
    (case c44 => k_is)
    (case k44 => k_is)
    (case a47 => k_is)
    (case l47 => k_is)
    (case c47 => k_is)
    (case k47 => k_is)
    (case a46 => k_is)
    (case l46 => k_is)
    (case c46 => k_is)
    (case k46 => k_is)
    (case a45 => k_is)
    (case l45 => k_is)
    (case c45 => k_is)
    (case k45 => k_is)
    (case a48 => k_is)
    (case l48 => k_is)
    (case c48 => k_is)
    (case k48 => k_is)
    (case a49 => k_is)
    (case l49 => k_is)
    (case c49 => k_is)
    (case k49 => k_is)
    (case a50 => k_is)
    (case l50 => k_is)
    (case c50 => k_is)
    (case k50 => k_is)
    (case a51 => k_is)
    (case l51 => k_is)
    (case c51 => k_is)
    (case k51 => k_is)
    (case a52 => k_is)
    (case l52 => k_is)
    (case c52 => k_is)
    (case k52 => k_is)
    (case a53 => k_is)
    (case l53 => k_is)
    (case c53 => k_is)
    (case k53 => k_is)
    (case a54 => k_is)
    (case l54 => k_is)
    (case c54 => k_is)
    (case k54 => k_is)
    (case a55 => k_is)
    (case l55 => k_is)
    (case c55 => k_is)
    (case k55 => k_is)
    (case z_ValueError => k_is)
    (case z_all => k_is)
    (case z_bool => k_is)
    (case z_enumerate => k_is)
    (case z_int => k_is)
    (case z_isinstance => k_is)
    (case z_len => k_is)
    (case z_list => k_is)
    (case z_max => k_is)
    (case z_range => k_is)
    (case z_repr => k_is)
    (case z_str => k_is)
    (case z_tuple => k_is)
    (case n_SMALL => k_is)
    (case n_FIGURES => k_is)
    (case n_MOST_FIGURES => k_is)
    (case n_MOST_SHOWN => k_is)
    (case n_MOST_LONG => k_is)
    (case n_BARE => k_is)
    (case l_BARE => k_is)
    (case n_NUMBERED => k_is)
    (case l_NUMBERED => k_is)
    (case x8 => k_is)
    (case rv8 => kernel_rfl)
    (case sa8 => k_is)
    (case eC8 => k_is)
    (case tC8 => k_is)
    (case kC8 => k_is)
    (case i8 => k_is)
    (case ti8 => k_is)
    (case l508 => k_is)
    (case c508 => k_is)
    (case k508 => k_is)
    (case no8_line => k_is)
    (case no8_token => k_is)
    (case xk8 => kernel_rfl)
    (case kt8_1 => kernel_rfl)
    (case kt8_2 => kernel_rfl)
    (case kt8_3 => kernel_rfl)
    (case kt8_4 => kernel_rfl)
    (case kt8_5 => kernel_rfl)
    (case kt8_6 => kernel_rfl)
    (case kt8_7 => kernel_rfl)
    (case kt8_8 => kernel_rfl)
    (case kt8_9 => kernel_rfl)
    (case kt8_10 => kernel_rfl)
    (case kt8_11 => kernel_rfl)
    (case kt8_12 => kernel_rfl)
    (case kt8_13 => kernel_rfl)
    (case kt8_14 => kernel_rfl)
    (case kt8_15 => kernel_rfl)
    (case kt8_16 => kernel_rfl)
    (case kt8_17 => kernel_rfl)
    (case kv8 => kernel_rfl)
    (case ex8 => kernel_rfl)
    (case tP => exact PySem.W.km_tabs_of Y _ List.mem_cons_self)
    (case ch => kernel_rfl)
    (case nP => kernel_rfl)
  case G => exact fun w H s e s' z => VS.cx_false z

