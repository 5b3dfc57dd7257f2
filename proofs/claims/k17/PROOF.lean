import PyProof.Rows.All
import Wide.All
import OpenK.AllK
import Wide.FinOn
import HandS.ForMost
import HandS.ForExc
import HandS.Walk
import HandS.Codes
import HandS.Wide
import HandS.IsInst
import HandS.SortInts
import HandS.SortKw
import PySem.Challenge.RW_corebank_k17_whole_splitting_a_balance
set_option Elab.async false
set_option linter.all false
set_option maxRecDepth 100000
set_option maxHeartbeats 4000000
set_option Elab.async false
/-! J: a layer of our own over the hand layer. The abstract heap is split: G, what never changes any more; cs, the cells that may still change, one after another. -/
namespace J
open PySem L2

/-! ### heaps in two parts -/
abbrev Cells := List (Addr × HO)
structure Desc (G : Hp) (cs : Cells) (H : Hp) : Prop where
  same : Same G H
  nd : (cs.map Prod.fst).Nodup
  cell : ∀ c ∈ cs, H c.1 = some c.2 ∧ G c.1 = none
theorem Desc.at_ {G H : Hp} {cs : Cells} (d : Desc G cs H) {a : Addr} {o : HO} (h : (a, o) ∈ cs) : H a = some o := (d.cell _ h).1
theorem Desc.new {G H : Hp} {cs : Cells} (d : Desc G cs H) {p : Addr} (hp : H p = none) (o : HO) : Desc (upd G p o) cs (upd H p o) := by
  refine ⟨fun a u e => ?_, d.nd, fun c hc => ?_⟩
  · by_cases h : a = p
    · subst h
      rw [upd_same] at e
      rw [upd_same]
      exact e
    · rw [upd_ne h] at e
      rw [upd_ne h]
      exact d.same a u e
  · obtain ⟨h1, h2⟩ := d.cell c hc
    have ne : c.1 ≠ p := ne_of_none h1 hp
    rw [upd_ne ne, upd_ne ne]
    exact ⟨h1, h2⟩
theorem Same.fresh {G H : Hp} (s : Same G H) {p : Addr} (hp : H p = none) (o : HO) : Same G (upd G p o) := fun a u e => by
  have ne : a ≠ p := fun z => by
    subst z
    rw [s a u e] at hp
    cases hp
  rw [upd_ne ne]
  exact e
theorem Desc.newCell {G H : Hp} {cs : Cells} (d : Desc G cs H) {p : Addr} (hp : H p = none) (o : HO) : Desc G ((p, o) :: cs) (upd H p o) := by
  refine ⟨fun a u e => ?_, ?_, fun c hc => ?_⟩
  · have ne : a ≠ p := ne_of_none (d.same a u e) hp
    rw [upd_ne ne]
    exact d.same a u e
  · refine List.nodup_cons.mpr ⟨fun hm => ?_, d.nd⟩
    obtain ⟨c, hc, e⟩ := List.mem_map.mp hm
    have e2 : c.1 = p := e
    have q := (d.cell c hc).1
    rw [e2, hp] at q
    cases q
  · rcases List.mem_cons.mp hc with e | hc
    · subst e
      exact ⟨upd_same, d.same.free hp⟩
    · obtain ⟨h1, h2⟩ := d.cell c hc
      have ne : c.1 ≠ p := ne_of_none h1 hp
      rw [upd_ne ne]
      exact ⟨h1, h2⟩
theorem nd_of_set {cs : Cells} {k : Nat} {a : Addr} {o o' : HO} (h : cs[k]? = some (a, o)) : (cs.set k (a, o')).map Prod.fst = cs.map Prod.fst := by
  induction cs generalizing k with
  | nil => cases k <;> rfl
  | cons c cs ih =>
    cases k with
    | zero =>
      have e : c = (a, o) := Option.some.inj h
      subst e
      rfl
    | succ k =>
      show c.1 :: (cs.set k (a, o')).map Prod.fst = c.1 :: cs.map Prod.fst
      rw [ih (k := k) h]
theorem mem_set_cases {cs : Cells} {k : Nat} {a : Addr} {o o' : HO} (nd : (cs.map Prod.fst).Nodup) (h : cs[k]? = some (a, o)) {c : Addr × HO} (hc : c ∈ cs.set k (a, o')) : c = (a, o') ∨ (c ∈ cs ∧ c.1 ≠ a) := by
  induction cs generalizing k with
  | nil => cases k <;> cases h
  | cons d cs ih =>
    have nd1 : d.1 ∉ cs.map Prod.fst := (List.nodup_cons.mp nd).1
    have nd2 : (cs.map Prod.fst).Nodup := (List.nodup_cons.mp nd).2
    cases k with
    | zero =>
      have e : d = (a, o) := Option.some.inj h
      subst e
      rcases List.mem_cons.mp hc with e | hc
      · exact .inl e
      · refine .inr ⟨List.mem_cons_of_mem _ hc, fun z => nd1 ?_⟩
        show a ∈ cs.map Prod.fst
        rw [← z]
        exact List.mem_map.mpr ⟨c, hc, rfl⟩
    | succ k =>
      have hm : (a, o) ∈ cs := List.mem_of_getElem? (i := k) h
      rcases List.mem_cons.mp hc with e | hc
      · refine .inr ⟨List.mem_cons.mpr (.inl e), fun z => nd1 ?_⟩
        rw [e] at z
        rw [z]
        exact List.mem_map.mpr ⟨(a, o), hm, rfl⟩
      · rcases ih nd2 (k := k) h hc with e | ⟨h1, h2⟩
        · exact .inl e
        · exact .inr ⟨List.mem_cons_of_mem _ h1, h2⟩
theorem Desc.write {G H : Hp} {cs : Cells} (d : Desc G cs H) {k : Nat} {a : Addr} {o : HO} (h : cs[k]? = some (a, o)) (o' : HO) : Desc G (cs.set k (a, o')) (upd H a o') := by
  have hm : (a, o) ∈ cs := List.mem_of_getElem? h
  obtain ⟨ha, hg⟩ := d.cell _ hm
  refine ⟨fun b u e => ?_, ?_, fun c hc => ?_⟩
  · have ne : b ≠ a := fun z => by
      subst z
      rw [hg] at e
      cases e
    rw [upd_ne ne]
    exact d.same b u e
  · rw [nd_of_set h]
    exact d.nd
  · rcases mem_set_cases d.nd h hc with e | ⟨h1, h2⟩
    · subst e
      exact ⟨upd_same, hg⟩
    · rw [upd_ne h2]
      exact d.cell c h1
theorem Desc.freeze {G H : Hp} {cs : Cells} {a : Addr} {o : HO} (d : Desc G ((a, o) :: cs) H) : Same G (upd G a o) ∧ Desc (upd G a o) cs H := by
  obtain ⟨ha, hg⟩ := d.cell (a, o) List.mem_cons_self
  refine ⟨fun b u e => ?_, fun b u e => ?_, (List.nodup_cons.mp d.nd).2, fun c hc => ?_⟩
  · have ne : b ≠ a := fun z => by
      subst z
      rw [hg] at e
      cases e
    rw [upd_ne ne]
    exact e
  · by_cases z : b = a
    · subst z
      rw [upd_same] at e
      cases e
      exact ha
    · rw [upd_ne z] at e
      exact d.same b u e
  · obtain ⟨h1, h2⟩ := d.cell c (List.mem_cons_of_mem _ hc)
    have ne : c.1 ≠ a := fun z => (List.nodup_cons.mp d.nd).1 (by
      show a ∈ cs.map Prod.fst
      rw [← z]
      exact List.mem_map.mpr ⟨c, hc, rfl⟩)
    rw [upd_ne ne]
    exact ⟨h1, h2⟩
theorem Desc.forget {G H : Hp} {cs : Cells} {c : Addr × HO} (d : Desc G (c :: cs) H) : Desc G cs H :=
  ⟨d.same, (List.nodup_cons.mp d.nd).2, fun x hx => d.cell x (List.mem_cons_of_mem _ hx)⟩
theorem Desc.perm {G H : Hp} {cs cs' : Cells} (d : Desc G cs H) (p : cs.Perm cs') : Desc G cs' H :=
  ⟨d.same, (p.map Prod.fst).nodup_iff.mp d.nd, fun x hx => d.cell x (p.mem_iff.mpr hx)⟩
theorem Desc.refl (H : Hp) : Desc H [] H := ⟨Same.refl H, List.nodup_nil, fun _ h => nomatch h⟩
theorem seqT {K : PySem.W.Frag} {H H' : Hp} {a : Addr} {xs : List V} (e : Same H H') (h : SqT K H a xs) : SqT K H' a xs := by
  rcases h with (h | ⟨o, h⟩) | h
  · exact .inl (.inl (e _ _ h))
  · exact .inl (.inr ⟨o, e _ _ h⟩)
  · exact .inr h

/-! ### judgements by what the machine does -/
section
variable (X : Cx)
def wE (e : Expr) : TE := fun σ H Q => ∀ pins s, Inv X pins σ H s → wpAny (model X.prog X.w) X.A (eval e X.env) (EP X pins σ Q) X.xe s
def wT (e : Expr) : TT := fun σ H Q => ∀ pins s, Inv X pins σ H s → wpAny (model X.prog X.w) X.A (isTrue e X.env (eval e X.env)) (TP X pins σ Q) X.xe s
def wW (e : Expr) : TT := fun σ H Q => ∀ (whole : Sem Value) pins s, Inv X pins σ H s → wpAny (model X.prog X.w) X.A (isTrue e X.env whole) (TP X pins σ Q) X.xe s
def wA (es : List Expr) : TA := fun σ H Q => ∀ (pos : Pos) pins s, Inv X pins σ H s → wpAny (model X.prog X.w) X.A (spliced (backTo pos (starEach es X.env))) (AP X pins σ Q) X.xe s
def wS (st : Stmt) : TS := fun D σ H => ∀ pins s, Inv X pins σ H s → wpAny (model X.prog X.w) X.A (exec st X.env) (SP X pins D) X.xe s
def wSs (st : List Stmt) : TS := fun D σ H => ∀ pins s, Inv X pins σ H s → wpAny (model X.prog X.w) X.A (execs st X.env) (SP X pins D) X.xe s
theorem sE (e : Expr) : PE X e (wE X e) := ⟨fun pins s _ _ _ I h => h pins s I⟩
theorem sT (e : Expr) : PT X e (wT X e) := ⟨fun pins s _ _ _ I h => h pins s I⟩
theorem sW (e : Expr) : PW X e (wW X e) := ⟨fun whole pins s _ _ _ I h => h whole pins s I⟩
theorem sA (es : List Expr) : PA X es (wA X es) := ⟨fun pos pins s _ _ _ I h => h pos pins s I⟩
theorem sS (st : Stmt) : PS X st (wS X st) := ⟨fun pins s _ _ _ I h => h pins s I⟩
theorem sSs (st : List Stmt) : PSs X st (wSs X st) := ⟨fun pins s _ _ _ I h => h pins s I⟩
end
section
variable {X : Cx} {e : Expr} {es : List Expr} {st : Stmt} {sts : List Stmt} {σ : L2.St} {H : Hp}
theorem uE {t : TE} {Q : VK} (h : PE X e t) (q : t σ H Q) : wE X e σ H Q := fun pins s I => h.run pins s σ H Q I q
theorem uT {t : TT} {Q : Bool → Hp → Prop} (h : PT X e t) (q : t σ H Q) : wT X e σ H Q := fun pins s I => h.run pins s σ H Q I q
theorem uW {t : TT} {Q : Bool → Hp → Prop} (h : PW X e t) (q : t σ H Q) : wW X e σ H Q := fun whole pins s I => h.run whole pins s σ H Q I q
theorem uA {t : TA} {Q : List V → Hp → Prop} (h : PA X es t) (q : t σ H Q) : wA X es σ H Q := fun pos pins s I => h.run pos pins s σ H Q I q
theorem uS {t : TS} {D : Ends} (h : PS X st t) (q : t D σ H) : wS X st D σ H := fun pins s I => h.run pins s σ H D I q
theorem uSs {t : TS} {D : Ends} (h : PSs X sts t) (q : t D σ H) : wSs X sts D σ H := fun pins s I => h.run pins s σ H D I q
end

/-- e comes to a value that P tells of; what was frozen stays, no cell changes -/
def D (X : Cx) (e : Expr) (σ : L2.St) (G : Hp) (cs : Cells) (P : Hp → V → Prop) : Prop :=
  ∀ G1 H, Same G G1 → Desc G1 cs H → ∀ Q : VK, (∀ G2 H2 v, Same G1 G2 → Desc G2 cs H2 → P G2 v → Q v H2) → wE X e σ H Q
def T (X : Cx) (e : Expr) (σ : L2.St) (G : Hp) (cs : Cells) (b : Bool) : Prop :=
  ∀ G1 H, Same G G1 → Desc G1 cs H → ∀ Q : Bool → Hp → Prop, (∀ G2 H2, Same G1 G2 → Desc G2 cs H2 → Q b H2) → wT X e σ H Q
def TW (X : Cx) (e : Expr) (σ : L2.St) (G : Hp) (cs : Cells) (b : Bool) : Prop :=
  ∀ G1 H, Same G G1 → Desc G1 cs H → ∀ Q : Bool → Hp → Prop, (∀ G2 H2, Same G1 G2 → Desc G2 cs H2 → Q b H2) → wW X e σ H Q
def A (X : Cx) (es : List Expr) (σ : L2.St) (G : Hp) (cs : Cells) (P : Hp → List V → Prop) : Prop :=
  ∀ G1 H, Same G G1 → Desc G1 cs H → ∀ Q : List V → Hp → Prop, (∀ G2 H2 vs, Same G1 G2 → Desc G2 cs H2 → P G2 vs → Q vs H2) → wA X es σ H Q

class Mono (P : Hp → V → Prop) : Prop where
  mono : ∀ {G G' : Hp} {v : V}, Same G G' → P G v → P G' v
class MonoA (P : Hp → List V → Prop) : Prop where
  mono : ∀ {G G' : Hp} {v : List V}, Same G G' → P G v → P G' v

/-! ### what a value tells -/
def rI (i : Int) : Hp → V → Prop := fun _ v => v = .int i
def rB (b : Bool) : Hp → V → Prop := fun _ v => v = .bl b
def rS (l : List Nat) : Hp → V → Prop := fun _ v => v = .str (SX.S l)
def rN (_ : Unit) : Hp → V → Prop := fun _ v => v = .non
def rV (w : V) : Hp → V → Prop := fun _ v => v = w
def rO {α : Type} (r : α → Hp → V → Prop) : Option α → Hp → V → Prop
  | none => fun _ v => v = .non
  | some x => r x
def Rs {α : Type} (r : α → Hp → V → Prop) (G : Hp) : List α → List V → Prop := Paired fun x v => r x G v
def rL (K : PySem.W.Frag) {α : Type} (r : α → Hp → V → Prop) (xs : List α) : Hp → V → Prop := fun G v => ∃ a vs, v = .ref a ∧ SqL K G a vs ∧ Rs r G xs vs
/-- a list that may be read: frozen, or a cell -/
def rdL (K : PySem.W.Frag) (cs : Cells) {α : Type} (r : α → Hp → V → Prop) (xs : List α) : Hp → V → Prop := fun G v => ∃ a vs, v = .ref a ∧ (SqL K G a vs ∨ (a, .lst vs) ∈ cs) ∧ Rs r G xs vs
def rT (K : PySem.W.Frag) {α : Type} (r : α → Hp → List V → Prop) (x : α) : Hp → V → Prop := fun G v => ∃ a vs, v = .ref a ∧ SqT K G a vs ∧ r x G vs
/-- the places of a tuple -/
def c0 {α : Type} (r : α → Hp → V → Prop) (x : α) : Hp → List V → Prop := fun G vs => ∃ v, vs = [v] ∧ r x G v
def cc {α β : Type} (r : α → Hp → V → Prop) (r' : β → Hp → List V → Prop) (x : α × β) : Hp → List V → Prop := fun G vs => ∃ v ws, vs = v :: ws ∧ r x.1 G v ∧ r' x.2 G ws
theorem Rs.mono {α : Type} {r : α → Hp → V → Prop} [m : ∀ x, Mono (r x)] {G G' : Hp} (e : Same G G') : ∀ {xs : List α} {vs : List V}, Rs r G xs vs → Rs r G' xs vs
  | _, _, .nil => .nil
  | _, _, .cons h t => .cons ((m _).mono e h) (Rs.mono e t)
theorem Rs.length {α : Type} {r : α → Hp → V → Prop} {G : Hp} {xs : List α} {vs : List V} (h : Rs r G xs vs) : xs.length = vs.length := Paired.length h
theorem Rs.get {α : Type} {r : α → Hp → V → Prop} {G : Hp} : ∀ {xs : List α} {vs : List V} {i : Nat} {x : α}, Rs r G xs vs → xs[i]? = some x → ∃ v, vs[i]? = some v ∧ r x G v
  | _, _, _, _, .nil, e => by simp at e
  | _, _, 0, _, .cons h _, e => by
    simp at e
    subst e
    exact ⟨_, rfl, h⟩
  | _, _, i + 1, x, .cons _ t, e => by
    obtain ⟨v, h1, h2⟩ := Rs.get (i := i) (x := x) t (by simpa using e)
    exact ⟨v, by simpa using h1, h2⟩
theorem Rs.getV {α : Type} {r : α → Hp → V → Prop} {G : Hp} : ∀ {xs : List α} {vs : List V} {i : Nat} {v : V}, Rs r G xs vs → vs[i]? = some v → ∃ x, xs[i]? = some x ∧ r x G v
  | _, _, _, _, .nil, e => by simp at e
  | _, _, 0, _, .cons h _, e => by
    simp at e
    subst e
    exact ⟨_, rfl, h⟩
  | _, _, i + 1, x, .cons _ t, e => by
    obtain ⟨v, h1, h2⟩ := Rs.getV (i := i) (v := x) t (by simpa using e)
    exact ⟨v, by simpa using h1, h2⟩
theorem Rs.snoc {α : Type} {r : α → Hp → V → Prop} {G : Hp} {x : α} {v : V} (hx : r x G v) : ∀ {xs : List α} {vs : List V}, Rs r G xs vs → Rs r G (xs ++ [x]) (vs ++ [v])
  | _, _, .nil => .cons hx .nil
  | _, _, .cons h t => .cons h (Rs.snoc hx t)
theorem Rs.append {α : Type} {r : α → Hp → V → Prop} {G : Hp} {ys : List α} {ws : List V} (hy : Rs r G ys ws) : ∀ {xs : List α} {vs : List V}, Rs r G xs vs → Rs r G (xs ++ ys) (vs ++ ws)
  | _, _, .nil => hy
  | _, _, .cons h t => .cons h (Rs.append hy t)
theorem Rs.set {α : Type} {r : α → Hp → V → Prop} {G : Hp} {x : α} {v : V} (hx : r x G v) : ∀ {xs : List α} {vs : List V} (i : Nat), Rs r G xs vs → Rs r G (xs.set i x) (vs.set i v)
  | _, _, _, .nil => .nil
  | _, _, 0, .cons _ t => .cons hx t
  | _, _, i + 1, .cons h t => .cons h (Rs.set hx i t)
theorem Rs.take {α : Type} {r : α → Hp → V → Prop} {G : Hp} : ∀ {xs : List α} {vs : List V} (n : Nat), Rs r G xs vs → Rs r G (xs.take n) (vs.take n)
  | _, _, 0, _ => .nil
  | _, _, _ + 1, .nil => .nil
  | _, _, n + 1, .cons h t => .cons h (Rs.take n t)
theorem Rs.drop {α : Type} {r : α → Hp → V → Prop} {G : Hp} : ∀ {xs : List α} {vs : List V} (n : Nat), Rs r G xs vs → Rs r G (xs.drop n) (vs.drop n)
  | _, _, 0, h => h
  | _, _, _ + 1, .nil => .nil
  | _, _, n + 1, .cons _ t => Rs.drop n t
theorem Rs.map {α : Type} {r : α → Hp → V → Prop} {f : α → V} {G : Hp} (h : ∀ x v, r x G v → v = f x) : ∀ {xs : List α} {vs : List V}, Rs r G xs vs → vs = xs.map f
  | _, _, .nil => rfl
  | _, _, .cons p t => by
    rw [h _ _ p, Rs.map h t]
    rfl
theorem Rs.of_map {α : Type} {r : α → Hp → V → Prop} {f : α → V} {G : Hp} (h : ∀ x, r x G (f x)) : ∀ (xs : List α), Rs r G xs (xs.map f)
  | [] => .nil
  | x :: xs => .cons (h x) (Rs.of_map h xs)
instance (i : Int) : Mono (rI i) := ⟨fun _ h => h⟩
instance (b : Bool) : Mono (rB b) := ⟨fun _ h => h⟩
instance (l : List Nat) : Mono (rS l) := ⟨fun _ h => h⟩
instance (u : Unit) : Mono (rN u) := ⟨fun _ h => h⟩
instance (w : V) : Mono (rV w) := ⟨fun _ h => h⟩
instance {α : Type} (r : α → Hp → V → Prop) [m : ∀ x, Mono (r x)] (o : Option α) : Mono (rO r o) := by
  cases o with
  | none => exact ⟨fun _ h => h⟩
  | some x => exact m x
instance (K : PySem.W.Frag) {α : Type} (r : α → Hp → V → Prop) [m : ∀ x, Mono (r x)] (xs : List α) : Mono (rL K r xs) :=
  ⟨fun e ⟨a, vs, h1, h2, h3⟩ => ⟨a, vs, h1, e.seq h2, h3.mono e⟩⟩
instance (K : PySem.W.Frag) (cs : Cells) {α : Type} (r : α → Hp → V → Prop) [m : ∀ x, Mono (r x)] (xs : List α) : Mono (rdL K cs r xs) :=
  ⟨fun e ⟨a, vs, h1, h2, h3⟩ => ⟨a, vs, h1, h2.imp (e.seq) id, h3.mono e⟩⟩
instance (K : PySem.W.Frag) {α : Type} (r : α → Hp → List V → Prop) [m : ∀ x, MonoA (r x)] (x : α) : Mono (rT K r x) :=
  ⟨fun e ⟨a, vs, h1, h2, h3⟩ => ⟨a, vs, h1, seqT e h2, (m x).mono e h3⟩⟩
instance {α : Type} (r : α → Hp → V → Prop) [m : ∀ x, Mono (r x)] (x : α) : MonoA (c0 r x) := ⟨fun e ⟨v, h1, h2⟩ => ⟨v, h1, (m x).mono e h2⟩⟩
instance {α β : Type} (r : α → Hp → V → Prop) (r' : β → Hp → List V → Prop) [m : ∀ x, Mono (r x)] [m' : ∀ x, MonoA (r' x)] (x : α × β) : MonoA (cc r r' x) :=
  ⟨fun e ⟨v, ws, h1, h2, h3⟩ => ⟨v, ws, h1, (m x.1).mono e h2, (m' x.2).mono e h3⟩⟩
theorem rdL_of {K : PySem.W.Frag} {cs : Cells} {α : Type} {r : α → Hp → V → Prop} {xs : List α} {G : Hp} {v : V} (h : rL K r xs G v) : rdL K cs r xs G v :=
  let ⟨a, vs, h1, h2, h3⟩ := h
  ⟨a, vs, h1, .inl h2, h3⟩
theorem rdL_cell {K : PySem.W.Frag} {cs : Cells} {α : Type} {r : α → Hp → V → Prop} {xs : List α} {G : Hp} {a : Addr} {vs : List V} (h : (a, .lst vs) ∈ cs) (h3 : Rs r G xs vs) : rdL K cs r xs G (.ref a) := ⟨a, vs, rfl, .inr h, h3⟩
theorem rdL.sq {K : PySem.W.Frag} {cs : Cells} {α : Type} {r : α → Hp → V → Prop} {xs : List α} {G H : Hp} {v : V} (h : rdL K cs r xs G v) (d : Desc G cs H) : ∃ a vs, v = .ref a ∧ SqL K H a vs ∧ Rs r G xs vs := by
  obtain ⟨a, vs, h1, h2, h3⟩ := h
  refine ⟨a, vs, h1, ?_, h3⟩
  rcases h2 with h2 | h2
  · exact d.same.seq h2
  · exact SqL.of (d.at_ h2)

/-! ### expressions -/
section
variable {X : Cx} {σ : L2.St} {G : Hp} {cs : Cells} {e a b c : Expr} {es : List Expr} {P Pa Pb Pc : Hp → V → Prop} {pos p : Pos}
theorem D.imp {P' : Hp → V → Prop} (h : D X e σ G cs P) (i : ∀ G v, P G v → P' G v) : D X e σ G cs P' := fun G1 H s d Q q => h G1 H s d Q fun G2 H2 v s2 d2 p => q G2 H2 v s2 d2 (i G2 v p)
theorem D.up {G' : Hp} (h : D X e σ G cs P) (s : Same G G') : D X e σ G' cs P := fun G1 H s1 d Q q => h G1 H (s.trans s1) d Q q
theorem T.up {G' : Hp} {k : Bool} (h : T X e σ G cs k) (s : Same G G') : T X e σ G' cs k := fun G1 H s1 d Q q => h G1 H (s.trans s1) d Q q
/-- by a rule of the layer -/
theorem d_by {t : TE} (h : PE X e t) (q : ∀ G1 H, Same G G1 → Desc G1 cs H → ∀ Q : VK, (∀ G2 H2 v, Same G1 G2 → Desc G2 cs H2 → P G2 v → Q v H2) → t σ H Q) : D X e σ G cs P := fun G1 H s d Q k => uE h (q G1 H s d Q k)
theorem d_var (i : Nat) {x : Str} {v : V} [m : Mono P] (hs : σ[i]? = some (some v)) (hp : P G v) (hN : X.N[i]? = some x := by rfl) (hv : Vis X.env.scope x := by first | exact Or.inl rfl | exact Or.inr (Or.inl rfl) | exact Or.inr (Or.inr rfl))
    (hd : (x == ("__debug__" : Str)) = false := by decide) (hcd : (x == ("__classdict__" : Str)) = false := by decide) : D X (.Name x pos) σ G cs P :=
  d_by (pe_var hN hv hd hcd) fun G1 H s d Q q => ⟨v, hs, q G1 H v (Same.refl _) d (m.mono s hp)⟩
theorem d_int {i : Int} {j : Nat} : D X (.Constant (.int i) j pos) σ G cs (rI i) := d_by pe_int fun G1 H s d Q q => q G1 H _ (Same.refl _) d rfl
theorem d_bl {i : Bool} {j : Nat} : D X (.Constant (.bool i) j pos) σ G cs (rB i) := d_by pe_bl fun G1 H s d Q q => q G1 H _ (Same.refl _) d rfl
theorem d_non {j : Nat} : D X (.Constant .none j pos) σ G cs (rN ()) := d_by pe_non fun G1 H s d Q q => q G1 H _ (Same.refl _) d rfl
theorem d_str {x : Str} {l : List Nat} {j : Nat} (h : x = SX.S l) : D X (.Constant (.str x) j pos) σ G cs (rS l) := d_by pe_str fun G1 H s d Q q => q G1 H _ (Same.refl _) d (by rw [h]; rfl)
/-- a module's constant by its value -/
theorem d_glob {x : Str} {v : V} [m : Mono P] (hg : Gl X x) (h : ∃ u, X.mg x = some u ∧ RelV v u) (hp : P G v) (hd : (x == ("__debug__" : Str)) = false := by decide) : D X (.Name x pos) σ G cs P := by
  obtain ⟨u, hm, r⟩ := h
  exact d_by (pe_glob hg hm r hd) fun G1 H s d Q q => q G1 H v (Same.refl _) d (m.mono s hp)
/-- a two-place operation -/
theorem d_bin {op : Operator} {r : R2} [Mono Pa] (ho : OpR X (binaryOp op) r) (ha : D X a σ G cs Pa) (hb : D X b σ G cs Pb)
    (hr : ∀ G1 H x y, Same G G1 → Desc G1 cs H → Pa G1 x → Pb G1 y → ∀ Q : VK, (∀ G2 H2 v, Same G1 G2 → Desc G2 cs H2 → P G2 v → Q v H2) → r x y H Q) : D X (.BinOp a op b pos) σ G cs P :=
  d_by (pe_op ho (sE X a) (sE X b)) fun G1 H s d Q q => ha G1 H s d _ fun G2 H2 x s2 d2 hx => hb G2 H2 (s.trans s2) d2 _ fun G3 H3 y s3 d3 hy =>
    hr G3 H3 x y ((s.trans s2).trans s3) d3 (Mono.mono s3 hx) hy Q fun G4 H4 v s4 d4 hv => q G4 H4 v ((s2.trans s3).trans s4) d4 hv
theorem d_un {op : UnaryOp} {r : V → Hp → VK → Prop} (ho : UnR X (unaryOp op) r) (ha : D X a σ G cs Pa)
    (hr : ∀ G1 H x, Same G G1 → Desc G1 cs H → Pa G1 x → ∀ Q : VK, (∀ G2 H2 v, Same G1 G2 → Desc G2 cs H2 → P G2 v → Q v H2) → r x H Q) : D X (.UnaryOp op a pos) σ G cs P :=
  d_by (pe_un ho (sE X a)) fun G1 H s d Q q => ha G1 H s d _ fun G2 H2 x s2 d2 hx => hr G2 H2 x (s.trans s2) d2 hx Q fun G4 H4 v s4 d4 hv => q G4 H4 v (s2.trans s4) d4 hv
/-- comparisons, as values and as tests -/
theorem d_cmp {op : CmpOp} {r : R2} {k : Bool} [Mono Pa] (ho : OpR X (compareOp op) r) (hm : behindInMarks op b = false) (ha : D X a σ G cs Pa) (hb : D X b σ G cs Pb)
    (hr : ∀ G1 H x y, Same G G1 → Desc G1 cs H → Pa G1 x → Pb G1 y → ∀ Q : VK, Q (.bl k) H → r x y H Q) : D X (.Compare a [op] [b] pos) σ G cs (rB k) :=
  d_by (pe_cmpR ho (sE X a) (sE X b) hm) fun G1 H s d Q q => ha G1 H s d _ fun G2 H2 x s2 d2 hx => hb G2 H2 (s.trans s2) d2 _ fun G3 H3 y s3 d3 hy =>
    hr G3 H3 x y ((s.trans s2).trans s3) d3 (Mono.mono s3 hx) hy Q (q G3 H3 _ (s2.trans s3) d3 rfl)
theorem t_cmp {op : CmpOp} {r : R2} {k : Bool} [Mono Pa] (ho : OpR X (compareOp op) r) (hm : behindInMarks op b = false) (ha : D X a σ G cs Pa) (hb : D X b σ G cs Pb)
    (hr : ∀ G1 H x y, Same G G1 → Desc G1 cs H → Pa G1 x → Pb G1 y → ∀ Q : VK, Q (.bl k) H → r x y H Q) : T X (.Compare a [op] [b] pos) σ G cs k := fun G1 H s d Q q =>
  uT (pt_cmpR ho (sE X a) (sE X b) hm) (ha G1 H s d _ fun G2 H2 x s2 d2 hx => hb G2 H2 (s.trans s2) d2 _ fun G3 H3 y s3 d3 hy =>
    hr G3 H3 x y ((s.trans s2).trans s3) d3 (Mono.mono s3 hx) hy _ ⟨k, rfl, q G3 H3 (s2.trans s3) d3⟩)
theorem d_chain {op op' : CmpOp} {r r' : R2} {k k' : Bool} [Mono Pa] [Mono Pb] (ho : OpR X (compareOp op) r) (ho' : OpR X (compareOp op') r') (ha : D X a σ G cs Pa) (hb : D X b σ G cs Pb) (hc : D X c σ G cs Pc)
    (hr : ∀ G1 H x y, Same G G1 → Desc G1 cs H → Pa G1 x → Pb G1 y → ∀ Q : VK, Q (.bl k) H → r x y H Q) (hr' : ∀ G1 H x y, Same G G1 → Desc G1 cs H → Pb G1 x → Pc G1 y → ∀ Q : VK, Q (.bl k') H → r' x y H Q)
    (hm : lastMarks [op, op'] [b, c] = false := by with_unfolding_all rfl) : D X (.Compare a [op, op'] [b, c] pos) σ G cs (rB (k && k')) :=
  d_by (pe_chain ho ho' (sE X a) (sE X b) (sE X c) hm) fun G1 H s d Q q => ha G1 H s d _ fun G2 H2 x s2 d2 hx => hb G2 H2 (s.trans s2) d2 _ fun G3 H3 y s3 d3 hy => by
    refine hr G3 H3 x y ((s.trans s2).trans s3) d3 (Mono.mono s3 hx) hy _ ⟨k, rfl, ?_⟩
    cases k with
    | false => exact q G3 H3 _ (s2.trans s3) d3 rfl
    | true => exact hc G3 H3 ((s.trans s2).trans s3) d3 _ fun G4 H4 z s4 d4 hz => hr' G4 H4 y z (((s.trans s2).trans s3).trans s4) d4 (Mono.mono s4 hy) hz Q (q G4 H4 _ ((s2.trans s3).trans s4) d4 rfl)
theorem t_chain {op op' : CmpOp} {r r' : R2} {k k' : Bool} [Mono Pa] [Mono Pb] (ho : OpR X (compareOp op) r) (ho' : OpR X (compareOp op') r') (ha : D X a σ G cs Pa) (hb : D X b σ G cs Pb) (hc : D X c σ G cs Pc)
    (hr : ∀ G1 H x y, Same G G1 → Desc G1 cs H → Pa G1 x → Pb G1 y → ∀ Q : VK, Q (.bl k) H → r x y H Q) (hr' : ∀ G1 H x y, Same G G1 → Desc G1 cs H → Pb G1 x → Pc G1 y → ∀ Q : VK, Q (.bl k') H → r' x y H Q)
    (hm : lastMarks [op, op'] [b, c] = false := by with_unfolding_all rfl) : T X (.Compare a [op, op'] [b, c] pos) σ G cs (k && k') := fun G1 H s d Q q =>
  uT (pt_chain ho ho' (sE X a) (sE X b) (sE X c) hm) (ha G1 H s d _ fun G2 H2 x s2 d2 hx => hb G2 H2 (s.trans s2) d2 _ fun G3 H3 y s3 d3 hy => by
    refine hr G3 H3 x y ((s.trans s2).trans s3) d3 (Mono.mono s3 hx) hy _ ⟨k, rfl, ?_⟩
    cases k with
    | false => exact ⟨false, rfl, q G3 H3 (s2.trans s3) d3⟩
    | true => exact hc G3 H3 ((s.trans s2).trans s3) d3 _ fun G4 H4 z s4 d4 hz => hr' G4 H4 y z (((s.trans s2).trans s3).trans s4) d4 (Mono.mono s4 hy) hz _ ⟨k', rfl, q G4 H4 ((s2.trans s3).trans s4) d4⟩)
/-- and, or, not; as values, as tests -/
theorem t_val {k : Bool} (h : D X e σ G cs (rB k)) (he : ∀ whole, isTrue e X.env whole = (do let v ← whole; standAt e.pos; holding [v] (truthy v)) := by intro _; rfl) : T X e σ G cs k := fun G1 H s d Q q =>
  uT (pt_val (sE X e) he) (h G1 H s d _ fun G2 H2 v s2 d2 hv => ⟨k, hv, q G2 H2 s2 d2⟩)
theorem t_not {k : Bool} (h : T X a σ G cs k) : T X (.UnaryOp .Not a pos) σ G cs (!k) := fun G1 H s d Q q => uT (pt_not (sT X a)) (h G1 H s d _ fun G2 H2 s2 d2 => q G2 H2 s2 d2)
theorem t_w {k : Bool} (h : TW X e σ G cs k) : T X e σ G cs k := fun G1 H s d Q q => uT (PW.pt (sW X e)) (h G1 H s d Q q)
theorem w_and1 {k : Bool} (h : T X a σ G cs k) : TW X (.BoolOp .And [a] pos) σ G cs k := fun G1 H s d Q q => uW (pw_and1 (sT X a)) (h G1 H s d Q q)
theorem w_or1 {k : Bool} (h : T X a σ G cs k) : TW X (.BoolOp .Or [a] pos) σ G cs k := fun G1 H s d Q q => uW (pw_or1 (sT X a)) (h G1 H s d Q q)
theorem w_and {rest : List Expr} {k k' : Bool} (h : T X a σ G cs k) (h' : k = true → TW X (.BoolOp .And (b :: rest) pos) σ G cs k') : TW X (.BoolOp .And (a :: b :: rest) pos) σ G cs (k && k') := fun G1 H s d Q q =>
  uW (pw_and (sT X a) (sW X _)) (h G1 H s d _ fun G2 H2 s2 d2 => by
    cases k with
    | false => exact iteF (q G2 H2 s2 d2)
    | true => exact iteT (h' rfl G2 H2 (s.trans s2) d2 Q fun G3 H3 s3 d3 => q G3 H3 (s2.trans s3) d3))
theorem w_or {rest : List Expr} {k k' : Bool} (h : T X a σ G cs k) (h' : k = false → TW X (.BoolOp .Or (b :: rest) pos) σ G cs k') : TW X (.BoolOp .Or (a :: b :: rest) pos) σ G cs (k || k') := fun G1 H s d Q q =>
  uW (pw_or (sT X a) (sW X _)) (h G1 H s d _ fun G2 H2 s2 d2 => by
    cases k with
    | true => exact iteT (q G2 H2 s2 d2)
    | false => exact iteF (h' rfl G2 H2 (s.trans s2) d2 Q fun G3 H3 s3 d3 => q G3 H3 (s2.trans s3) d3))
theorem d_one {op : BoolOp} (h : D X a σ G cs P) : D X (.BoolOp op [a] pos) σ G cs P := fun G1 H s d Q q => uE (pe_one (sE X a)) (h G1 H s d Q q)
theorem d_and {rest : List Expr} {k k' : Bool} (h : D X a σ G cs (rB k)) (h' : k = true → D X (.BoolOp .And (b :: rest) pos) σ G cs (rB k')) : D X (.BoolOp .And (a :: b :: rest) pos) σ G cs (rB (k && k')) :=
  d_by (pe_and (sE X a) (sE X _)) fun G1 H s d Q q => h G1 H s d _ fun G2 H2 v s2 d2 hv => ⟨k, hv, by
    cases k with
    | false => exact iteF (q G2 H2 _ s2 d2 rfl)
    | true => exact iteT (h' rfl G2 H2 (s.trans s2) d2 Q fun G3 H3 w s3 d3 hw => q G3 H3 w (s2.trans s3) d3 hw)⟩
theorem d_or {rest : List Expr} {k k' : Bool} (h : D X a σ G cs (rB k)) (h' : k = false → D X (.BoolOp .Or (b :: rest) pos) σ G cs (rB k')) : D X (.BoolOp .Or (a :: b :: rest) pos) σ G cs (rB (k || k')) :=
  d_by (pe_or (sE X a) (sE X _)) fun G1 H s d Q q => h G1 H s d _ fun G2 H2 v s2 d2 hv => ⟨k, hv, by
    cases k with
    | true => exact iteT (q G2 H2 _ s2 d2 rfl)
    | false => exact iteF (h' rfl G2 H2 (s.trans s2) d2 Q fun G3 H3 w s3 d3 hw => q G3 H3 w (s2.trans s3) d3 hw)⟩
theorem d_not {k : Bool} (h : D X a σ G cs (rB k)) : D X (.UnaryOp .Not a pos) σ G cs (rB (!k)) :=
  d_by (pe_not (sE X a)) fun G1 H s d Q q => h G1 H s d _ fun G2 H2 v s2 d2 hv => ⟨k, hv, q G2 H2 _ s2 d2 rfl⟩
theorem d_if {α : Type} {k : Bool} {r : α → Hp → V → Prop} {x y : α} (hc : T X c σ G cs k) (ha : k = true → D X a σ G cs (r x)) (hb : k = false → D X b σ G cs (r y)) : D X (.IfExp c a b pos) σ G cs (r (if k = true then x else y)) :=
  d_by (pe_ifExp (sT X c) (sE X a) (sE X b)) fun G1 H s d Q q => hc G1 H s d _ fun G2 H2 s2 d2 => by
    cases k with
    | true => exact iteT (ha rfl G2 H2 (s.trans s2) d2 Q fun G3 H3 w s3 d3 hw => q G3 H3 w (s2.trans s3) d3 hw)
    | false => exact iteF (hb rfl G2 H2 (s.trans s2) d2 Q fun G3 H3 w s3 d3 hw => q G3 H3 w (s2.trans s3) d3 hw)
/-! arguments -/
def aN : Hp → List V → Prop := fun _ vs => vs = []
def aC (P : Hp → V → Prop) (Ps : Hp → List V → Prop) : Hp → List V → Prop := fun G vs => ∃ v ws, vs = v :: ws ∧ P G v ∧ Ps G ws
theorem a_nil : A X [] σ G cs aN := fun G1 H s d Q q => uA pa_nil (q G1 H _ (Same.refl _) d rfl)
theorem a_cons {Ps : Hp → List V → Prop} [Mono P] (h : D X e σ G cs P) (hs : A X es σ G cs Ps) (hst : starEach (e :: es) X.env = (false, eval e X.env) :: starEach es X.env := by rfl) : A X (e :: es) σ G cs (aC P Ps) := fun G1 H s d Q q =>
  uA (pa_cons (sE X e) (sA X es) hst) (h G1 H s d _ fun G2 H2 v s2 d2 hv => hs G2 H2 (s.trans s2) d2 _ fun G3 H3 ws s3 d3 hw => q G3 H3 _ (s2.trans s3) d3 ⟨v, ws, rfl, Mono.mono s3 hv, hw⟩)
theorem d_callB {x : Str} {id : String} {r : List V → Hp → VK → Prop} {Ps : Hp → List V → Prop} (hc : CallR X (.builtin id) r) (hm : X.mg x = none) (ha : A X (e :: es) σ G cs Ps)
    (hr : ∀ G1 H vs, Same G G1 → Desc G1 cs H → Ps G1 vs → ∀ Q : VK, (∀ G2 H2 v, Same G1 G2 → Desc G2 cs H2 → P G2 v → Q v H2) → r vs H Q)
    (hg : Gl X x := by rfl) (hv : bootBuiltins x = some (.builtin id) := by decide +kernel) (hn : x ≠ "__name__" := by decide) (hd : (x == ("__debug__" : Str)) = false := by decide)
    (he : starEach (e :: es) X.env = (false, eval e X.env) :: starEach es X.env := by rfl) (hpl : (backTo pos (starEach es X.env)).any (·.1) = false := by rfl) : D X (.Call (.Name x p) (e :: es) [] pos) σ G cs P :=
  d_by (pe_callB hc hg hm hv (sA X _) (hn := hn) (hdb := hd) (he := he) (hpl := hpl)) fun G1 H s d Q q => ha G1 H s d _ fun G2 H2 vs s2 d2 hvs => hr G2 H2 vs (s.trans s2) d2 hvs Q fun G3 H3 v s3 d3 h3 => q G3 H3 v (s2.trans s3) d3 h3
theorem d_callTy {x : Str} {id : String} {r : List V → Hp → VK → Prop} {Ps : Hp → List V → Prop} (hc : CallR X (.type id) r) (hm : X.mg x = none) (ha : A X (e :: es) σ G cs Ps)
    (hr : ∀ G1 H vs, Same G G1 → Desc G1 cs H → Ps G1 vs → ∀ Q : VK, (∀ G2 H2 v, Same G1 G2 → Desc G2 cs H2 → P G2 v → Q v H2) → r vs H Q)
    (hg : Gl X x := by rfl) (hv : bootBuiltins x = some (.type id) := by decide +kernel) (hn : x ≠ "__name__" := by decide) (hd : (x == ("__debug__" : Str)) = false := by decide)
    (he : starEach (e :: es) X.env = (false, eval e X.env) :: starEach es X.env := by rfl) (hpl : (backTo pos (starEach es X.env)).any (·.1) = false := by rfl) : D X (.Call (.Name x p) (e :: es) [] pos) σ G cs P :=
  d_by (pe_callTy hc hg hm hv (sA X _) (hn := hn) (hdb := hd) (he := he) (hpl := hpl)) fun G1 H s d Q q => ha G1 H s d _ fun G2 H2 vs s2 d2 hvs => hr G2 H2 vs (s.trans s2) d2 hvs Q fun G3 H3 v s3 d3 h3 => q G3 H3 v (s2.trans s3) d3 h3
end
end J

namespace J
open PySem L2

/-! ### what a block comes to -/
/-- ε errors, S the state behind the block, L the state of the loop around, R what is handed back -/
inductive Out (ε S L R : Type) where
  | nx (s : S) | bk (l : L) | ct (l : L) | rt (r : R) | er (k : ε)
namespace Out
variable {ε S S' L R : Type}
def bind (m : Out ε S L R) (k : S → Out ε S' L R) : Out ε S' L R := match m with
  | .nx s => k s
  | .bk l => .bk l
  | .ct l => .ct l
  | .rt r => .rt r
  | .er e => .er e
@[simp] theorem bind_nx (s : S) (k : S → Out ε S' L R) : (Out.nx s : Out ε S L R).bind k = k s := rfl
@[simp] theorem bind_bk (l : L) (k : S → Out ε S' L R) : (Out.bk l : Out ε S L R).bind k = .bk l := rfl
@[simp] theorem bind_ct (l : L) (k : S → Out ε S' L R) : (Out.ct l : Out ε S L R).bind k = .ct l := rfl
@[simp] theorem bind_rt (r : R) (k : S → Out ε S' L R) : (Out.rt r : Out ε S L R).bind k = .rt r := rfl
@[simp] theorem bind_er (e : ε) (k : S → Out ε S' L R) : (Out.er e : Out ε S L R).bind k = .er e := rfl
/-- the value of a body that hands back, and raises nothing -/
def val [Inhabited R] (m : Out Empty Unit Empty R) : R := match m with
  | .nx _ => default
  | .bk l => l.elim
  | .ct l => l.elim
  | .rt r => r
  | .er e => e.elim
@[simp] theorem val_rt [Inhabited R] (r : R) : (Out.rt r : Out Empty Unit Empty R).val = r := rfl
/-- of one that may raise -/
def res [Inhabited R] (m : Out ε Unit Empty R) : Except ε R := match m with
  | .nx _ => .ok default
  | .bk l => l.elim
  | .ct l => l.elim
  | .rt r => .ok r
  | .er e => .error e
@[simp] theorem res_rt [Inhabited R] (r : R) : (Out.rt r : Out ε Unit Empty R).res = .ok r := rfl
@[simp] theorem res_er [Inhabited R] (e : ε) : (Out.er e : Out ε Unit Empty R).res = .error e := rfl
@[simp] theorem res_nx [Inhabited R] (u : Unit) : (Out.nx u : Out ε Unit Empty R).res = .ok default := rfl
end Out
/-- a loop: f is a turn -/
def forL {ε S L R α : Type} (f : S → α → Out ε S S R) : S → List α → Out ε S L R
  | s, [] => .nx s
  | s, x :: xs => match f s x with
    | .nx s' => forL f s' xs
    | .ct s' => forL f s' xs
    | .bk s' => .nx s'
    | .rt r => .rt r
    | .er e => .er e
/-- a while: at most n turns -/
def whileN {ε S L R : Type} (c : S → Bool) (f : S → Out ε S S R) : Nat → S → Out ε S L R
  | 0, s => .nx s
  | n + 1, s => if c s = true then (match f s with
    | .nx s' => whileN c f n s'
    | .ct s' => whileN c f n s'
    | .bk s' => .nx s'
    | .rt r => .rt r
    | .er e => .er e) else .nx s

structure Po (ε S L R : Type) where
  nx : S → L2.St → Hp → Cells → Prop
  lp : L → L2.St → Hp → Cells → Prop
  rt : R → Hp → Cells → V → Prop
  er : ε → Cells → Prop
/-- what is wanted behind, by the outcome -/
def Wish {ε S L R : Type} (W : ε → L2.St → Hp → Prop) (G : Hp) (Φ : Po ε S L R) (E : Ends) (m : Out ε S L R) : Prop := match m with
  | .nx s => ∀ σ2 G2 cs2 H2, Same G G2 → Desc G2 cs2 H2 → Φ.nx s σ2 G2 cs2 → E.nx σ2 H2
  | .bk l => ∀ σ2 G2 cs2 H2, Same G G2 → Desc G2 cs2 H2 → Φ.lp l σ2 G2 cs2 → E.bk σ2 H2
  | .ct l => ∀ σ2 G2 cs2 H2, Same G G2 → Desc G2 cs2 H2 → Φ.lp l σ2 G2 cs2 → E.ct σ2 H2
  | .rt r => ∀ v G2 cs2 H2, Same G G2 → Desc G2 cs2 H2 → Φ.rt r G2 cs2 v → E.rt v H2
  | .er k => ∀ σ2 G2 cs2 H2, Same G G2 → Desc G2 cs2 H2 → Φ.er k cs2 → W k σ2 H2
theorem Wish.up {ε S L R : Type} {W : ε → L2.St → Hp → Prop} {G G' : Hp} {Φ : Po ε S L R} {E : Ends} {m : Out ε S L R} (h : Wish W G Φ E m) (s : Same G G') : Wish W G' Φ E m := by
  cases m with
  | nx x => exact fun σ2 G2 cs2 H2 s2 d p => h σ2 G2 cs2 H2 (s.trans s2) d p
  | bk x => exact fun σ2 G2 cs2 H2 s2 d p => h σ2 G2 cs2 H2 (s.trans s2) d p
  | ct x => exact fun σ2 G2 cs2 H2 s2 d p => h σ2 G2 cs2 H2 (s.trans s2) d p
  | rt x => exact fun σ2 G2 cs2 H2 s2 d p => h σ2 G2 cs2 H2 (s.trans s2) d p
  | er x => exact fun σ2 G2 cs2 H2 s2 d p => h σ2 G2 cs2 H2 (s.trans s2) d p
/-- the block comes to m -/
def B {ε S L R : Type} (X : Cx) (W : ε → L2.St → Hp → Prop) (sts : List Stmt) (σ : L2.St) (G : Hp) (cs : Cells) (Φ : Po ε S L R) (m : Out ε S L R) : Prop :=
  ∀ H, Desc G cs H → ∀ E : Ends, Wish W G Φ E m → wSs X sts E σ H

section
variable {ε S L R : Type} {X : Cx} {W : ε → L2.St → Hp → Prop} {σ : L2.St} {G : Hp} {cs : Cells} {Φ : Po ε S L R} {m : Out ε S L R} {st : Stmt} {rest body : List Stmt} {e : Expr} {P : Hp → V → Prop} {pos p : Pos}
theorem b_nil {s : S} (h : Φ.nx s σ G cs) : B X W [] σ G cs Φ (.nx s) := fun H d E w => uSs pss_nil (w σ G cs H (Same.refl _) d h)
/-- a statement by a rule, then the rest -/
theorem b_cons {t : TS} (h : PS X st t) (q : ∀ H, Desc G cs H → ∀ E : Ends, Wish W G Φ E m → t { E with nx := wSs X rest E } σ H) : B X W (st :: rest) σ G cs Φ m := fun H d E w => uSs (pss_cons h (sSs X rest)) (q H d E w)
theorem b_pass (h : B X W rest σ G cs Φ m) : B X W (.Pass pos :: rest) σ G cs Φ m := b_cons ps_pass fun H d E w => h H d E w
theorem b_set (i : Nat) {x : Str} (hN : X.N.Nodup) (he : D X e σ G cs P) (k : ∀ v G1, Same G G1 → P G1 v → B X W rest (σ.set i (some v)) G1 cs Φ m) (hi : X.N[i]? = some x := by rfl) (hx : Loc X.env.scope x := by first | exact Or.inl rfl | exact Or.inr rfl)
    (hs : swapsWith e (some (.Name x p)) pos.line X.env = pure false := by rfl) (hf : X.fn x = true ∨ X.env.scope.names.lookup x = some .local := by first | exact .inl rfl | exact .inr rfl) : B X W (.Assign [.Name x p] e pos :: rest) σ G cs Φ m :=
  b_cons (ps_set hN hi hx (sE X e) hs hf) fun H d E w => he G H (Same.refl _) d _ fun G2 H2 v s2 d2 hv => k v G2 s2 hv H2 d2 E (w.up s2)
theorem b_ret {r : R} (he : D X e σ G cs P) (k : ∀ v G1, Same G G1 → P G1 v → Φ.rt r G1 cs v) : B X W (.Return (some e) pos :: rest) σ G cs Φ (.rt r) :=
  b_cons (ps_ret (sE X e)) fun H d E w => he G H (Same.refl _) d _ fun G2 H2 v s2 d2 hv => w v G2 cs H2 s2 d2 (k v G2 s2 hv)
theorem b_retN {r : R} (k : Φ.rt r G cs .non) : B X W (.Return none pos :: rest) σ G cs Φ (.rt r) := b_cons ps_retN fun H d E w => w .non G cs H (Same.refl _) d k
theorem b_break {l : L} (k : Φ.lp l σ G cs) : B X W (.Break pos :: rest) σ G cs Φ (.bk l) := b_cons ps_break fun H d E w => w σ G cs H (Same.refl _) d k
theorem b_cont {l : L} (k : Φ.lp l σ G cs) : B X W (.Continue pos :: rest) σ G cs Φ (.ct l) := b_cons ps_continue fun H d E w => w σ G cs H (Same.refl _) d k
/-- an if, every way through it goes on in the rest or leaves -/
theorem b_if {S' : Type} {c : Expr} {a b : List Stmt} {k : Bool} (Mid : S' → L2.St → Hp → Cells → Prop) {ma mb : Out ε S' L R} {g : S' → Out ε S L R} (hc : T X c σ G cs k)
    (ha : k = true → ∀ G1, Same G G1 → B X W a σ G1 cs { nx := Mid, lp := Φ.lp, rt := Φ.rt, er := Φ.er } ma) (hb : k = false → ∀ G1, Same G G1 → B X W b σ G1 cs { nx := Mid, lp := Φ.lp, rt := Φ.rt, er := Φ.er } mb)
    (hr : ∀ s σ2 G2 cs2, Same G G2 → Mid s σ2 G2 cs2 → (if k = true then ma else mb) = .nx s → B X W rest σ2 G2 cs2 Φ (g s)) : B X W (.If c a b pos :: rest) σ G cs Φ ((if k = true then ma else mb).bind g) :=
  b_cons (ps_if (sT X c) (sSs X a) (sSs X b)) fun H d E w => hc G H (Same.refl _) d _ fun G2 H2 s2 d2 => by
    have go : ∀ {sts : List Stmt} {mm : Out ε S' L R}, B X W sts σ G2 cs { nx := Mid, lp := Φ.lp, rt := Φ.rt, er := Φ.er } mm → Wish W G Φ E (mm.bind g) → (∀ s σ2 G3 cs2, Same G G3 → Mid s σ2 G3 cs2 → mm = .nx s → B X W rest σ2 G3 cs2 Φ (g s)) → wSs X sts { E with nx := wSs X rest E } σ H2 := fun {sts mm} hB w hr => by
      refine hB H2 d2 _ ?_
      cases mm with
      | nx s => exact fun σ3 G3 cs3 H3 s3 d3 p => hr s σ3 G3 cs3 (s2.trans s3) p rfl H3 d3 E (Wish.up (G := G) (show Wish W G Φ E (g s) from w) (s2.trans s3))
      | bk l => exact fun σ3 G3 cs3 H3 s3 d3 p => w σ3 G3 cs3 H3 (s2.trans s3) d3 p
      | ct l => exact fun σ3 G3 cs3 H3 s3 d3 p => w σ3 G3 cs3 H3 (s2.trans s3) d3 p
      | rt r => exact fun v G3 cs3 H3 s3 d3 p => w v G3 cs3 H3 (s2.trans s3) d3 p
      | er x => exact fun σ3 G3 cs3 H3 s3 d3 p => w σ3 G3 cs3 H3 (s2.trans s3) d3 p
    cases k with
    | true => exact iteT (go (ha rfl G2 s2) w hr)
    | false => exact iteF (go (hb rfl G2 s2) w hr)
/-- an if whose first way always leaves, no else -/
theorem b_ifx {c : Expr} {a : List Stmt} {k : Bool} {ma mr : Out ε S L R} (hc : T X c σ G cs k)
    (ha : k = true → ∀ G1, Same G G1 → B X W a σ G1 cs { nx := fun _ _ _ _ => False, lp := Φ.lp, rt := Φ.rt, er := Φ.er } ma)
    (hr : k = false → ∀ G1, Same G G1 → B X W rest σ G1 cs Φ mr) : B X W (.If c a [] pos :: rest) σ G cs Φ (if k = true then ma else mr) :=
  b_cons (ps_if (sT X c) (sSs X a) pss_nil) fun H d E w => hc G H (Same.refl _) d _ fun G2 H2 s2 d2 => by
    cases k with
    | true =>
      have w' : Wish W G Φ E ma := w
      refine iteT (ha rfl G2 s2 H2 d2 _ ?_)
      cases ma with
      | nx s => exact fun σ3 G3 cs3 H3 s3 d3 p => p.elim
      | bk l => exact fun σ3 G3 cs3 H3 s3 d3 p => w' σ3 G3 cs3 H3 (s2.trans s3) d3 p
      | ct l => exact fun σ3 G3 cs3 H3 s3 d3 p => w' σ3 G3 cs3 H3 (s2.trans s3) d3 p
      | rt r => exact fun v G3 cs3 H3 s3 d3 p => w' v G3 cs3 H3 (s2.trans s3) d3 p
      | er x => exact fun σ3 G3 cs3 H3 s3 d3 p => w' σ3 G3 cs3 H3 (s2.trans s3) d3 p
    | false => exact iteF (hr rfl G2 s2 H2 d2 E (Wish.up (show Wish W G Φ E mr from w) s2))
/-- an if at the block's end, its two ways -/
theorem b_ifl {c : Expr} {a b : List Stmt} {k : Bool} {ma mb : Out ε S L R} (hc : T X c σ G cs k)
    (ha : k = true → ∀ G1, Same G G1 → B X W a σ G1 cs Φ ma) (hb : k = false → ∀ G1, Same G G1 → B X W b σ G1 cs Φ mb) : B X W [.If c a b pos] σ G cs Φ (if k = true then ma else mb) := fun H d E w =>
  uSs (pss_one (ps_if (sT X c) (sSs X a) (sSs X b))) (hc G H (Same.refl _) d _ fun G2 H2 s2 d2 => by
    cases k with
    | true => exact iteT (ha rfl G2 s2 H2 d2 E (Wish.up (show Wish W G Φ E ma from w) s2))
    | false => exact iteF (hb rfl G2 s2 H2 d2 E (Wish.up (show Wish W G Φ E mb from w) s2)))
theorem B.up {G' : Hp} (h : B X W rest σ G' cs Φ m) (s : ∀ H, Desc G cs H → Same G G' ∧ Desc G' cs H) : B X W rest σ G cs Φ m := fun H d E w => h H (s H d).2 E (w.up (s H d).1)
/-- a value's being is dropped -/
theorem b_expr (he : D X e σ G cs P) (k : ∀ v G1, Same G G1 → P G1 v → B X W rest σ G1 cs Φ m) (hs : swapsWith e none pos.line X.env = pure false := by rfl) : B X W (.Expr e pos :: rest) σ G cs Φ m :=
  b_cons (ps_expr (sE X e) hs) fun H d E w => he G H (Same.refl _) d _ fun G2 H2 v s2 d2 hv => k v G2 s2 hv H2 d2 E (w.up s2)

/-! ### loops -/
structure WalkD {α : Type} (J : It) (xs : List α) (G : Hp) (C : Cells → Prop) (P : α → Hp → V → Prop) : Prop where
  goes : ∀ i G1 H cs, i < xs.length → Same G G1 → C cs → Desc G1 cs H → J.go i H
  stops : ∀ G1 H cs, Same G G1 → C cs → Desc G1 cs H → J.stop xs.length H
  yields : ∀ i x G1 H cs v H', xs[i]? = some x → Same G G1 → C cs → Desc G1 cs H → J.yld i H v H' → ∃ G', Same G1 G' ∧ Desc G' cs H' ∧ P x G' v
/-- what is walked -/
def I {α : Type} (X : Cx) (tg iter : Expr) (σ : L2.St) (G : Hp) (cs : Cells) (C : Cells → Prop) (xs : List α) (P : α → Hp → V → Prop) : Prop :=
  ∃ wi, PI X tg iter wi ∧ ∀ G1 H, Same G G1 → Desc G1 cs H → ∀ Rr : It → Hp → Prop, (∀ J G2 H2, Same G1 G2 → Desc G2 cs H2 → WalkD J xs G2 C P → Rr J H2) → wi σ H Rr
/-- a target -/
def Tg {α : Type} (X : Cx) (tg : Expr) (P : α → Hp → V → Prop) (Sx : α → Hp → L2.St → L2.St → Prop) : Prop :=
  ∃ g, PG X tg g ∧ ∀ x v G cs H σ, P x G v → Desc G cs H → ∀ Q : L2.St → Hp → Prop, (∀ σ', Sx x G σ σ' → Q σ' H) → g v σ H Q
/-- the states that a loop comes through -/
inductive Reach {α : Type} (f : S → α → Out ε S S R) (s0 : S) : List α → S → Prop where
  | nil : Reach f s0 [] s0
  | nx {pre : List α} {s s' : S} {x : α} : Reach f s0 pre s → f s x = .nx s' → Reach f s0 (pre ++ [x]) s'
  | ct {pre : List α} {s s' : S} {x : α} : Reach f s0 pre s → f s x = .ct s' → Reach f s0 (pre ++ [x]) s'
theorem forL_reach {L : Type} {α : Type} {f : S → α → Out ε S S R} {s0 : S} {pre : List α} {s : S} (h : Reach f s0 pre s) : ∀ (post : List α), (forL f s0 (pre ++ post) : Out ε S L R) = forL f s post := by
  induction h with
  | nil => intro post; rfl
  | @nx pre s s' x h e ih =>
    intro post
    rw [List.append_assoc, ih]
    show (match f s x with | .nx s' => forL f s' post | .ct s' => forL f s' post | .bk s' => .nx s' | .rt r => .rt r | .er e => .er e : Out ε S L R) = _
    rw [e]
  | @ct pre s s' x h e ih =>
    intro post
    rw [List.append_assoc, ih]
    show (match f s x with | .nx s' => forL f s' post | .ct s' => forL f s' post | .bk s' => .nx s' | .rt r => .rt r | .er e => .er e : Out ε S L R) = _
    rw [e]
theorem forL_cons {L : Type} {α : Type} {f : S → α → Out ε S S R} {s : S} {x : α} {xs : List α} : (forL f s (x :: xs) : Out ε S L R) = (match f s x with | .nx s' => forL f s' xs | .ct s' => forL f s' xs | .bk s' => .nx s' | .rt r => .rt r | .er e => .er e) := rfl
/-- a for: N tells the slots, the frozen part and the cells by the turns done and the state; f is a turn -/
theorem b_for {α S1 : Type} {tg iter : Expr} {C : Cells → Prop} {xs : List α} {Pi : α → Hp → V → Prop} {Sx : α → Hp → L2.St → L2.St → Prop} {s0 : S1} {f : S1 → α → Out ε S1 S1 R} {g : S1 → Out ε S L R}
    (N : Nat → S1 → L2.St → Hp → Cells → Prop) (hi : I X tg iter σ G cs C xs Pi) (ht : Tg X tg Pi Sx) (hcalm : X.calm = true) (hp : PassesOwn (model X.prog X.w) X.A X.env X.xe)
    (h0 : ∀ G1, Same G G1 → N 0 s0 σ G1 cs) (hC : ∀ n s σ1 G1 cs1, N n s σ1 G1 cs1 → C cs1)
    (hb : ∀ pre x post s σ1 G0 G1 cs1 σ2, xs = pre ++ x :: post → Reach f s0 pre s → Same G G0 → N pre.length s σ1 G0 cs1 → Same G0 G1 → Sx x G1 σ1 σ2 →
      B X W body σ2 G1 cs1 { nx := N (pre.length + 1), lp := N (pre.length + 1), rt := Φ.rt, er := Φ.er } (f s x))
    (hr : ∀ n s σ1 G1 cs1, n ≤ xs.length → Same G G1 → N n s σ1 G1 cs1 → (forL f s0 xs : Out ε S1 L R) = .nx s → B X W rest σ1 G1 cs1 Φ (g s))
    (hs : ∀ x, foldedSetIterable iter X.env x = pure x := by intro _; rfl) : B X W (.For tg iter body [] pos :: rest) σ G cs Φ ((forL f s0 xs).bind g) := by
  obtain ⟨wi, hpi, hw⟩ := hi
  obtain ⟨gt, hpg, hgt⟩ := ht
  refine b_cons (ps_for hp hcalm hpi hpg (sSs X body) hs) fun H d E w => ?_
  refine hw G H (Same.refl _) d _ fun J G2 H2 s2 d2 wk => ?_
  let Pv : Nat → L2.St → Hp → Prop := fun i σ1 H1 => ∃ s G1 cs1, i ≤ xs.length ∧ Reach f s0 (xs.take i) s ∧ Same G2 G1 ∧ Desc G1 cs1 H1 ∧ N i s σ1 G1 cs1
  refine ⟨fun i n σ1 H1 => n = xs.length - i ∧ Pv i σ1 H1, ⟨xs.length, rfl, s0, G2, cs, Nat.zero_le _, .nil, Same.refl _, d2, h0 G2 s2⟩, ?_⟩
  rintro i n σ1 H1 ⟨rfl, s, G1, cs1, hi, hre, s1, d1, hN⟩
  have w0 : Wish W G Φ E ((forL f s (xs.drop i)).bind g) := by
    have q := forL_reach (L := L) hre (xs.drop i)
    rw [List.take_append_drop] at q
    rw [← q]
    exact w
  by_cases hlt : i < xs.length
  · refine .inr ⟨wk.goes i G1 H1 cs1 hlt s1 (hC _ _ _ _ _ hN) d1, Pv (i + 1), fun σ' H' p' => ⟨_, by omega, rfl, p'⟩, fun v H3 y => ?_⟩
    have hx : xs[i]? = some xs[i] := by simp [hlt]
    obtain ⟨G3, s3, d3, pv⟩ := wk.yields i xs[i] G1 H1 cs1 v H3 hx s1 (hC _ _ _ _ _ hN) d1 y
    refine hgt xs[i] v G3 cs1 H3 σ1 pv d3 _ fun σ' hS => ?_
    have ed : xs = xs.take i ++ xs[i] :: xs.drop (i + 1) := by
      rw [← List.drop_eq_getElem_cons hlt, List.take_append_drop]
    have et : xs.take (i + 1) = xs.take i ++ [xs[i]] := by simp
    have el : (xs.take i).length = i := by rw [List.length_take]; omega
    have hb' := hb (xs.take i) xs[i] (xs.drop (i + 1)) s σ1 G1 G3 cs1 σ' ed hre (s2.trans s1) (by rw [el]; exact hN) s3 hS
    rw [el] at hb'
    refine hb' H3 d3 _ ?_
    have w1 : Wish W G Φ E ((forL f s (xs[i] :: xs.drop (i + 1))).bind g) := by
      rw [List.drop_eq_getElem_cons hlt] at w0
      exact w0
    rw [forL_cons] at w1
    have sG : Same G G3 := (s2.trans s1).trans s3
    cases hm : f s xs[i] with
    | nx s' => exact fun σ4 G4 cs4 H4 s4 d4 p4 => ⟨s', G4, cs4, hlt, by rw [et]; exact .nx hre hm, (s1.trans s3).trans s4, d4, p4⟩
    | ct s' => exact fun σ4 G4 cs4 H4 s4 d4 p4 => ⟨s', G4, cs4, hlt, by rw [et]; exact .ct hre hm, (s1.trans s3).trans s4, d4, p4⟩
    | bk s' =>
      rw [hm] at w1
      refine fun σ4 G4 cs4 H4 s4 d4 p4 => hr (i + 1) s' σ4 G4 cs4 hlt (sG.trans s4) p4 ?_ H4 d4 E (Wish.up (show Wish W G Φ E (g s') from w1) (sG.trans s4))
      rw [ed, forL_reach hre, forL_cons, hm]
    | rt r =>
      rw [hm] at w1
      exact fun v4 G4 cs4 H4 s4 d4 p4 => w1 v4 G4 cs4 H4 (sG.trans s4) d4 p4
    | er k =>
      rw [hm] at w1
      exact fun σ4 G4 cs4 H4 s4 d4 p4 => w1 σ4 G4 cs4 H4 (sG.trans s4) d4 p4
  · have e : i = xs.length := by omega
    subst e
    rw [List.drop_length] at w0
    rw [List.take_length] at hre
    refine .inl ⟨wk.stops G1 H1 cs1 s1 (hC _ _ _ _ _ hN) d1, hr _ s σ1 G1 cs1 (Nat.le_refl _) (s2.trans s1) hN ?_ H1 d1 E (Wish.up (show Wish W G Φ E (g s) from w0) (s2.trans s1))⟩
    have q := forL_reach (L := L) hre ([] : List α)
    rw [List.append_nil] at q
    exact q
/-- a name for a value -/
def letV {α β : Type} (x : α) (f : α → β) : β := f x
theorem b_setV {α : Type} {r : α → Hp → V → Prop} {y : α} {f : α → Out ε S L R} (i : Nat) {x : Str} (hN : X.N.Nodup) (he : D X e σ G cs (r y)) (k : ∀ z, z = y → ∀ v G1, Same G G1 → r z G1 v → B X W rest (σ.set i (some v)) G1 cs Φ (f z)) (hi : X.N[i]? = some x := by rfl) (hx : Loc X.env.scope x := by first | exact Or.inl rfl | exact Or.inr rfl)
    (hs : swapsWith e (some (.Name x p)) pos.line X.env = pure false := by rfl) (hf : X.fn x = true ∨ X.env.scope.names.lookup x = some .local := by first | exact .inl rfl | exact .inr rfl) : B X W (.Assign [.Name x p] e pos :: rest) σ G cs Φ (letV y f) :=
  b_set i hN he (fun v G1 s1 h => k y rfl v G1 s1 h) hi hx hs hf
end
end J

namespace J
open PySem L2
section
variable {X : Cx} {σ : L2.St} {G : Hp} {cs : Cells} {e a b c : Expr} {es : List Expr} {P Pa Pb Pc : Hp → V → Prop} {pos p : Pos} {i j k : Int}

/-! ### whole numbers -/
theorem d_add (ha : D X a σ G cs (rI i)) (hb : D X b σ G cs (rI j)) : D X (.BinOp a .Add b pos) σ G cs (rI (i + j)) := d_bin op_add ha hb fun G1 H x y s d hx hy Q q => ⟨i, j, hx, hy, q G1 H _ (Same.refl _) d rfl⟩
theorem d_sub (ha : D X a σ G cs (rI i)) (hb : D X b σ G cs (rI j)) : D X (.BinOp a .Sub b pos) σ G cs (rI (i - j)) := d_bin op_sub ha hb fun G1 H x y s d hx hy Q q => ⟨i, j, hx, hy, q G1 H _ (Same.refl _) d rfl⟩
theorem d_mul (ha : D X a σ G cs (rI i)) (hb : D X b σ G cs (rI j)) (h : CMul i j) : D X (.BinOp a .Mult b pos) σ G cs (rI (i * j)) := d_bin op_mul ha hb fun G1 H x y s d hx hy Q q => ⟨i, j, hx, hy, h, q G1 H _ (Same.refl _) d rfl⟩
theorem d_mulW (ha : D X a σ G cs (rI i)) (hb : D X b σ G cs (rI j)) (h : CMulW i j) : D X (.BinOp a .Mult b pos) σ G cs (rI (i * j)) := d_bin op_mulW ha hb fun G1 H x y s d hx hy Q q => ⟨i, j, hx, hy, h, q G1 H _ (Same.refl _) d rfl⟩
theorem d_fdiv (ha : D X a σ G cs (rI i)) (hb : D X b σ G cs (rI j)) (h : CDivW i j) : D X (.BinOp a .FloorDiv b pos) σ G cs (rI (i / j)) := d_bin op_fdivW ha hb fun G1 H x y s d hx hy Q q => ⟨i, j, hx, hy, h, q G1 H _ (Same.refl _) d rfl⟩
theorem d_mod (ha : D X a σ G cs (rI i)) (hb : D X b σ G cs (rI j)) (h : 0 < j) : D X (.BinOp a .Mod b pos) σ G cs (rI (i % j)) := d_bin op_mod ha hb fun G1 H x y s d hx hy Q q => ⟨i, j, hx, hy, h, q G1 H _ (Same.refl _) d rfl⟩
theorem d_pow (ha : D X a σ G cs (rI i)) (hb : D X b σ G cs (rI j)) (h : CPow i j) {z : Int} (hz : i ^ j.toNat = z) : D X (.BinOp a .Pow b pos) σ G cs (rI z) := d_bin op_pow ha hb fun G1 H x y s d hx hy Q q => ⟨i, j, hx, hy, h, q G1 H _ (Same.refl _) d (by subst hz; rfl)⟩
theorem d_neg (ha : D X a σ G cs (rI i)) : D X (.UnaryOp .USub a pos) σ G cs (rI (-i)) := d_un un_neg ha fun G1 H x s d hx Q q => ⟨i, hx, q G1 H _ (Same.refl _) d rfl⟩
theorem divW {i j : Int} (h : 0 < j) (hb : j.natAbs < 2 ^ 8999) : CDivW i j := wide_div (b := 8999) h hb (by decide) (by decide)
/-! what the operators' readings ask, by the operands -/
section
variable {G1 H : Hp} {x y : V} {Q : VK}
theorem c_lt (hx : rI i G1 x) (hy : rI j G1 y) (q : Q (.bl (decide (i < j))) H) : rI0 (fun i j => .bl (decide (i < j))) x y H Q := ⟨i, j, hx, hy, q⟩
theorem c_le (hx : rI i G1 x) (hy : rI j G1 y) (q : Q (.bl (decide (i ≤ j))) H) : rI0 (fun i j => .bl (decide (i ≤ j))) x y H Q := ⟨i, j, hx, hy, q⟩
theorem c_gt (hx : rI i G1 x) (hy : rI j G1 y) (q : Q (.bl (decide (j < i))) H) : rI0 (fun i j => .bl (decide (j < i))) x y H Q := ⟨i, j, hx, hy, q⟩
theorem c_ge (hx : rI i G1 x) (hy : rI j G1 y) (q : Q (.bl (decide (j ≤ i))) H) : rI0 (fun i j => .bl (decide (j ≤ i))) x y H Q := ⟨i, j, hx, hy, q⟩
theorem c_eqI (hx : rI i G1 x) (hy : rI j G1 y) (q : Q (.bl (decide (i = j))) H) : rEq x y H Q := by
  cases hx; cases hy
  refine ⟨rfl, ?_⟩
  have e : decide (V.int i = V.int j) = decide (i = j) := decide_eq_decide.mpr ⟨fun h => V.int.inj h, fun h => by rw [h]⟩
  rw [e]
  exact q
theorem c_neI (hx : rI i G1 x) (hy : rI j G1 y) (q : Q (.bl (!decide (i = j))) H) : rNe x y H Q := by
  cases hx; cases hy
  refine ⟨rfl, ?_⟩
  have e : decide (V.int i = V.int j) = decide (i = j) := decide_eq_decide.mpr ⟨fun h => V.int.inj h, fun h => by rw [h]⟩
  rw [e]
  exact q
theorem c_eqB {i j : Bool} (hx : rB i G1 x) (hy : rB j G1 y) (q : Q (.bl (decide (i = j))) H) : rEq x y H Q := by
  cases hx; cases hy
  refine ⟨rfl, ?_⟩
  have e : decide (V.bl i = V.bl j) = decide (i = j) := decide_eq_decide.mpr ⟨fun h => V.bl.inj h, fun h => by rw [h]⟩
  rw [e]
  exact q
theorem c_neB {i j : Bool} (hx : rB i G1 x) (hy : rB j G1 y) (q : Q (.bl (!decide (i = j))) H) : rNe x y H Q := by
  cases hx; cases hy
  refine ⟨rfl, ?_⟩
  have e : decide (V.bl i = V.bl j) = decide (i = j) := decide_eq_decide.mpr ⟨fun h => V.bl.inj h, fun h => by rw [h]⟩
  rw [e]
  exact q
theorem str_eq {i j : List Nat} : decide (V.str (SX.S i) = V.str (SX.S j)) = decide (i = j) := decide_eq_decide.mpr ⟨fun h => SX.S_inj (V.str.inj h), fun h => by rw [h]⟩
theorem c_eqS {i j : List Nat} (hx : rS i G1 x) (hy : rS j G1 y) (q : Q (.bl (decide (i = j))) H) : rEq x y H Q := by
  cases hx; cases hy
  refine ⟨rfl, ?_⟩
  rw [str_eq]
  exact q
theorem c_neS {i j : List Nat} (hx : rS i G1 x) (hy : rS j G1 y) (q : Q (.bl (!decide (i = j))) H) : rNe x y H Q := by
  cases hx; cases hy
  refine ⟨rfl, ?_⟩
  rw [str_eq]
  exact q
theorem c_inS {l : List Nat} {n : Nat} (hx : rS [n] G1 x) (hy : rS l G1 y) (q : Q (.bl (decide (n ∈ l))) H) : ∃ (c : Nat) (z : Str), x = .str ⟨#[c]⟩ ∧ y = .str z ∧ Q (.bl (decide (c ∈ z.cps.toList))) H := ⟨n, SX.S l, hx, hy, q⟩
theorem c_ninS {l : List Nat} {n : Nat} (hx : rS [n] G1 x) (hy : rS l G1 y) (q : Q (.bl (!decide (n ∈ l))) H) : ∃ (c : Nat) (z : Str), x = .str ⟨#[c]⟩ ∧ y = .str z ∧ Q (.bl (!decide (c ∈ z.cps.toList))) H := ⟨n, SX.S l, hx, hy, q⟩
end
/-- a value that is never None -/
class NotNon {α : Type} (r : α → Hp → V → Prop) : Prop where
  nn : ∀ {x G v}, r x G v → v ≠ .non
instance : NotNon rI := ⟨fun h z => by cases h; cases z⟩
instance : NotNon rB := ⟨fun h z => by cases h; cases z⟩
instance : NotNon rS := ⟨fun h z => by cases h; cases z⟩
instance (K : PySem.W.Frag) {α : Type} (r : α → Hp → V → Prop) : NotNon (rL K r) := ⟨fun h z => by obtain ⟨_, _, e, _⟩ := h; rw [e] at z; cases z⟩
instance (K : PySem.W.Frag) {α : Type} (r : α → Hp → List V → Prop) : NotNon (rT K r) := ⟨fun h z => by obtain ⟨_, _, e, _⟩ := h; rw [e] at z; cases z⟩
theorem is_non {α : Type} {r : α → Hp → V → Prop} [NotNon r] {o : Option α} {G : Hp} {v : V} (h : rO r o G v) : decide (v = .non) = o.isNone := by
  cases o with
  | none =>
    have e : v = .non := h
    rw [e]
    rfl
  | some x => exact decide_eq_false (NotNon.nn (r := r) (x := x) h)
theorem d_isN {α : Type} {r : α → Hp → V → Prop} [NotNon r] [∀ x, Mono (r x)] {o : Option α} {jj : Nat} {p' : Pos} (ha : D X a σ G cs (rO r o)) : D X (.Compare a [.Is] [.Constant .none jj p'] pos) σ G cs (rB o.isNone) :=
  d_cmp op_isN (nomark _) ha d_non fun G1 H x y s d hx hy Q q => ⟨hy, by rw [is_non hx]; exact q⟩
theorem t_isN {α : Type} {r : α → Hp → V → Prop} [NotNon r] [∀ x, Mono (r x)] {o : Option α} {jj : Nat} {p' : Pos} (ha : D X a σ G cs (rO r o)) : T X (.Compare a [.Is] [.Constant .none jj p'] pos) σ G cs o.isNone :=
  t_cmp op_isN (nomark _) ha d_non fun G1 H x y s d hx hy Q q => ⟨hy, by rw [is_non hx]; exact q⟩
theorem d_notN {α : Type} {r : α → Hp → V → Prop} [NotNon r] [∀ x, Mono (r x)] {o : Option α} {jj : Nat} {p' : Pos} (ha : D X a σ G cs (rO r o)) : D X (.Compare a [.IsNot] [.Constant .none jj p'] pos) σ G cs (rB (!o.isNone)) :=
  d_cmp op_notN (nomark _) ha d_non fun G1 H x y s d hx hy Q q => ⟨hy, by rw [is_non hx]; exact q⟩
theorem t_notN {α : Type} {r : α → Hp → V → Prop} [NotNon r] [∀ x, Mono (r x)] {o : Option α} {jj : Nat} {p' : Pos} (ha : D X a σ G cs (rO r o)) : T X (.Compare a [.IsNot] [.Constant .none jj p'] pos) σ G cs (!o.isNone) :=
  t_cmp op_notN (nomark _) ha d_non fun G1 H x y s d hx hy Q q => ⟨hy, by rw [is_non hx]; exact q⟩
/-- a value that may be None, known to be there -/
theorem d_some {α : Type} {r : α → Hp → V → Prop} {x : α} (h : D X e σ G cs (rO r (some x))) : D X e σ G cs (r x) := h
theorem d_toO {α : Type} {r : α → Hp → V → Prop} {x : α} (h : D X e σ G cs (r x)) : D X e σ G cs (rO r (some x)) := h
theorem d_toN {α : Type} {r : α → Hp → V → Prop} (h : D X e σ G cs (rN ())) : D X e σ G cs (rO r none) := h

/-! ### texts -/
theorem d_cat {l m : List Nat} (ha : D X a σ G cs (rS l)) (hb : D X b σ G cs (rS m)) (h : l.length + m.length ≤ sizeLine) : D X (.BinOp a .Add b pos) σ G cs (rS (l ++ m)) :=
  d_bin op_add_str ha hb fun G1 H x y s d hx hy Q q => ⟨SX.S l, SX.S m, hx, hy, by rw [SX.S_len, SX.S_len]; exact h, by rw [SX.S_cat]; exact q G1 H _ (Same.refl _) d rfl⟩
theorem d_ixS {l : List Nat} {n : Nat} (ha : D X a σ G cs (rS l)) (hb : D X b σ G cs (rI i)) (hl : l.length ≤ sizeLine) (h : atI l i = some n) (hs : PlainIx b := by exact fun _ _ => rfl) : D X (.Subscript a b pos) σ G cs (rS [n]) :=
  d_by (pe_ix ix_str (sE X a) (sE X b) hs) fun G1 H s d Q q => ha G1 H s d _ fun G2 H2 x s2 d2 hx => hb G2 H2 (s.trans s2) d2 _ fun G3 H3 y s3 d3 hy =>
    ⟨SX.S l, i, n, hx, hy, by rw [SX.S_len]; exact hl, h, q G3 H3 _ (s2.trans s3) d3 rfl⟩

/-! ### lists, tuples: read -/
theorem atI_rs {α : Type} {r : α → Hp → V → Prop} {xs : List α} {vs : List V} {x : α} (h : Rs r G xs vs) (hx : atI xs i = some x) : ∃ v, atI vs i = some v ∧ r x G v := by
  unfold atI at hx ⊢
  rw [← h.length]
  cases e : ixN xs.length i with
  | none =>
    rw [e] at hx
    cases hx
  | some k =>
    rw [e] at hx
    exact Rs.get h hx
theorem atI_lt {α : Type} {xs : List α} (h0 : 0 ≤ i) (h1 : i < (xs.length : Int)) [Inhabited α] : atI xs i = some (xs.getD i.toNat default) := by
  obtain ⟨n, rfl⟩ := Int.eq_ofNat_of_zero_le h0
  have hn : n < xs.length := by omega
  exact atI_nat (by simp [hn])
theorem atI_neg {α : Type} {xs : List α} {n : Nat} (h0 : 0 < n) (h1 : n ≤ xs.length) [Inhabited α] : atI xs (-(n : Int)) = some (xs.getD (xs.length - n) default) := by
  have hl : xs.length - n < xs.length := by omega
  have e : ixN xs.length (-(n : Int)) = some (xs.length - n) := by
    unfold ixN
    rw [if_neg (by omega), if_pos (by omega)]
    exact congrArg some (by omega)
  unfold atI
  rw [e]
  simp [hl]
theorem d_ixL {α : Type} {r : α → Hp → V → Prop} [∀ x, Mono (r x)] {xs : List α} {x : α} (ha : D X a σ G cs (rdL X.K cs r xs)) (hb : D X b σ G cs (rI i)) (hx : atI xs i = some x) (hs : PlainIx b := by exact fun _ _ => rfl) :
    D X (.Subscript a b pos) σ G cs (r x) :=
  d_by (pe_ix ix_list (sE X a) (sE X b) hs) fun G1 H s d Q q => ha G1 H s d _ fun G2 H2 u s2 d2 hu => hb G2 H2 (s.trans s2) d2 _ fun G3 H3 y s3 d3 hy => by
    obtain ⟨l, vs, e, hl, hr⟩ := (Mono.mono s3 hu).sq d3
    obtain ⟨v, hv, hp⟩ := atI_rs hr hx
    exact ⟨l, vs, i, v, e, hy, hl, hv, q G3 H3 v (s2.trans s3) d3 hp⟩
/-- the n-th place of a tuple -/
def At (R : Hp → List V → Prop) (n : Nat) (P : Hp → V → Prop) : Prop := ∀ G vs, R G vs → ∃ v, vs[n]? = some v ∧ P G v
theorem at_1 {α : Type} {r : α → Hp → V → Prop} {x : α} : At (c0 r x) 0 (r x) := fun G vs ⟨v, e, h⟩ => ⟨v, by rw [e]; rfl, h⟩
theorem at_z {α β : Type} {r : α → Hp → V → Prop} {r' : β → Hp → List V → Prop} {x : α × β} : At (cc r r' x) 0 (r x.1) := fun G vs ⟨v, ws, e, h, _⟩ => ⟨v, by rw [e]; rfl, h⟩
theorem at_s {α β : Type} {r : α → Hp → V → Prop} {r' : β → Hp → List V → Prop} {x : α × β} {n : Nat} (h : At (r' x.2) n P) : At (cc r r' x) (n + 1) P := fun G vs ⟨v, ws, e, _, h'⟩ => by
  obtain ⟨u, h1, h2⟩ := h G ws h'
  exact ⟨u, by rw [e]; exact h1, h2⟩
theorem d_ixT {α : Type} {r : α → Hp → List V → Prop} [∀ x, MonoA (r x)] {x : α} {n : Nat} (ha : D X a σ G cs (rT X.K r x)) (hb : D X b σ G cs (rI (n : Int))) (hat : At (r x) n P) (hs : PlainIx b := by exact fun _ _ => rfl) :
    D X (.Subscript a b pos) σ G cs P :=
  d_by (pe_ix ix_tup (sE X a) (sE X b) hs) fun G1 H s d Q q => ha G1 H s d _ fun G2 H2 u s2 d2 hu => hb G2 H2 (s.trans s2) d2 _ fun G3 H3 y s3 d3 hy => by
    obtain ⟨l, vs, e, hl, hr⟩ := Mono.mono s3 hu
    obtain ⟨v, hv, hp⟩ := hat G3 vs hr
    exact ⟨l, vs, (n : Int), v, e, hy, seqT d3.same hl, atI_nat hv, q G3 H3 v (s2.trans s3) d3 hp⟩
theorem d_lenL {α : Type} {r : α → Hp → V → Prop} {xs : List α} {x : Str} [∀ x, Mono (r x)] (hm : X.mg x = none) (ha : D X a σ G cs (rdL X.K cs r xs)) (hg : Gl X x := by rfl) (hv : bootBuiltins x = some (.builtin "len") := by first | exact PySem.boot_len | decide +kernel) (hn : x ≠ "__name__" := by decide) (hd : (x == ("__debug__" : Str)) = false := by decide)
    (he : starEach [a] X.env = (false, eval a X.env) :: starEach [] X.env := by rfl) (hpl : (backTo pos (starEach [] X.env)).any (·.1) = false := by rfl) : D X (.Call (.Name x p) [a] [] pos) σ G cs (rI (xs.length : Int)) :=
  d_callB call_len hm (a_cons ha a_nil he) (fun G1 H vs s d hvs Q q => by
    obtain ⟨v, ws, e1, h1, h2⟩ := hvs
    cases h2
    obtain ⟨l, us, e, hl, hr⟩ := h1.sq d
    subst e
    exact ⟨_, xs.length, e1, .inl ⟨us, hl, hr.length⟩, q G1 H _ (Same.refl _) d rfl⟩) hg hv hn hd he hpl
theorem d_lenS {l : List Nat} {x : Str} (hm : X.mg x = none) (ha : D X a σ G cs (rS l)) (hl : l.length ≤ sizeLine) (hg : Gl X x := by rfl) (hv : bootBuiltins x = some (.builtin "len") := by first | exact PySem.boot_len | decide +kernel) (hn : x ≠ "__name__" := by decide) (hd : (x == ("__debug__" : Str)) = false := by decide)
    (he : starEach [a] X.env = (false, eval a X.env) :: starEach [] X.env := by rfl) (hpl : (backTo pos (starEach [] X.env)).any (·.1) = false := by rfl) : D X (.Call (.Name x p) [a] [] pos) σ G cs (rI (l.length : Int)) :=
  d_callB call_len hm (a_cons ha a_nil he) (fun G1 H vs s d hvs Q q => by
    obtain ⟨v, ws, e1, h1, h2⟩ := hvs
    cases h2
    cases h1
    exact ⟨_, l.length, e1, ⟨by rw [SX.S_len]; exact hl, (SX.S_len l).symm⟩, q G1 H _ (Same.refl _) d rfl⟩) hg hv hn hd he hpl
theorem d_int1 {x : Str} (hm : X.mg x = none) (ha : D X a σ G cs (rI i)) (hg : Gl X x := by rfl) (hv : bootBuiltins x = some (.type "int") := by decide +kernel) (hn : x ≠ "__name__" := by decide) (hd : (x == ("__debug__" : Str)) = false := by decide)
    (he : starEach [a] X.env = (false, eval a X.env) :: starEach [] X.env := by rfl) (hpl : (backTo pos (starEach [] X.env)).any (·.1) = false := by rfl) : D X (.Call (.Name x p) [a] [] pos) σ G cs (rI i) :=
  d_callTy call_int1 hm (a_cons ha a_nil he) (fun G1 H vs s d hvs Q q => by
    obtain ⟨v, ws, e1, h1, h2⟩ := hvs
    cases h2
    cases h1
    exact .inl ⟨i, e1, q G1 H _ (Same.refl _) d rfl⟩) hg hv hn hd he hpl
theorem d_abs {x : Str} (hm : X.mg x = none) (ha : D X a σ G cs (rI i)) (hg : Gl X x := by rfl) (hv : bootBuiltins x = some (.builtin "abs") := by decide +kernel) (hn : x ≠ "__name__" := by decide) (hd : (x == ("__debug__" : Str)) = false := by decide)
    (he : starEach [a] X.env = (false, eval a X.env) :: starEach [] X.env := by rfl) (hpl : (backTo pos (starEach [] X.env)).any (·.1) = false := by rfl) : D X (.Call (.Name x p) [a] [] pos) σ G cs (rI (if i < 0 then -i else i)) :=
  d_callB call_abs hm (a_cons ha a_nil he) (fun G1 H vs s d hvs Q q => by
    obtain ⟨v, ws, e1, h1, h2⟩ := hvs
    cases h2
    cases h1
    exact ⟨i, e1, q G1 H _ (Same.refl _) d rfl⟩) hg hv hn hd he hpl
theorem d_max2 {x : Str} (hc : X.calm = true) (hm : X.mg x = none) (ha : D X a σ G cs (rI i)) (hb : D X b σ G cs (rI j)) (hg : Gl X x := by rfl) (hv : bootBuiltins x = some (.builtin "max") := by decide +kernel) (hn : x ≠ "__name__" := by decide) (hd : (x == ("__debug__" : Str)) = false := by decide)
    (he : starEach [a, b] X.env = (false, eval a X.env) :: starEach [b] X.env := by rfl) (he2 : starEach [b] X.env = (false, eval b X.env) :: starEach [] X.env := by rfl) (hpl : (backTo pos (starEach [b] X.env)).any (·.1) = false := by rfl) : D X (.Call (.Name x p) [a, b] [] pos) σ G cs (rI (if j > i then j else i)) :=
  d_callB (call_max2 hc) hm (a_cons ha (a_cons hb a_nil he2) he) (fun G1 H vs s d hvs Q q => by
    obtain ⟨v, ws, e1, h1, v2, ws2, e2, h2, h3⟩ := hvs
    cases h3
    cases h1
    cases h2
    subst e2
    exact ⟨i, j, e1, q G1 H _ (Same.refl _) d rfl⟩) hg hv hn hd he hpl
theorem d_min2 {x : Str} (hc : X.calm = true) (hm : X.mg x = none) (ha : D X a σ G cs (rI i)) (hb : D X b σ G cs (rI j)) (hg : Gl X x := by rfl) (hv : bootBuiltins x = some (.builtin "min") := by decide +kernel) (hn : x ≠ "__name__" := by decide) (hd : (x == ("__debug__" : Str)) = false := by decide)
    (he : starEach [a, b] X.env = (false, eval a X.env) :: starEach [b] X.env := by rfl) (he2 : starEach [b] X.env = (false, eval b X.env) :: starEach [] X.env := by rfl) (hpl : (backTo pos (starEach [b] X.env)).any (·.1) = false := by rfl) : D X (.Call (.Name x p) [a, b] [] pos) σ G cs (rI (if j < i then j else i)) :=
  d_callB (call_min2 hc) hm (a_cons ha (a_cons hb a_nil he2) he) (fun G1 H vs s d hvs Q q => by
    obtain ⟨v, ws, e1, h1, v2, ws2, e2, h2, h3⟩ := hvs
    cases h3
    cases h1
    cases h2
    subst e2
    exact ⟨i, j, e1, q G1 H _ (Same.refl _) d rfl⟩) hg hv hn hd he hpl
theorem rs_int {xs : List Int} {vs : List V} (h : Rs rI G xs vs) : vs = xs.map V.int := h.map fun _ _ e => e
theorem rs_bl {xs : List Bool} {vs : List V} (h : Rs rB G xs vs) : vs = xs.map V.bl := h.map fun _ _ e => e
theorem d_sum {xs : List Int} {x : Str} (hc : X.calm = true) (hm : X.mg x = none) (ha : D X a σ G cs (rdL X.K cs rI xs)) (hg : Gl X x := by rfl) (hv : bootBuiltins x = some (.builtin "sum") := by decide +kernel) (hn : x ≠ "__name__" := by decide) (hd : (x == ("__debug__" : Str)) = false := by decide)
    (he : starEach [a] X.env = (false, eval a X.env) :: starEach [] X.env := by rfl) (hpl : (backTo pos (starEach [] X.env)).any (·.1) = false := by rfl) : D X (.Call (.Name x p) [a] [] pos) σ G cs (rI xs.sum) :=
  d_callB (cr_sum hc) hm (a_cons ha a_nil he) (fun G1 H vs s d hvs Q q => by
    obtain ⟨v, ws, e1, h1, h2⟩ := hvs
    cases h2
    obtain ⟨l, us, e, hl, hr⟩ := h1.sq d
    subst e
    have hu := rs_int hr
    subst hu
    exact ⟨l, xs, e1, hl, q G1 H _ (Same.refl _) d rfl⟩) hg hv hn hd he hpl
/-- the greatest, the least of a list -/
def maxL (xs : List Int) : Int := xs.foldl max (xs.headD 0)
def minL (xs : List Int) : Int := xs.foldl min (xs.headD 0)
theorem foldl_max : ∀ (xs : List Int) (z : Int), (xs.foldl max z = z ∨ xs.foldl max z ∈ xs) ∧ z ≤ xs.foldl max z ∧ ∀ y ∈ xs, y ≤ xs.foldl max z
  | [], z => ⟨.inl rfl, Int.le_refl _, fun _ h => nomatch h⟩
  | x :: xs, z => by
    obtain ⟨h1, h2, h3⟩ := foldl_max xs (max z x)
    show ((x :: xs).foldl max z = z ∨ (x :: xs).foldl max z ∈ x :: xs) ∧ z ≤ (x :: xs).foldl max z ∧ ∀ y ∈ x :: xs, y ≤ (x :: xs).foldl max z
    rw [List.foldl_cons]
    refine ⟨?_, by omega, fun y hy => ?_⟩
    · rcases h1 with h1 | h1
      · rw [h1]
        by_cases c : z ≤ x
        · right
          rw [Int.max_eq_right c]
          exact List.mem_cons_self
        · left
          exact Int.max_eq_left (by omega)
      · right
        exact List.mem_cons_of_mem _ h1
    · rcases List.mem_cons.mp hy with e | hy
      · subst e
        omega
      · exact h3 y hy
theorem foldl_min : ∀ (xs : List Int) (z : Int), (xs.foldl min z = z ∨ xs.foldl min z ∈ xs) ∧ xs.foldl min z ≤ z ∧ ∀ y ∈ xs, xs.foldl min z ≤ y
  | [], z => ⟨.inl rfl, Int.le_refl _, fun _ h => nomatch h⟩
  | x :: xs, z => by
    obtain ⟨h1, h2, h3⟩ := foldl_min xs (min z x)
    show ((x :: xs).foldl min z = z ∨ (x :: xs).foldl min z ∈ x :: xs) ∧ (x :: xs).foldl min z ≤ z ∧ ∀ y ∈ x :: xs, (x :: xs).foldl min z ≤ y
    rw [List.foldl_cons]
    refine ⟨?_, by omega, fun y hy => ?_⟩
    · rcases h1 with h1 | h1
      · rw [h1]
        by_cases c : z ≤ x
        · left
          exact Int.min_eq_left c
        · right
          rw [Int.min_eq_right (by omega)]
          exact List.mem_cons_self
      · right
        exact List.mem_cons_of_mem _ h1
    · rcases List.mem_cons.mp hy with e | hy
      · subst e
        omega
      · exact h3 y hy
theorem maxL_is {xs : List Int} (h : 0 < xs.length) : maxL xs ∈ xs ∧ ∀ y ∈ xs, y ≤ maxL xs := by
  cases xs with
  | nil => exact absurd h (Nat.lt_irrefl _)
  | cons x xs =>
    obtain ⟨h1, h2, h3⟩ := foldl_max (x :: xs) x
    refine ⟨?_, h3⟩
    rcases h1 with h1 | h1
    · show (x :: xs).foldl max x ∈ x :: xs
      rw [h1]
      exact List.mem_cons_self
    · exact h1
theorem minL_is {xs : List Int} (h : 0 < xs.length) : minL xs ∈ xs ∧ ∀ y ∈ xs, minL xs ≤ y := by
  cases xs with
  | nil => exact absurd h (Nat.lt_irrefl _)
  | cons x xs =>
    obtain ⟨h1, h2, h3⟩ := foldl_min (x :: xs) x
    refine ⟨?_, h3⟩
    rcases h1 with h1 | h1
    · show (x :: xs).foldl min x ∈ x :: xs
      rw [h1]
      exact List.mem_cons_self
    · exact h1
theorem d_maxL {xs : List Int} {x : Str} (hc : X.calm = true) (hm : X.mg x = none) (ha : D X a σ G cs (rdL X.K cs rI xs)) (h0 : 0 < xs.length) (hg : Gl X x := by rfl) (hv : bootBuiltins x = some (.builtin "max") := by decide +kernel) (hn : x ≠ "__name__" := by decide) (hd : (x == ("__debug__" : Str)) = false := by decide)
    (he : starEach [a] X.env = (false, eval a X.env) :: starEach [] X.env := by rfl) (hpl : (backTo pos (starEach [] X.env)).any (·.1) = false := by rfl) : D X (.Call (.Name x p) [a] [] pos) σ G cs (rI (maxL xs)) :=
  d_callB (cr_max hc) hm (a_cons ha a_nil he) (fun G1 H vs s d hvs Q q => by
    obtain ⟨v, ws, e1, h1, h2⟩ := hvs
    cases h2
    obtain ⟨l, us, e, hl, hr⟩ := h1.sq d
    subst e
    have hu := rs_int hr
    subst hu
    refine ⟨l, xs, e1, hl, h0, fun m hm hle => q G1 H _ (Same.refl _) d ?_⟩
    obtain ⟨k1, k2⟩ := maxL_is h0
    have e3 : m = maxL xs := Int.le_antisymm (k2 m hm) (hle _ k1)
    rw [e3]
    rfl) hg hv hn hd he hpl
theorem d_minL {xs : List Int} {x : Str} (hc : X.calm = true) (hm : X.mg x = none) (ha : D X a σ G cs (rdL X.K cs rI xs)) (h0 : 0 < xs.length) (hg : Gl X x := by rfl) (hv : bootBuiltins x = some (.builtin "min") := by decide +kernel) (hn : x ≠ "__name__" := by decide) (hd : (x == ("__debug__" : Str)) = false := by decide)
    (he : starEach [a] X.env = (false, eval a X.env) :: starEach [] X.env := by rfl) (hpl : (backTo pos (starEach [] X.env)).any (·.1) = false := by rfl) : D X (.Call (.Name x p) [a] [] pos) σ G cs (rI (minL xs)) :=
  d_callB (cr_min hc) hm (a_cons ha a_nil he) (fun G1 H vs s d hvs Q q => by
    obtain ⟨v, ws, e1, h1, h2⟩ := hvs
    cases h2
    obtain ⟨l, us, e, hl, hr⟩ := h1.sq d
    subst e
    have hu := rs_int hr
    subst hu
    refine ⟨l, xs, e1, hl, h0, fun m hm hle => q G1 H _ (Same.refl _) d ?_⟩
    obtain ⟨k1, k2⟩ := minL_is h0
    have e3 : m = minL xs := Int.le_antisymm (hle _ k1) (k2 m hm)
    rw [e3]
    rfl) hg hv hn hd he hpl

/-! ### made: tuples, lists -/
/-- the arguments as a tuple's places; n of them -/
def Tp (n : Nat) (Ps R : Hp → List V → Prop) : Prop := ∀ G vs, Ps G vs → R G vs ∧ vs.length = n
theorem tp_1 {α : Type} {r : α → Hp → V → Prop} {x : α} : Tp 1 (aC (r x) aN) (c0 r x) := fun G vs ⟨v, ws, e, h, h2⟩ => by
  cases h2
  exact ⟨⟨v, e, h⟩, by rw [e]; rfl⟩
theorem tp_c {α β : Type} {r : α → Hp → V → Prop} {r' : β → Hp → List V → Prop} {x : α} {y : β} {n : Nat} {Ps : Hp → List V → Prop} (h : Tp n Ps (r' y)) : Tp (n + 1) (aC (r x) Ps) (cc r r' (x, y)) := fun G vs ⟨v, ws, e, h1, h2⟩ => by
  obtain ⟨k1, k2⟩ := h G ws h2
  exact ⟨⟨v, ws, e, h1, k1⟩, by rw [e, List.length_cons, k2]⟩
theorem sl_small {n : Nat} (h : n ≤ 16777216) : n ≤ sizeLine := by rw [sizeLine_eq]; exact h
theorem d_tup {α : Type} {r : α → Hp → List V → Prop} {x : α} {Ps : Hp → List V → Prop} {n kk : Nat} [∀ x, MonoA (r x)] (h : A X es σ G cs Ps) (ht : Tp n Ps (r x)) (hn : n ≤ 16777216 := by decide) : D X (.Tuple es kk pos) σ G cs (rT X.K r x) :=
  d_by (pe_tup (sA X es)) fun G1 H s d Q q => h G1 H s d _ fun G2 H2 vs s2 d2 hvs => by
    obtain ⟨k1, k2⟩ := ht G2 vs hvs
    refine ⟨by rw [k2]; exact sl_small hn, fun l hl => ?_⟩
    have sf : Same G2 (upd G2 l (.tup vs)) := Same.fresh d2.same hl _
    exact q _ _ _ (s2.trans sf) (d2.new hl _) ⟨l, vs, rfl, SqT.of upd_same, MonoA.mono sf k1⟩
/-- the arguments as a list's items -/
def Ls {α : Type} (r : α → Hp → V → Prop) (Ps : Hp → List V → Prop) (xs : List α) : Prop := ∀ G vs, Ps G vs → Rs r G xs vs
theorem ls_n {α : Type} {r : α → Hp → V → Prop} : Ls r aN [] := fun G vs h => by cases h; exact .nil
theorem ls_c {α : Type} {r : α → Hp → V → Prop} {x : α} {xs : List α} {Ps : Hp → List V → Prop} (h : Ls r Ps xs) : Ls r (aC (r x) Ps) (x :: xs) := fun G vs ⟨v, ws, e, h1, h2⟩ => by
  rw [e]
  exact .cons h1 (h G ws h2)
/-- a new list, not yet frozen -/
def N (X : Cx) (e : Expr) (σ : L2.St) (G : Hp) (cs : Cells) {α : Type} (r : α → Hp → V → Prop) (xs : List α) : Prop :=
  ∀ G1 H, Same G G1 → Desc G1 cs H → ∀ Q : VK, (∀ G2 H2 l vs, Same G1 G2 → Desc G2 ((l, .lst vs) :: cs) H2 → Rs r G2 xs vs → Q (.ref l) H2) → wE X e σ H Q
theorem d_new {α : Type} {r : α → Hp → V → Prop} [∀ x, Mono (r x)] {xs : List α} (h : N X e σ G cs r xs) : D X e σ G cs (rL X.K r xs) := fun G1 H s d Q q =>
  h G1 H s d Q fun G2 H2 l vs s2 d2 hr => by
    obtain ⟨f1, f2⟩ := d2.freeze
    exact q _ _ _ (s2.trans f1) f2 ⟨l, vs, rfl, SqL.of upd_same, hr.mono f1⟩
theorem n_lst {α : Type} {r : α → Hp → V → Prop} {xs : List α} {Ps : Hp → List V → Prop} (h : A X es σ G cs Ps) (hl : Ls r Ps xs) (hn : xs.length ≤ 16777216 := by decide) : N X (.List es pos) σ G cs r xs := fun G1 H s d Q q =>
  uE (pe_lst (sA X es)) (h G1 H s d _ fun G2 H2 vs s2 d2 hvs => by
    have hr := hl G2 vs hvs
    exact ⟨by rw [← hr.length]; exact sl_small hn, fun l hl => q G2 _ l vs s2 (d2.newCell hl _) hr⟩)
/-- list(xs) of a list -/
theorem n_listL {α : Type} {r : α → Hp → V → Prop} [∀ x, Mono (r x)] {xs : List α} {x : Str} (hm : X.mg x = none) (ha : D X a σ G cs (rdL X.K cs r xs)) (hg : Gl X x := by rfl) (hv : bootBuiltins x = some (.type "list") := by decide +kernel) (hn : x ≠ "__name__" := by decide) (hd : (x == ("__debug__" : Str)) = false := by decide)
    (he : starEach [a] X.env = (false, eval a X.env) :: starEach [] X.env := by rfl) (hpl : (backTo pos (starEach [] X.env)).any (·.1) = false := by rfl) : N X (.Call (.Name x p) [a] [] pos) σ G cs r xs := fun G1 H s d Q q =>
  uE (pe_callTy call_list_of hg hm hv (sA X [a]) (hn := hn) (hdb := hd) (he := he) (hpl := hpl)) (a_cons ha a_nil he G1 H s d _ fun G2 H2 vs s2 d2 hvs => by
    obtain ⟨v, ws, e1, h1, h2⟩ := hvs
    cases h2
    obtain ⟨l, us, e, hl, hr⟩ := h1.sq d2
    subst e
    exact ⟨l, us, e1, .inl hl, fun l' hl' => q G2 _ l' us s2 (d2.newCell hl' _) hr⟩)
end

section
variable {ε S L R : Type} {X : Cx} {W : ε → L2.St → Hp → Prop} {σ : L2.St} {G : Hp} {cs : Cells} {Φ : Po ε S L R} {m : Out ε S L R} {st : Stmt} {rest body : List Stmt} {e o : Expr} {P : Hp → V → Prop} {pos p : Pos}
/-- name = a new list that will change -/
theorem b_setN {α : Type} {r : α → Hp → V → Prop} {xs : List α} (i : Nat) {x : Str} (hN : X.N.Nodup) (he : N X e σ G cs r xs) (k : ∀ l vs G1, Same G G1 → Rs r G1 xs vs → B X W rest (σ.set i (some (.ref l))) G1 ((l, .lst vs) :: cs) Φ m) (hi : X.N[i]? = some x := by rfl) (hx : Loc X.env.scope x := by first | exact Or.inl rfl | exact Or.inr rfl)
    (hs : swapsWith e (some (.Name x p)) pos.line X.env = pure false := by rfl) (hf : X.fn x = true ∨ X.env.scope.names.lookup x = some .local := by first | exact .inl rfl | exact .inr rfl) : B X W (.Assign [.Name x p] e pos :: rest) σ G cs Φ m :=
  b_cons (ps_set hN hi hx (sE X e) hs hf) fun H d E w => he G H (Same.refl _) d _ fun G2 H2 l vs s2 d2 hr => k l vs G2 s2 hr H2 d2 E (w.up s2)
/-- xs.append(e), xs the cell at k -/
theorem b_app (k : Nat) {l : Addr} {vs : List V} {apos cpos : Pos} (hk : cs[k]? = some (l, .lst vs)) (ho : D X o σ G cs (rV (.ref l))) (he : D X e σ G cs P) (hz : vs.length < sizeLine)
    (q : ∀ v G1, Same G G1 → P G1 v → B X W rest σ G1 (cs.set k (l, .lst (vs ++ [v]))) Φ m) (hs : swapsWith (.Call (.Attribute o "append" apos) [e] [] cpos) none pos.line X.env = pure false := by rfl)
    (hbase : attributeBase o "append" X.env (eval o X.env) = eval o X.env := by rfl)
    (hfew : ((backTo cpos (starEach [e] X.env)).all (fun x => !x.1) && (backToKw cpos (keywordEach [] X.env)).all (fun x => x.1.isSome) && decide ([e].length + ([] : List Keyword).length + (if ([] : List Keyword).isEmpty then 0 else 1) < 30)) = true := by rfl)
    (hline : (apos.endLine == cpos.line) = true := by rfl) (hst : starEach [e] X.env = (false, eval e X.env) :: starEach [] X.env := by rfl) (hplain : (backTo cpos (starEach [] X.env)).any (·.1) = false := by rfl) :
    B X W (.Expr (.Call (.Attribute o "append" apos) [e] [] cpos) pos :: rest) σ G cs Φ m :=
  b_cons (ps_expr (pe_bm PySem.F.plainAttrs_list PySem.F.slot_list_append PySem.F.type_list_append mt_append (sE X o) (pa_cons (sE X e) pa_nil hst) hbase hfew hline hst hplain) hs) fun H d E w =>
    ho G H (Same.refl _) d _ fun G2 H2 u s2 d2 hu => by
      have eu : u = .ref l := hu
      subst eu
      refine ⟨.inl ⟨rfl, vs, SqL.of (d2.at_ (List.mem_of_getElem? hk))⟩, he G2 H2 s2 d2 _ fun G3 H3 v s3 d3 hv => ?_⟩
      exact ⟨l, vs, v, rfl, rfl, d3.at_ (List.mem_of_getElem? hk), hz, q v G3 (s2.trans s3) hv _ (d3.write hk _) E (w.up (s2.trans s3))⟩
theorem perm_at {cs : Cells} {k : Nat} {c : Addr × HO} (h : cs[k]? = some c) : cs.Perm (c :: cs.eraseIdx k) := by
  induction cs generalizing k with
  | nil => cases k <;> cases h
  | cons x cs ih =>
    cases k with
    | zero =>
      have e : x = c := Option.some.inj h
      subst e
      exact List.Perm.refl _
    | succ k => exact ((ih (k := k) h).cons x).trans (List.Perm.swap ..)
/-- the cell at k changes no more -/
theorem b_freeze (k : Nat) {l : Addr} {u : HO} (hk : cs[k]? = some (l, u)) (h : Same G (upd G l u) → (upd G l u) l = some u → B X W rest σ (upd G l u) (cs.eraseIdx k) Φ m) : B X W rest σ G cs Φ m := fun H d E w => by
  obtain ⟨f1, f2⟩ := (d.perm (perm_at hk)).freeze
  exact h f1 upd_same H f2 E (w.up f1)
end
end J

namespace J
open PySem L2 PyProof.Rows

/-! ### what is walked -/
/-- lo, lo + 1, .. below hi -/
def rng (lo hi : Int) : List Int := (List.range (hi - lo).toNat).map fun k : Nat => lo + (k : Int)
theorem rng_length (lo hi : Int) : (rng lo hi).length = (hi - lo).toNat := by simp [rng]
theorem rng_get {lo hi : Int} {i : Nat} (h : i < (hi - lo).toNat) : (rng lo hi)[i]? = some (lo + (i : Int)) := by simp [rng, h]
theorem rng_mem {lo hi x : Int} : x ∈ rng lo hi ↔ lo ≤ x ∧ x < hi := by
  unfold rng
  rw [List.mem_map]
  constructor
  · rintro ⟨k, hk, rfl⟩
    have := List.mem_range.mp hk
    omega
  · rintro ⟨h1, h2⟩
    exact ⟨(x - lo).toNat, List.mem_range.mpr (by omega), by omega⟩
/-- the items with their places -/
def enumL {α : Type} (xs : List α) : List (Int × α) := xs.zipIdx.map fun p => ((p.2 : Int), p.1)
theorem enumL_length {α : Type} (xs : List α) : (enumL xs).length = xs.length := by simp [enumL]
theorem enumL_get {α : Type} {xs : List α} {i : Nat} {x : α} (h : xs[i]? = some x) : (enumL xs)[i]? = some ((i : Int), x) := by simp [enumL, h]
theorem enumL_getE {α : Type} {xs : List α} {i : Nat} {p : Int × α} (h : (enumL xs)[i]? = some p) : p.1 = (i : Int) ∧ xs[i]? = some p.2 := by
  have hl : i < (enumL xs).length := (List.getElem?_eq_some_iff.mp h).1
  rw [enumL_length] at hl
  have e := enumL_get (xs := xs) (i := i) (x := xs[i]) (by simp [hl])
  rw [h] at e
  cases e
  exact ⟨rfl, by simp [hl]⟩
def rU (K : PySem.W.Frag) {α : Type} (r : α → Hp → V → Prop) (xs : List α) : Hp → V → Prop := fun G v => ∃ a vs, v = .ref a ∧ SqT K G a vs ∧ Rs r G xs vs
instance (K : PySem.W.Frag) {α : Type} (r : α → Hp → V → Prop) [m : ∀ x, Mono (r x)] (xs : List α) : Mono (rU K r xs) :=
  ⟨fun e ⟨a, vs, h1, h2, h3⟩ => ⟨a, vs, h1, seqT e h2, h3.mono e⟩⟩
section
variable {X : Cx} {σ : L2.St} {G : Hp} {cs : Cells} {e a b tg iter : Expr} {es : List Expr} {pos p : Pos} {α : Type} {r : α → Hp → V → Prop} {xs : List α}
theorem wd_list {l : Addr} {vs : List V} {C : Cells → Prop} [m : ∀ x, Mono (r x)] (hr : Rs r G xs vs) (hC : ∀ G1 H cs, Same G G1 → C cs → Desc G1 cs H → SqL X.K H l vs) : WalkD (Itl X.K l) xs G C r :=
  ⟨fun i G1 H cs hi s c d => walk_list.goes i H (by rw [← hr.length]; exact hi) (hC G1 H cs s c d), fun G1 H cs s c d => by
    have q := walk_list.stops H (hC G1 H cs s c d)
    rw [← hr.length] at q
    exact q, fun i x G1 H cs v H' hx s c d y => by
    have hi : i < xs.length := (List.getElem?_eq_some_iff.mp hx).1
    obtain ⟨e, hv⟩ := walk_list.yields i H v H' (by rw [← hr.length]; exact hi) (hC G1 H cs s c d) y
    obtain ⟨x', h1, h2⟩ := hr.getV hv
    rw [hx] at h1
    cases h1
    subst e
    exact ⟨G1, Same.refl _, d, (m x).mono s h2⟩⟩
theorem i_listF [∀ x, Mono (r x)] (h : D X iter σ G cs (rL X.K r xs)) : I X tg iter σ G cs (fun _ => True) xs r :=
  ⟨_, pi_list (sE X iter), fun G1 H s d Rr k => h G1 H s d _ fun G2 H2 v s2 d2 hv => by
    obtain ⟨l, vs, e, hl, hr⟩ := hv
    exact ⟨l, e, ⟨vs, d2.same.seq hl⟩, k _ G2 H2 s2 d2 (wd_list hr fun G3 H3 cs3 s3 _ d3 => d3.same.seq (s3.seq hl))⟩⟩
theorem i_listC {l : Addr} {vs : List V} [∀ x, Mono (r x)] (h : D X iter σ G cs (rV (.ref l))) (hm : (l, .lst vs) ∈ cs) (hr : Rs r G xs vs) : I X tg iter σ G cs (fun cs' => (l, .lst vs) ∈ cs') xs r :=
  ⟨_, pi_list (sE X iter), fun G1 H s d Rr k => h G1 H s d _ fun G2 H2 v s2 d2 hv =>
    ⟨l, hv, ⟨vs, SqL.of (d2.at_ hm)⟩, k _ G2 H2 s2 d2 (wd_list (hr.mono (s.trans s2)) fun G3 H3 cs3 s3 c3 d3 => SqL.of (d3.at_ c3))⟩⟩
theorem i_tupU [m : ∀ x, Mono (r x)] (h : D X iter σ G cs (rU X.K r xs)) : I X tg iter σ G cs (fun _ => True) xs r :=
  ⟨_, pi_tup (sE X iter), fun G1 H s d Rr k => h G1 H s d _ fun G2 H2 v s2 d2 hv => by
    obtain ⟨l, vs, e, hl, hr⟩ := hv
    refine ⟨l, e, ⟨vs, seqT d2.same hl⟩, k _ G2 H2 s2 d2 ⟨fun i G3 H3 cs3 hi s3 _ d3 => walk_tup.goes i H3 (by rw [← hr.length]; exact hi) (seqT d3.same (seqT s3 hl)), fun G3 H3 cs3 s3 _ d3 => ?_, fun i x G3 H3 cs3 v H' hx s3 _ d3 y => ?_⟩⟩
    · have q := walk_tup.stops H3 (seqT d3.same (seqT s3 hl))
      rw [← hr.length] at q
      exact q
    · have hi : i < xs.length := (List.getElem?_eq_some_iff.mp hx).1
      obtain ⟨e, hv⟩ := walk_tup.yields i H3 v H' (by rw [← hr.length]; exact hi) (seqT d3.same (seqT s3 hl)) y
      obtain ⟨x', h1, h2⟩ := hr.getV hv
      rw [hx] at h1
      cases h1
      subst e
      exact ⟨G3, Same.refl _, d3, (m x).mono s3 h2⟩⟩
theorem wd_rng {lo hi : Int} {C : Cells → Prop} : WalkD (Itr lo (hi - lo).toNat) (rng lo hi) G C rI :=
  ⟨fun i G1 H cs h s c d => by
    rw [rng_length] at h
    exact h, fun G1 H cs s c d => by
    show (hi - lo).toNat ≤ (rng lo hi).length
    rw [rng_length]
    exact Nat.le_refl _, fun i x G1 H cs v H' hx s c d y => by
    have h : i < (rng lo hi).length := (List.getElem?_eq_some_iff.mp hx).1
    rw [rng_length] at h
    rw [rng_get h] at hx
    cases hx
    obtain ⟨e1, e2⟩ := y
    subst e1
    exact ⟨G1, Same.refl _, d, e2⟩⟩
theorem i_rng1 {j : Int} (hm : X.mg "range" = none) (ha : D X a σ G cs (rI j)) (h1 : -(2 ^ 62) ≤ j) (h2 : j < 2 ^ 62) (hg : Gl X "range" := by rfl) (hs : starEach [a] X.env = [(false, eval a X.env)] := by rfl) (hst : starEach [a] X.env = (false, eval a X.env) :: starEach [] X.env := by rfl) :
    I X tg (.Call (.Name "range" p) [a] [] pos) σ G cs (fun _ => True) (rng 0 j) rI :=
  ⟨_, pi_range1 hg hm (sA X [a]) hs, fun G1 H s d Rr k => a_cons ha a_nil hst G1 H s d _ fun G2 H2 vs s2 d2 hvs => by
    obtain ⟨v, ws, e1, k1, k2⟩ := hvs
    cases k2
    cases k1
    refine ⟨j, e1, h1, h2, k _ G2 H2 s2 d2 ?_⟩
    have q := wd_rng (G := G2) (lo := 0) (hi := j) (C := fun _ => True)
    rw [Int.sub_zero] at q
    exact q⟩
theorem i_rng2 {i j : Int} (hm : X.mg "range" = none) (ha : D X a σ G cs (rI i)) (hb : D X b σ G cs (rI j)) (h : -(2 ^ 62) ≤ i ∧ i < 2 ^ 62 ∧ -(2 ^ 62) ≤ j ∧ j < 2 ^ 62) (hg : Gl X "range" := by rfl) (hs : starEach [a, b] X.env = [(false, eval a X.env), (false, eval b X.env)] := by rfl) (hs2 : starEach [b] X.env = [(false, eval b X.env)] := by rfl)
    (hst : starEach [a, b] X.env = (false, eval a X.env) :: starEach [b] X.env := by rfl) (hst2 : starEach [b] X.env = (false, eval b X.env) :: starEach [] X.env := by rfl) : I X tg (.Call (.Name "range" p) [a, b] [] pos) σ G cs (fun _ => True) (rng i j) rI :=
  ⟨_, pi_range2 hg hm (sA X [a, b]) hs hs2, fun G1 H s d Rr k => a_cons ha (a_cons hb a_nil hst2) hst G1 H s d _ fun G2 H2 vs s2 d2 hvs => by
    obtain ⟨v, ws, e1, k1, v2, ws2, e2, k2, k3⟩ := hvs
    cases k3
    cases k1
    cases k2
    subst e2
    exact ⟨i, j, e1, h, k _ G2 H2 s2 d2 wd_rng⟩⟩
def rC (c : Nat) : Hp → V → Prop := rS [c]
instance (c : Nat) : Mono (rC c) := ⟨fun _ h => h⟩
theorem i_str {l : List Nat} (h : D X iter σ G cs (rS l)) : I X tg iter σ G cs (fun _ => True) l rC :=
  ⟨_, pi_str (sE X iter), fun G1 H s d Rr k => h G1 H s d _ fun G2 H2 v s2 d2 hv => by
    refine ⟨SX.S l, hv, k _ G2 H2 s2 d2 ⟨fun i G3 H3 cs3 hi s3 _ d3 => ?_, fun G3 H3 cs3 s3 _ d3 => ?_, fun i x G3 H3 cs3 v H' hx s3 _ d3 y => ?_⟩⟩
    · show i < (SX.S l).cps.size
      simpa using hi
    · show (SX.S l).cps.size ≤ l.length
      simp
    · obtain ⟨e, c, h1, h2⟩ := y
      subst e
      have h3 : l[i]? = some c := by simpa using h1
      rw [hx] at h3
      cases h3
      exact ⟨G3, Same.refl _, d3, h2⟩⟩
theorem wd_enum {l : Addr} {vs : List V} {C : Cells → Prop} [m : ∀ x, Mono (r x)] (hr : Rs r G xs vs) (hC : ∀ G1 H cs, Same G G1 → C cs → Desc G1 cs H → SqL X.K H l vs) : WalkD (Ite X.K l) (enumL xs) G C (rT X.K (cc rI (c0 r))) :=
  ⟨fun i G1 H cs hi s c d => walk_enum.goes i H (by rw [enumL_length] at hi; rw [← hr.length]; exact hi) (hC G1 H cs s c d), fun G1 H cs s c d => by
    have q := walk_enum.stops H (hC G1 H cs s c d)
    rw [← hr.length] at q
    rw [enumL_length]
    exact q, fun i x G1 H cs v H' hx s c d y => by
    obtain ⟨e1, e2⟩ := enumL_getE hx
    have hi : i < xs.length := (List.getElem?_eq_some_iff.mp e2).1
    obtain ⟨t, u, w, h1, h2, h3, h4, h5⟩ := walk_enum.yields i H v H' (by rw [← hr.length]; exact hi) (hC G1 H cs s c d) y
    obtain ⟨x', k1, k2⟩ := hr.getV h5
    rw [e2] at k1
    cases k1
    cases h4
    subst h3
    have sf : Same G1 (upd G1 t (.tup [.int (i : Nat), w])) := Same.fresh d.same h2 _
    refine ⟨_, sf, d.new h2 _, t, [.int (i : Nat), w], h1, SqT.of upd_same, .int (i : Nat), [w], rfl, ?_, w, rfl, (m x.2).mono (s.trans sf) k2⟩
    show V.int _ = V.int _
    rw [e1]⟩
theorem i_enumF {elts : List Expr} {kk : Nat} {tpos : Pos} [∀ x, Mono (r x)] (hm : X.mg "enumerate" = none) (h : D X a σ G cs (rL X.K r xs)) (hg : Gl X "enumerate" := by rfl) (hs : starEach [a] X.env = [(false, eval a X.env)] := by rfl) (hst : starEach [a] X.env = (false, eval a X.env) :: starEach [] X.env := by rfl) :
    I X (.Tuple elts kk tpos) (.Call (.Name "enumerate" p) [a] [] pos) σ G cs (fun _ => True) (enumL xs) (rT X.K (cc rI (c0 r))) :=
  ⟨_, pi_enum hg hm (sA X [a]) hs, fun G1 H s d Rr k => a_cons h a_nil hst G1 H s d _ fun G2 H2 vs s2 d2 hvs => by
    obtain ⟨v, ws, e1, k1, k2⟩ := hvs
    cases k2
    obtain ⟨l, us, e, hl, hr⟩ := k1
    subst e
    exact ⟨l, us, e1, d2.same.seq hl, k _ G2 H2 s2 d2 (wd_enum hr fun G3 H3 cs3 s3 _ d3 => d3.same.seq (s3.seq hl))⟩⟩

/-! ### targets -/
def sxN (i : Nat) {α : Type} (r : α → Hp → V → Prop) : α → Hp → L2.St → L2.St → Prop := fun x G σ σ' => ∃ v, r x G v ∧ σ' = σ.set i (some v)
theorem tg_name (i : Nat) {x : Str} (hN : X.N.Nodup) (hi : X.N[i]? = some x := by rfl) (hx : Loc X.env.scope x := by first | exact Or.inl rfl | exact Or.inr rfl) (hf : X.fn x = true ∨ X.env.scope.names.lookup x = some .local := by first | exact .inl rfl | exact .inr rfl) : Tg X (.Name x pos) r (sxN i r) :=
  ⟨_, pg_name hN hi hx hf, fun x v G cs H σ h d Q q => q _ ⟨v, h, rfl⟩⟩
def Tgs {α : Type} (X : Cx) (ts : List Expr) (R : α → Hp → List V → Prop) (n : Nat) (Sx : α → Hp → L2.St → L2.St → Prop) : Prop :=
  ∃ g, PGs X ts g ∧ ∀ x vs G cs H σ, R x G vs → Desc G cs H → vs.length = n ∧ ∀ Q : L2.St → Hp → Prop, (∀ σ', Sx x G σ σ' → Q σ' H) → g vs σ H Q
theorem tgs_1 {S1 : α → Hp → L2.St → L2.St → Prop} (h : Tg X e r S1) (hs : (assignEach [e] X.env).map (·.2) = assign e X.env :: (assignEach [] X.env).map (·.2) := by rfl) : Tgs X [e] (c0 r) 1 S1 := by
  obtain ⟨g, h1, h2⟩ := h
  refine ⟨_, pgs_cons (hs := hs) h1 pgs_nil, fun x vs G cs H σ hr d => ?_⟩
  obtain ⟨v, rfl, hv⟩ := hr
  exact ⟨rfl, fun Q q => ⟨v, [], rfl, h2 x v G cs H σ hv d _ fun σ' hs => ⟨rfl, q σ' hs⟩⟩⟩
theorem tgs_c {β : Type} {r' : β → Hp → List V → Prop} {n : Nat} {S1 : α → Hp → L2.St → L2.St → Prop} {S2 : β → Hp → L2.St → L2.St → Prop} (h : Tg X e r S1) (h' : Tgs X es r' n S2) (hs : (assignEach (e :: es) X.env).map (·.2) = assign e X.env :: (assignEach es X.env).map (·.2) := by rfl) :
    Tgs X (e :: es) (cc r r') (n + 1) (fun x G σ σ' => ∃ σ1, S1 x.1 G σ σ1 ∧ S2 x.2 G σ1 σ') := by
  obtain ⟨g, h1, h2⟩ := h
  obtain ⟨g', h3, h4⟩ := h'
  refine ⟨_, pgs_cons (hs := hs) h1 h3, fun x vs G cs H σ hr d => ?_⟩
  obtain ⟨v, ws, rfl, hv, hw⟩ := hr
  refine ⟨by rw [List.length_cons, (h4 x.2 ws G cs H σ hw d).1], fun Q q => ⟨v, ws, rfl, h2 x.1 v G cs H σ hv d _ fun σ1 hs => (h4 x.2 ws G cs H σ1 hw d).2 Q fun σ' hs' => q σ' ⟨σ1, hs, hs'⟩⟩⟩
theorem tg_tup {R : α → Hp → List V → Prop} {n kk : Nat} {Sx : α → Hp → L2.St → L2.St → Prop} (hc : X.calm = true) (h : Tgs X es R n Sx) (hn : (assignEach es X.env).length = n := by rfl) (hst : (assignEach es X.env).findIdx? (·.1) = none := by rfl) : Tg X (.Tuple es kk pos) (rT X.K R) Sx := by
  obtain ⟨g, h1, h2⟩ := h
  refine ⟨_, pg_tup hc h1 hn hst, fun x v G cs H σ hr d Q q => ?_⟩
  obtain ⟨l, vs, e, hl, hR⟩ := hr
  obtain ⟨k1, k2⟩ := h2 x vs G cs H σ hR d
  exact ⟨l, vs, e, seqT d.same hl, k1, k2 Q q⟩
end
section
variable {ε S L R : Type} {X : Cx} {W : ε → L2.St → Hp → Prop} {σ : L2.St} {G : Hp} {cs : Cells} {Φ : Po ε S L R} {m : Out ε S L R} {st : Stmt} {rest body : List Stmt} {e o tg : Expr} {P : Hp → V → Prop} {pos p : Pos}
/-- a target of any form = e -/
theorem b_asg {α : Type} {r : α → Hp → V → Prop} {x : α} {Sx : α → Hp → L2.St → L2.St → Prop} (he : D X e σ G cs (r x)) (ht : Tg X tg r Sx) (k : ∀ σ' G1, Same G G1 → Sx x G1 σ σ' → B X W rest σ' G1 cs Φ m)
    (hs : swapsWithSole [tg] e pos.line X.env = pure false := by rfl) (hw : swappedStores [tg] e X.env = pure none := by rfl) (h1 : (assignEach [tg] X.env).map (·.2) = [assign tg X.env] := by rfl) : B X W (.Assign [tg] e pos :: rest) σ G cs Φ m := by
  obtain ⟨g, hg, h2⟩ := ht
  exact b_cons (ps_asg (sE X e) hg hs hw (h1 := h1)) fun H d E w => he G H (Same.refl _) d _ fun G2 H2 v s2 d2 hv => h2 x v G2 cs H2 σ hv d2 _ fun σ' hS => k σ' G2 s2 hS H2 d2 E (w.up s2)
theorem b_augAdd (i : Nat) {x : Str} {p' : Pos} {z y : Int} (hN : X.N.Nodup) (hz : σ[i]? = some (some (.int z))) (he : D X e σ G cs (rI y)) (k : ∀ G1, Same G G1 → B X W rest (σ.set i (some (.int (z + y)))) G1 cs Φ m) (hi : X.N[i]? = some x := by rfl) (hx : Loc X.env.scope x := by first | exact Or.inl rfl | exact Or.inr rfl)
    (hf : X.fn x = true ∨ X.env.scope.names.lookup x = some .local := by first | exact .inl rfl | exact .inr rfl) : B X W (.AugAssign (.Name x p') .Add e pos :: rest) σ G cs Φ m :=
  b_cons (ps_aug hN hi hx (sE X e) ip_add hf) fun H d E w => ⟨_, hz, he G H (Same.refl _) d _ fun G2 H2 v s2 d2 hv => ⟨z, y, rfl, hv, k G2 s2 H2 d2 E (w.up s2)⟩⟩
theorem b_augSub (i : Nat) {x : Str} {p' : Pos} {z y : Int} (hN : X.N.Nodup) (hz : σ[i]? = some (some (.int z))) (he : D X e σ G cs (rI y)) (k : ∀ G1, Same G G1 → B X W rest (σ.set i (some (.int (z - y)))) G1 cs Φ m) (hi : X.N[i]? = some x := by rfl) (hx : Loc X.env.scope x := by first | exact Or.inl rfl | exact Or.inr rfl)
    (hf : X.fn x = true ∨ X.env.scope.names.lookup x = some .local := by first | exact .inl rfl | exact .inr rfl) : B X W (.AugAssign (.Name x p') .Sub e pos :: rest) σ G cs Φ m :=
  b_cons (ps_aug hN hi hx (sE X e) ip_sub hf) fun H d E w => ⟨_, hz, he G H (Same.refl _) d _ fun G2 H2 v s2 d2 hv => ⟨z, y, rfl, hv, k G2 s2 H2 d2 E (w.up s2)⟩⟩
end

/-! ### sorted -/
def srt (xs : List Int) : List Int := xs.mergeSort fun a b => decide (a ≤ b)
def srtR (xs : List Int) : List Int := xs.mergeSort fun a b => decide (b ≤ a)
theorem perm_eq {le : Int → Int → Prop} (anti : ∀ a b, le a b → le b a → a = b) : ∀ {xs ys : List Int}, xs.Perm ys → xs.Pairwise le → ys.Pairwise le → xs = ys
  | [], ys, p, _, _ => (List.nil_perm.mp p).symm
  | x :: xs, [], p, _, _ => absurd (List.perm_nil.mp p) (by simp)
  | x :: xs, y :: ys, p, h1, h2 => by
    have hx : x ∈ y :: ys := p.mem_iff.mp List.mem_cons_self
    have hy : y ∈ x :: xs := p.mem_iff.mpr List.mem_cons_self
    have e : x = y := by
      rcases List.mem_cons.mp hx with e | hx
      · exact e
      · rcases List.mem_cons.mp hy with e | hy
        · exact e.symm
        · exact anti _ _ ((List.pairwise_cons.mp h1).1 y hy) ((List.pairwise_cons.mp h2).1 x hx)
    subst e
    rw [perm_eq anti (List.perm_cons x |>.mp p) (List.pairwise_cons.mp h1).2 (List.pairwise_cons.mp h2).2]
theorem srt_is {xs ys : List Int} (p : ys.Perm xs) (h : ys.Pairwise (· ≤ ·)) : ys = srt xs := by
  refine perm_eq (le := fun a b => a ≤ b) (fun a b => Int.le_antisymm) (p.trans (List.mergeSort_perm xs _).symm) h ?_
  have q := List.pairwise_mergeSort (le := fun a b : Int => decide (a ≤ b)) (fun a b c h1 h2 => by simp at *; omega) (fun a b => by simp; omega) xs
  exact q.imp fun h => of_decide_eq_true h
theorem srtR_is {xs ys : List Int} (p : ys.Perm xs) (h : ys.Pairwise (· ≥ ·)) : ys = srtR xs := by
  refine perm_eq (le := fun a b => b ≤ a) (fun a b h1 h2 => Int.le_antisymm h2 h1) (p.trans (List.mergeSort_perm xs _).symm) h ?_
  have q := List.pairwise_mergeSort (le := fun a b : Int => decide (b ≤ a)) (fun a b c h1 h2 => by simp at *; omega) (fun a b => by simp; omega) xs
  exact q.imp fun h => of_decide_eq_true h
section
variable {X : Cx} {σ : L2.St} {G : Hp} {cs : Cells} {a : Expr} {pos p : Pos} {xs : List Int}
theorem n_sorted (hm : X.mg "sorted" = none) (ha : D X a σ G cs (rdL X.K cs rI xs)) (hg : Gl X "sorted" := by rfl) (hv : bootBuiltins "sorted" = some (.builtin "sorted") := by decide +kernel)
    (he : starEach [a] X.env = (false, eval a X.env) :: starEach [] X.env := by rfl) (hpl : (backTo pos (starEach [] X.env)).any (·.1) = false := by rfl) : N X (.Call (.Name "sorted" p) [a] [] pos) σ G cs rI (srt xs) := fun G1 H s d Q q =>
  uE (pe_callB cr_sortedI hg hm hv (sA X [a]) (he := he) (hpl := hpl)) (a_cons ha a_nil he G1 H s d _ fun G2 H2 vs s2 d2 hvs => by
    obtain ⟨v, ws, e1, h1, h2⟩ := hvs
    cases h2
    obtain ⟨l, us, e, hl, hr⟩ := h1.sq d2
    subst e
    have hu := rs_int hr
    subst hu
    refine ⟨l, xs, e1, hl, fun ys l' hp hs hl' => q G2 _ l' _ s2 (d2.newCell hl' _) ?_⟩
    rw [srt_is hp hs]
    exact Rs.of_map (fun _ => rfl) _)
theorem n_sortedR {kn : Option Str} {jj : Nat} {p2 p3 : Pos} (hk : PK X [⟨kn, .Constant (.bool true) jj p2, p3⟩] (fun _ H Q => Q [.bl true] H)) (hm : X.mg "sorted" = none) (ha : D X a σ G cs (rdL X.K cs rI xs)) (hg : Gl X "sorted" := by rfl) (hv : bootBuiltins "sorted" = some (.builtin "sorted") := by decide +kernel)
    (he : backTo pos (starEach [a] X.env) = (false, eval a X.env) :: backTo pos (starEach [] X.env) := by rfl) (hst : starEach [a] X.env = (false, eval a X.env) :: starEach [] X.env := by rfl) (hpl : (backTo pos (starEach [a] X.env)).any (·.1) = false := by rfl)
    (hall : (backToKw pos (keywordEach [⟨kn, .Constant (.bool true) jj p2, p3⟩] X.env)).all (·.1.isSome) = true := by rfl) (hnone : (backToKw pos (keywordEach [⟨kn, .Constant (.bool true) jj p2, p3⟩] X.env)).any (·.1.isNone) = false := by rfl)
    (hks : (backToKw pos (keywordEach [⟨kn, .Constant (.bool true) jj p2, p3⟩] X.env)).filterMap (·.1) = [Str.ofString "reverse"] := by rfl) :
    N X (.Call (.Name "sorted" p) [a] [⟨kn, .Constant (.bool true) jj p2, p3⟩] pos) σ G cs rI (srtR xs) := fun G1 H s d Q q =>
  uE (pe_callBK (ks := [Str.ofString "reverse"]) (cr_sortedRev (b := true)) hg hm hv (sA X [a]) hk (he := he) (hpl := hpl) (hall := hall) (hnone := hnone) (hks := hks)) (a_cons ha a_nil hst G1 H s d _ fun G2 H2 vs s2 d2 hvs => by
    obtain ⟨v, ws, e1, h1, h2⟩ := hvs
    cases h2
    obtain ⟨l, us, e, hl, hr⟩ := h1.sq d2
    subst e
    have hu := rs_int hr
    subst hu
    refine ⟨l, xs, e1, rfl, hl, fun ys l' hp hs hl' => q G2 _ l' _ s2 (d2.newCell hl' _) ?_⟩
    have hs' : ys.Pairwise (· ≥ ·) := hs
    rw [srtR_is hp hs']
    exact Rs.of_map (fun _ => rfl) _)
end

/-! ### comprehensions -/
def Xb (X : Cx) (scope : Scope) (s : Shared) (H : Hp) (C : Addr) (cl : List (Str × Addr)) (fp : List Addr) : Cx := X.blk s H scope (compEnvC scope cl C X.env) fp
section
variable {X : Cx} {σ : L2.St} {G : Hp} {cs : Cells} {elt tg iter : Expr} {ifs : List Expr} {pos : Pos} {scope : Scope} {own : List (Str × Nat)} {α β : Type} {xs : List α} {Pi : α → Hp → V → Prop} {r : β → Hp → V → Prop} {f : α → β} {q : α → Bool}
/-- a target within a comprehension's block -/
def TgB (X : Cx) (scope : Scope) (tg : Expr) (P : α → Hp → V → Prop) (Sx : α → Hp → L2.St → L2.St → Prop) : Prop :=
  ∃ g, (∀ s H C cl fp, PG (X.blk s H scope (compEnvC scope cl C X.env) fp) tg g) ∧ ∀ x v G cs H σ, P x G v → Desc G cs H → ∀ Q : L2.St → Hp → Prop, (∀ σ', Sx x G σ σ' → Q σ' H) → g v σ H Q
theorem tgb_name (i : Nat) {x : Str} (hN : X.N.Nodup) (hi : X.N[i]? = some x := by rfl) (hx : scope.names.lookup x = some .local := by rfl) : TgB X scope (.Name x pos) Pi (sxN i Pi) :=
  ⟨_, fun s H C cl fp => by
    have k : (X.blk s H scope (compEnvC scope cl C X.env) fp).env.scope.names.lookup x = some .local := by
      first
      | exact lookup_relabel_local hx
      | (show (relabel scope X.env).names.lookup x = some .local
         unfold relabel
         exact lookup_relabel_local hx)
    exact pg_name (X := X.blk s H scope (compEnvC scope cl C X.env) fp) hN hi (.inl k) (.inr k), fun x v G cs H σ h d Q q => q _ ⟨v, h, rfl⟩⟩
/-- [elt for tg in iter if ..]: f of the items that q lets through -/
theorem lc_go {wi : TI} {g : TG} {tt : TT} {te : TE} {Sx : α → Hp → L2.St → L2.St → Prop} {C : Cells → Prop} {vs : List Nat} {H : Hp}
    (hw : ∀ Rr : It → Hp → Prop, (∀ J G2 H2, Same G G2 → Desc G2 cs H2 → WalkD J xs G2 C Pi → Rr J H2) → wi σ H Rr) (hg : ∀ x v G cs H σ, Pi x G v → Desc G cs H → ∀ Q : L2.St → Hp → Prop, (∀ σ', Sx x G σ σ' → Q σ' H) → g v σ H Q)
    (hC : ∀ l us, C ((l, .lst us) :: cs)) (hwipe : ∀ x G1 σ', Sx x G1 (wipe σ vs) σ' → wipe σ' vs = wipe σ vs) [∀ y, Mono (r y)]
    (ht : ∀ x, x ∈ xs → ∀ G1 cs1 σ', Same G G1 → (∃ c, cs1 = c :: cs) → Sx x G1 (wipe σ vs) σ' → ∀ G2 H2, Same G1 G2 → Desc G2 cs1 H2 → ∀ Q : Bool → Hp → Prop, (∀ G3 H3, Same G2 G3 → Desc G3 cs1 H3 → Q (q x) H3) → tt σ' H2 Q)
    (he : ∀ x, x ∈ xs → q x = true → ∀ G1 cs1 σ', Same G G1 → (∃ c, cs1 = c :: cs) → Sx x G1 (wipe σ vs) σ' → ∀ G2 H2, Same G1 G2 → Desc G2 cs1 H2 → ∀ Q : VK, (∀ G3 H3 v, Same G2 G3 → Desc G3 cs1 H3 → r (f x) G3 v → Q v H3) → te σ' H2 Q)
    (hsz : xs.length ≤ 16777215) {Q : VK} (hQ : ∀ G2 H2 l us, Same G G2 → Desc G2 ((l, .lst us) :: cs) H2 → Rs r G2 ((xs.filter q).map f) us → Q (.ref l) H2) : tLc wi g tt te vs σ H Q := by
  refine hw _ fun J G2 H2 s2 d2 wk => fun l hl => ?_
  have hlen : ∀ i, ((xs.take i).filter q).length ≤ i := fun i => Nat.le_trans (List.length_filter_le _ _) (by rw [List.length_take]; omega)
  let Pv : Nat → Hp → Prop := fun i H1 => ∃ G1 us, i ≤ xs.length ∧ Same G2 G1 ∧ Desc G1 ((l, .lst us) :: cs) H1 ∧ Rs r G1 (((xs.take i).filter q).map f) us
  refine ⟨fun i n H1 => n = xs.length - i ∧ Pv i H1, ⟨xs.length, rfl, G2, [], Nat.zero_le _, Same.refl _, d2.newCell hl _, .nil⟩, ?_⟩
  rintro i n H1 ⟨rfl, G1, us, hi, s1, d1, hr⟩
  by_cases hlt : i < xs.length
  · refine .inr ⟨wk.goes i G1 H1 _ hlt s1 (hC _ _) d1, Pv (i + 1), fun H' p' => ⟨_, by omega, rfl, p'⟩, fun v H3 y => ?_⟩
    have hx : xs[i]? = some xs[i] := by simp [hlt]
    have hm : xs[i] ∈ xs := List.getElem_mem hlt
    obtain ⟨G3, s3, d3, pv⟩ := wk.yields i xs[i] G1 H1 _ v H3 hx s1 (hC _ _) d1 y
    have et : xs.take (i + 1) = xs.take i ++ [xs[i]] := by simp
    refine hg xs[i] v G3 _ H3 _ pv d3 _ fun σ' hS => ⟨hwipe _ _ _ hS, ?_⟩
    refine ht xs[i] hm G3 _ σ' ((s2.trans s1).trans s3) ⟨_, rfl⟩ hS G3 H3 (Same.refl _) d3 _ fun G4 H4 s4 d4 => ?_
    cases hq : q xs[i] with
    | true =>
      refine iteT (he xs[i] hm hq G3 _ σ' ((s2.trans s1).trans s3) ⟨_, rfl⟩ hS G4 H4 s4 d4 _ fun G5 H5 w s5 d5 hw => ⟨us, d5.at_ List.mem_cons_self, ?_, G5, us ++ [w], hlt, ((s1.trans s3).trans s4).trans s5, d5.write (k := 0) rfl _, ?_⟩)
      · rw [← hr.length, List.length_map]
        have := hlen i
        rw [sizeLine_eq]
        omega
      · rw [et, List.filter_append, List.map_append, List.filter_cons_of_pos hq]
        exact Rs.snoc hw (hr.mono ((s3.trans s4).trans s5))
    | false =>
      refine iteF ⟨G4, us, hlt, (s1.trans s3).trans s4, d4, ?_⟩
      rw [et, List.filter_append, List.filter_cons_of_neg (by rw [hq]; decide), List.filter_nil, List.append_nil]
      exact hr.mono (s3.trans s4)
  · have e : i = xs.length := by omega
    subst e
    rw [List.take_length] at hr
    exact .inl ⟨wk.stops G1 H1 _ s1 (hC _ _) d1, hQ G1 H1 l us (s2.trans s1) d1 hr⟩
def teB (X : Cx) (scope : Scope) (e : Expr) : TE := fun σ H Q => ∀ s H0 C cl fp, wE (X.blk s H0 scope (compEnvC scope cl C X.env) fp) e σ H Q
def ttB (X : Cx) (scope : Scope) (e : Expr) : TT := fun σ H Q => ∀ s H0 C cl fp, wT (X.blk s H0 scope (compEnvC scope cl C X.env) fp) e σ H Q
/-- without a test -/
theorem n_lc {Sx : α → Hp → L2.St → L2.St → Prop} {C : Cells → Prop} (hcalm : X.calm = true) (hN : X.N.Nodup) (ok : BlkOk X.N X.env.scope scope own) (hi : I X tg iter σ G cs C xs Pi) (ht : TgB X scope tg Pi Sx)
    (hC : ∀ l us, C ((l, .lst us) :: cs)) (hwipe : ∀ x G1 σ', Sx x G1 (wipe σ (own.map (·.2))) σ' → wipe σ' (own.map (·.2)) = wipe σ (own.map (·.2))) [∀ y, Mono (r y)]
    (he : ∀ x, x ∈ xs → ∀ G1 cs1 σ', Same G G1 → (∃ c, cs1 = c :: cs) → Sx x G1 (wipe σ (own.map (·.2))) σ' → ∀ s H0 C cl fp, D (X.blk s H0 scope (compEnvC scope cl C X.env) fp) elt σ' G1 cs1 (r (f x)))
    (hsz : xs.length ≤ 16777215) (hs : ∀ x, foldedSetIterable iter X.env x = pure x := by intro _; rfl) : N X (.ListComp elt [⟨tg, iter, [], 0⟩] scope pos) σ G cs r (xs.map f) := by
  obtain ⟨wi, hpi, hw⟩ := hi
  obtain ⟨g, hpg, hgt⟩ := ht
  intro G1 H s d Q q
  refine uE (pe_lc (te := teB X scope elt) hcalm hN hpi ok hpg (fun _ _ _ _ _ => pts_nil) (fun s H0 C cl fp => ⟨fun pins s1 σ H Q I h => h s H0 C cl fp pins s1 I⟩) hs) ?_
  refine lc_go (Sx := Sx) (C := C) (r := r) (f := f) (q := fun _ => true) (hw G1 H s d) hgt hC hwipe (fun x hx G2 cs1 σ' s2 hc hS G3 H3 s3 d3 Q q => q G3 H3 (Same.refl _) d3)
    (fun x hx _ G2 cs1 σ' s2 hc hS G3 H3 s3 d3 Q q s4 H4 C4 cl4 fp4 => he x hx G2 cs1 σ' (s.trans s2) hc hS s4 H4 C4 cl4 fp4 G3 H3 s3 d3 Q q) hsz fun G2 H2 l us s2 d2 hr => q G2 H2 l us s2 d2 ?_
  have e : xs.filter (fun _ => true) = xs := by simp
  rw [e] at hr
  exact hr
/-- with one test -/
theorem n_lcIf {cnd : Expr} {Sx : α → Hp → L2.St → L2.St → Prop} {C : Cells → Prop} (hcalm : X.calm = true) (hN : X.N.Nodup) (ok : BlkOk X.N X.env.scope scope own) (hi : I X tg iter σ G cs C xs Pi) (ht : TgB X scope tg Pi Sx)
    (hC : ∀ l us, C ((l, .lst us) :: cs)) (hwipe : ∀ x G1 σ', Sx x G1 (wipe σ (own.map (·.2))) σ' → wipe σ' (own.map (·.2)) = wipe σ (own.map (·.2))) [∀ y, Mono (r y)]
    (hq : ∀ x, x ∈ xs → ∀ G1 cs1 σ', Same G G1 → (∃ c, cs1 = c :: cs) → Sx x G1 (wipe σ (own.map (·.2))) σ' → ∀ s H0 C cl fp, T (X.blk s H0 scope (compEnvC scope cl C X.env) fp) cnd σ' G1 cs1 (q x))
    (he : ∀ x, x ∈ xs → q x = true → ∀ G1 cs1 σ', Same G G1 → (∃ c, cs1 = c :: cs) → Sx x G1 (wipe σ (own.map (·.2))) σ' → ∀ s H0 C cl fp, D (X.blk s H0 scope (compEnvC scope cl C X.env) fp) elt σ' G1 cs1 (r (f x)))
    (hsz : xs.length ≤ 16777215) (hs : ∀ x, foldedSetIterable iter X.env x = pure x := by intro _; rfl) : N X (.ListComp elt [⟨tg, iter, [cnd], 0⟩] scope pos) σ G cs r ((xs.filter q).map f) := by
  obtain ⟨wi, hpi, hw⟩ := hi
  obtain ⟨g, hpg, hgt⟩ := ht
  intro G1 H s d Q k
  refine uE (pe_lc (te := teB X scope elt) (tt := ttB X scope cnd) hcalm hN hpi ok hpg (fun s H0 C cl fp => pts_one ⟨fun pins s1 σ H Q I h => h s H0 C cl fp pins s1 I⟩) (fun s H0 C cl fp => ⟨fun pins s1 σ H Q I h => h s H0 C cl fp pins s1 I⟩) hs) ?_
  exact lc_go (Sx := Sx) (C := C) (r := r) (f := f) (q := q) (hw G1 H s d) hgt hC hwipe (fun x hx G2 cs1 σ' s2 hc hS G3 H3 s3 d3 Q q s4 H4 C4 cl4 fp4 => hq x hx G2 cs1 σ' (s.trans s2) hc hS s4 H4 C4 cl4 fp4 G3 H3 s3 d3 Q q)
    (fun x hx hx2 G2 cs1 σ' s2 hc hS G3 H3 s3 d3 Q q s4 H4 C4 cl4 fp4 => he x hx hx2 G2 cs1 σ' (s.trans s2) hc hS s4 H4 C4 cl4 fp4 G3 H3 s3 d3 Q q) hsz fun G2 H2 l us s2 d2 hr => k G2 H2 l us s2 d2 hr
end
section
variable {ε S L R : Type} {X : Cx} {W : ε → L2.St → Hp → Prop} {σ : L2.St} {G : Hp} {cs : Cells} {Φ : Po ε S L R} {m : Out ε S L R} {rest : List Stmt} {elt tg iter : Expr} {pos spos : Pos} {scope : Scope} {own : List (Str × Nat)} {α β : Type} {xs : List α} {Pi : α → Hp → V → Prop} {r : β → Hp → V → Prop} {f : α → β} {q : α → Bool}
/-- y = [..], a statement of its own -/
theorem b_setLc (i : Nat) {y : Str} {py : Pos} {Sx : α → Hp → L2.St → L2.St → Prop} {C : Cells → Prop} (hcalm : X.calm = true) (hN : X.N.Nodup) (hyl : X.env.scope.names.lookup y = some .local) (hsw : swapsWith (.ListComp elt [⟨tg, iter, [], 0⟩] scope pos) (some (.Name y py)) spos.line X.env = pure true)
    (ok : BlkOk X.N X.env.scope scope own) (hi : I X tg iter σ G cs C xs Pi) (ht : TgB X scope tg Pi Sx)
    (hC : ∀ l us, C ((l, .lst us) :: cs)) (hwipe : ∀ x G1 σ', Sx x G1 (wipe σ (own.map (·.2))) σ' → wipe σ' (own.map (·.2)) = wipe σ (own.map (·.2))) [∀ y, Mono (r y)]
    (he : ∀ x, x ∈ xs → ∀ G1 cs1 σ', Same G G1 → (∃ c, cs1 = c :: cs) → Sx x G1 (wipe σ (own.map (·.2))) σ' → ∀ s H0 C cl fp, D (X.blk s H0 scope (compEnvC scope cl C X.env) fp) elt σ' G1 cs1 (r (f x)))
    (hsz : xs.length ≤ 16777215) (k : ∀ l vs G1, Same G G1 → Rs r G1 (xs.map f) vs → B X W rest (σ.set i (some (.ref l))) G1 ((l, .lst vs) :: cs) Φ m) (hy : X.N[i]? = some y := by rfl) (hs : ∀ x, foldedSetIterable iter X.env x = pure x := by intro _; rfl) :
    B X W (.Assign [.Name y py] (.ListComp elt [⟨tg, iter, [], 0⟩] scope pos) spos :: rest) σ G cs Φ m := by
  obtain ⟨wi, hpi, hw⟩ := hi
  obtain ⟨g, hpg, hgt⟩ := ht
  refine b_cons (ps_setLc (te := teB X scope elt) hcalm hN hy hyl hsw hpi ok hpg (fun _ _ _ _ _ => pts_nil) (fun s H0 C cl fp => ⟨fun pins s1 σ H Q I h => h s H0 C cl fp pins s1 I⟩) hs) fun H d E w => ?_
  refine lc_go (Sx := Sx) (C := C) (r := r) (f := f) (q := fun _ => true) (hw G H (Same.refl _) d) hgt hC hwipe (fun x hx G2 cs1 σ' s2 hc hS G3 H3 s3 d3 Q q => q G3 H3 (Same.refl _) d3)
    (fun x hx _ G2 cs1 σ' s2 hc hS G3 H3 s3 d3 Q q s4 H4 C4 cl4 fp4 => he x hx G2 cs1 σ' s2 hc hS s4 H4 C4 cl4 fp4 G3 H3 s3 d3 Q q) hsz fun G2 H2 l us s2 d2 hr => k l us G2 s2 ?_ H2 d2 E (w.up s2)
  have e : xs.filter (fun _ => true) = xs := by simp
  rw [e] at hr
  exact hr
theorem b_setLcIf (i : Nat) {y : Str} {py : Pos} {cnd : Expr} {Sx : α → Hp → L2.St → L2.St → Prop} {C : Cells → Prop} (hcalm : X.calm = true) (hN : X.N.Nodup) (hyl : X.env.scope.names.lookup y = some .local) (hsw : swapsWith (.ListComp elt [⟨tg, iter, [cnd], 0⟩] scope pos) (some (.Name y py)) spos.line X.env = pure true)
    (ok : BlkOk X.N X.env.scope scope own) (hi : I X tg iter σ G cs C xs Pi) (ht : TgB X scope tg Pi Sx)
    (hC : ∀ l us, C ((l, .lst us) :: cs)) (hwipe : ∀ x G1 σ', Sx x G1 (wipe σ (own.map (·.2))) σ' → wipe σ' (own.map (·.2)) = wipe σ (own.map (·.2))) [∀ y, Mono (r y)]
    (hq : ∀ x, x ∈ xs → ∀ G1 cs1 σ', Same G G1 → (∃ c, cs1 = c :: cs) → Sx x G1 (wipe σ (own.map (·.2))) σ' → ∀ s H0 C cl fp, T (X.blk s H0 scope (compEnvC scope cl C X.env) fp) cnd σ' G1 cs1 (q x))
    (he : ∀ x, x ∈ xs → q x = true → ∀ G1 cs1 σ', Same G G1 → (∃ c, cs1 = c :: cs) → Sx x G1 (wipe σ (own.map (·.2))) σ' → ∀ s H0 C cl fp, D (X.blk s H0 scope (compEnvC scope cl C X.env) fp) elt σ' G1 cs1 (r (f x)))
    (hsz : xs.length ≤ 16777215) (k : ∀ l vs G1, Same G G1 → Rs r G1 ((xs.filter q).map f) vs → B X W rest (σ.set i (some (.ref l))) G1 ((l, .lst vs) :: cs) Φ m) (hy : X.N[i]? = some y := by rfl) (hs : ∀ x, foldedSetIterable iter X.env x = pure x := by intro _; rfl) :
    B X W (.Assign [.Name y py] (.ListComp elt [⟨tg, iter, [cnd], 0⟩] scope pos) spos :: rest) σ G cs Φ m := by
  obtain ⟨wi, hpi, hw⟩ := hi
  obtain ⟨g, hpg, hgt⟩ := ht
  refine b_cons (ps_setLc (te := teB X scope elt) (tt := ttB X scope cnd) hcalm hN hy hyl hsw hpi ok hpg (fun s H0 C cl fp => pts_one ⟨fun pins s1 σ H Q I h => h s H0 C cl fp pins s1 I⟩) (fun s H0 C cl fp => ⟨fun pins s1 σ H Q I h => h s H0 C cl fp pins s1 I⟩) hs) fun H d E w => ?_
  exact lc_go (Sx := Sx) (C := C) (r := r) (f := f) (q := q) (hw G H (Same.refl _) d) hgt hC hwipe (fun x hx G2 cs1 σ' s2 hc hS G3 H3 s3 d3 Q q s4 H4 C4 cl4 fp4 => hq x hx G2 cs1 σ' s2 hc hS s4 H4 C4 cl4 fp4 G3 H3 s3 d3 Q q)
    (fun x hx hx2 G2 cs1 σ' s2 hc hS G3 H3 s3 d3 Q q s4 H4 C4 cl4 fp4 => he x hx hx2 G2 cs1 σ' s2 hc hS s4 H4 C4 cl4 fp4 G3 H3 s3 d3 Q q) hsz fun G2 H2 l us s2 d2 hr => k l us G2 s2 hr H2 d2 E (w.up s2)
end

/-! ### defs -/
theorem Desc.drop {G H : Hp} {loc cs : Cells} (d : Desc G (loc ++ cs) H) : Desc G cs H := by
  induction loc with
  | nil => exact d
  | cons c loc ih => exact ih d.forget
/-- the promise of a def that raises nothing: i what it is given, pre how it lies, m what it gives, r how that lies -/
def SpP {I O : Type} (pre : I → Hp → List V → Prop) (r : I → O → Hp → V → Prop) (m : I → O) : Sp := fun vs H Q _ => ∃ (i : I) (G : Hp) (cs : Cells), Desc G cs H ∧ pre i G vs ∧ ∀ v G2 H2, Same G G2 → Desc G2 cs H2 → r i (m i) G2 v → Q v H2
/-- .. of one that may raise -/
def SpE {ε I O : Type} (cE : ε → Value) (pre : I → Hp → List V → Prop) (r : I → O → Hp → V → Prop) (m : I → Except ε O) : Sp := fun vs H Q E => ∃ (i : I) (G : Hp) (cs : Cells), Desc G cs H ∧ pre i G vs ∧
  (match m i with
    | .ok o => ∀ v G2 H2, Same G G2 → Desc G2 cs H2 → r i o G2 v → Q v H2
    | .error k => ∀ G2 H2, Same G G2 → Desc G2 cs H2 → E (cE k) none H2)
structure Fn0 (P : Program) (w : World) (K : PySem.W.Frag) (mg : Str → Option Value) (base : Heap) (CX : CXT) (k : Nat) (x : Str) (n : Nat) (sp : Sp) : Prop where
  ex : ∃ (f : Addr) (fd : FuncData) (ps : List Str), FnOk P w K mg base CX k f fd ps sp ∧ mg x = some (.ref f) ∧ PySem.W.keepIn K (.ref f) = true ∧ Binds K fd ps [] ∧ ps.length = n
/-- what is wanted at a def's end -/
def PoF {ε O : Type} [Inhabited O] (cs : Cells) (r : O → Hp → V → Prop) : Po ε Unit Empty O :=
  { nx := fun _ _ G2 cs2 => (∃ loc, cs2 = loc ++ cs) ∧ r default G2 .non, lp := fun l => l.elim, rt := fun o G2 cs2 v => (∃ loc, cs2 = loc ++ cs) ∧ r o G2 v, er := fun _ cs2 => ∃ loc, cs2 = loc ++ cs }
section
variable {P : Program} {w : World} {K : PySem.W.Frag} {mg : Str → Option Value} {base : Heap}
theorem fn_ok {I O : Type} [Inhabited O] {x : Str} {st : Stmt} {f : Addr} {fd : FuncData} {N ps : List Str} {k : Nat} {pre : I → Hp → List V → Prop} {r : I → O → Hp → V → Prop} (F : Fun K x x st f fd) (S : FnScope N ps (defScope st))
    (body : I → Out Empty Unit Empty O) (len : ∀ i G vs, pre i G vs → vs.length = ps.length)
    (h : ∀ (cdv : Value) (A : Around) (outer : List Env) (s : Shared) (H : Hp) (E : XK) (i : I) (G : Hp) (cs : Cells) (vs : List V), Room k (A.deeper (envOfC x (defScope st) s.heap.objs.size f cdv)) → pre i G vs →
      B (cxOf CX0 P w K mg base N x (defScope st) f cdv A outer s H E).nox (fun e _ _ => e.elim) (defBody st) (start N vs) G cs (PoF cs (r i)) (body i)) :
    FnOk P w K mg base CX0 (k + 1) f fd ps (SpP pre r fun i => (body i).val) := by
  refine F.ok S (fun vs H Q E hs => ?_) (fun cdv A outer s H vs Q E hr hs => ?_)
  · obtain ⟨i, G, cs, _, hp, _⟩ := hs
    exact len i G vs hp
  · obtain ⟨i, G, cs, d, hp, q⟩ := hs
    refine ⟨_, sSs _ (defBody st), h cdv A outer s H E i G cs vs hr hp H d _ ?_⟩
    cases hb : body i with
    | nx u =>
      rintro σ2 G2 cs2 H2 s2 d2 ⟨⟨loc, rfl⟩, hr2⟩
      refine q _ G2 H2 s2 d2.drop ?_
      dsimp only
      rw [hb]
      exact hr2
    | bk l => exact l.elim
    | ct l => exact l.elim
    | rt o =>
      rintro v G2 cs2 H2 s2 d2 ⟨⟨loc, rfl⟩, hr2⟩
      refine q _ G2 H2 s2 d2.drop ?_
      dsimp only
      rw [hb]
      exact hr2
    | er e => exact e.elim
theorem fn_mk {I O : Type} [Inhabited O] {x : Str} {st : Stmt} {f : Addr} {fd : FuncData} {N ps : List Str} {k : Nat} {pre : I → Hp → List V → Prop} {r : I → O → Hp → V → Prop} (F : Fun K x x st f fd) (S : FnScope N ps (defScope st)) (b : Binds K fd ps []) (hmg : mg x = some (.ref f))
    (body : I → Out Empty Unit Empty O) (len : ∀ i G vs, pre i G vs → vs.length = ps.length)
    (h : ∀ (cdv : Value) (A : Around) (outer : List Env) (s : Shared) (H : Hp) (E : XK) (i : I) (G : Hp) (cs : Cells) (vs : List V), Room k (A.deeper (envOfC x (defScope st) s.heap.objs.size f cdv)) → pre i G vs →
      B (cxOf CX0 P w K mg base N x (defScope st) f cdv A outer s H E).nox (fun e _ _ => e.elim) (defBody st) (start N vs) G cs (PoF cs (r i)) (body i)) :
    Fn0 P w K mg base CX0 (k + 1) x ps.length (SpP pre r fun i => (body i).val) :=
  ⟨f, fd, ps, fn_ok F S body len h, hmg, F.kp, b, rfl⟩
theorem fn_okE {ε I O : Type} [Inhabited O] {cE : ε → Value} {x : Str} {st : Stmt} {f : Addr} {fd : FuncData} {N ps : List Str} {k : Nat} {pre : I → Hp → List V → Prop} {r : I → O → Hp → V → Prop} (F : Fun K x x st f fd) (S : FnScope N ps (defScope st))
    (body : I → Out ε Unit Empty O) (len : ∀ i G vs, pre i G vs → vs.length = ps.length)
    (h : ∀ (cdv : Value) (A : Around) (outer : List Env) (s : Shared) (H : Hp) (E : XK) (i : I) (G : Hp) (cs : Cells) (vs : List V), Room k (A.deeper (envOfC x (defScope st) s.heap.objs.size f cdv)) → pre i G vs →
      B (cxOf (L2.CX P w) P w K mg base N x (defScope st) f cdv A outer s H E) (fun e _ H => E (cE e) none H) (defBody st) (start N vs) G cs (PoF cs (r i)) (body i)) :
    FnOk P w K mg base (L2.CX P w) (k + 1) f fd ps (SpE cE pre r fun i => (body i).res) := by
  refine F.okX S (fun vs H Q E hs => ?_) (fun cdv A outer s H vs Q E hr hs => ?_)
  · obtain ⟨i, G, cs, _, hp, _⟩ := hs
    exact len i G vs hp
  · obtain ⟨i, G, cs, d, hp, q⟩ := hs
    refine ⟨_, sSs _ (defBody st), h cdv A outer s H E i G cs vs hr hp H d _ ?_⟩
    cases hb : body i with
    | nx u =>
      dsimp only at q
      rw [hb] at q
      rintro σ2 G2 cs2 H2 s2 d2 ⟨⟨loc, rfl⟩, hr2⟩
      exact q _ G2 H2 s2 d2.drop hr2
    | bk l => exact l.elim
    | ct l => exact l.elim
    | rt o =>
      dsimp only at q
      rw [hb] at q
      rintro v G2 cs2 H2 s2 d2 ⟨⟨loc, rfl⟩, hr2⟩
      exact q _ G2 H2 s2 d2.drop hr2
    | er e =>
      dsimp only at q
      rw [hb] at q
      rintro σ2 G2 cs2 H2 s2 d2 ⟨loc, rfl⟩
      exact q G2 H2 s2 d2.drop
theorem fn_mkE {ε I O : Type} [Inhabited O] {cE : ε → Value} {x : Str} {st : Stmt} {f : Addr} {fd : FuncData} {N ps : List Str} {k : Nat} {pre : I → Hp → List V → Prop} {r : I → O → Hp → V → Prop} (F : Fun K x x st f fd) (S : FnScope N ps (defScope st)) (b : Binds K fd ps []) (hmg : mg x = some (.ref f))
    (body : I → Out ε Unit Empty O) (len : ∀ i G vs, pre i G vs → vs.length = ps.length)
    (h : ∀ (cdv : Value) (A : Around) (outer : List Env) (s : Shared) (H : Hp) (E : XK) (i : I) (G : Hp) (cs : Cells) (vs : List V), Room k (A.deeper (envOfC x (defScope st) s.heap.objs.size f cdv)) → pre i G vs →
      B (cxOf (L2.CX P w) P w K mg base N x (defScope st) f cdv A outer s H E) (fun e _ H => E (cE e) none H) (defBody st) (start N vs) G cs (PoF cs (r i)) (body i)) :
    Fn0 P w K mg base (L2.CX P w) (k + 1) x ps.length (SpE cE pre r fun i => (body i).res) :=
  ⟨f, fd, ps, fn_okE F S body len h, hmg, F.kp, b, rfl⟩
end
section
variable {X : Cx} {σ : L2.St} {G : Hp} {cs : Cells} {e : Expr} {es : List Expr} {pos p : Pos}
/-- a call of a def that raises nothing -/
theorem d_call {I O : Type} {pre : I → Hp → List V → Prop} {r : I → O → Hp → V → Prop} {m : I → O} {k j n : Nat} {x : Str} {Ps : Hp → List V → Prop} (i : I) (F : Fn0 X.prog X.w X.K X.mg X.base CX0 k x n (SpP pre r m)) (hr : Room j X.A) (hk : k ≤ j)
    (ha : A X (e :: es) σ G cs Ps) (hp : ∀ G1 vs, Same G G1 → Ps G1 vs → pre i G1 vs) (hg : Gl X x := by rfl) (hd : (x == ("__debug__" : Str)) = false := by decide)
    (he : starEach (e :: es) X.env = (false, eval e X.env) :: starEach es X.env := by rfl) (hpl : (backTo pos (starEach es X.env)).any (·.1) = false := by rfl) : D X (.Call (.Name x p) (e :: es) [] pos) σ G cs (r i (m i)) := by
  obtain ⟨f, fd, ps, F, hm, kp, b, _⟩ := F.ex
  refine d_by (pe_call F (hr.mono hk) hg hm kp b .nil pass0 (sA X _) (hdb := hd) (he := he) (hpl := hpl)) fun G1 H s d Q q => ha G1 H s d _ fun G2 H2 vs s2 d2 hvs => ?_
  refine ⟨i, G2, cs, d2, ?_, fun v G3 H3 s3 d3 hv => q G3 H3 v (s2.trans s3) d3 hv⟩
  rw [List.append_nil]
  exact hp G2 vs (s.trans s2) hvs
theorem d_callQ {I O : Type} {pre : I → Hp → List V → Prop} {r : I → O → Hp → V → Prop} {m : I → O} {k j n : Nat} {x : Str} {Ps : Hp → List V → Prop} {P : Hp → V → Prop} (i : I) (F : Fn0 X.prog X.w X.K X.mg X.base CX0 k x n (SpP pre r m)) (hr : Room j X.A) (hk : k ≤ j)
    (ha : A X (e :: es) σ G cs Ps) (hp : ∀ G1 vs, Same G G1 → Ps G1 vs → pre i G1 vs) (hP : ∀ G v, r i (m i) G v → P G v) (hg : Gl X x := by rfl) (hd : (x == ("__debug__" : Str)) = false := by decide)
    (he : starEach (e :: es) X.env = (false, eval e X.env) :: starEach es X.env := by rfl) (hpl : (backTo pos (starEach es X.env)).any (·.1) = false := by rfl) : D X (.Call (.Name x p) (e :: es) [] pos) σ G cs P :=
  (d_call i F hr hk ha hp hg hd he hpl).imp hP
end
end J

namespace J
open PySem L2 PyProof.Rows
section
variable {X : Cx}
/-- two readable lists end to end -/
def rCatW (K : PySem.W.Frag) : R2 := fun x y H Q => ∃ l b xs zs, x = .ref l ∧ y = .ref b ∧ SqL K H l xs ∧ SqL K H b zs ∧ xs.length + zs.length ≤ sizeLine ∧ ∀ p, H p = none → Q (.ref p) (upd H p (.lst (xs ++ zs)))
theorem op_catW : OpR X (binaryOp .Add) (rCatW X.K) := by
  intro pins s σ H x y v u Q I rx ry h
  obtain ⟨l, b, xs, zs, rfl, rfl, hH, hB, hz, q⟩ := h
  cases rx
  cases ry
  obtain ⟨its, r, p1, _⟩ := I.list hH
  obtain ⟨its2, r2, p2, _⟩ := I.list hB
  have e1 := r.length
  have e2 := r2.length
  obtain ⟨⟨c1, d1, da1, sl1⟩, n1, g1, h1, _, k1⟩ := p1
  obtain ⟨⟨c2, d2, da2, sl2⟩, n2, g2, h2, _, k2⟩ := p2
  dsimp only at h1 k1 h2 k2
  subst h1 k1 h2 k2
  have hsz : its.toArray.size + its2.toArray.size ≤ sizeLine := by
    rw [List.size_toArray, List.size_toArray]
    omega
  have ea : its.toArray ++ its2.toArray = (its ++ its2).toArray := by simp
  refine concat_meets ⟨_, g1, rfl⟩ ⟨_, g2, rfl⟩ noFill_list_add seq_list_add PySem.F.slot_list_add PySem.F.entry_list_add (PySem.F.args_list_add_2 _ _)
    (list_addW l b its.toArray its2.toArray n1 n2 d1 d2 sl1 sl2 hsz) ⟨g1, g2, ?_⟩
  rw [ea]
  refine ⟨.ref s.heap.objs.size, _, I.lnew (t' := s.toks) (r.append r2) ?_, rfl, q _ I.fresh⟩
  rw [List.length_append]
  exact hz
end
section
variable {X : Cx} {σ : L2.St} {G : Hp} {cs : Cells} {a b : Expr} {pos : Pos} {α : Type} {r : α → Hp → V → Prop} {xs ys : List α}
theorem n_cat [∀ x, Mono (r x)] (ha : D X a σ G cs (rdL X.K cs r xs)) (hb : D X b σ G cs (rdL X.K cs r ys)) (hl : xs.length + ys.length ≤ sizeLine) : N X (.BinOp a .Add b pos) σ G cs r (xs ++ ys) := fun G1 H s d Q q =>
  uE (pe_op op_catW (sE X a) (sE X b)) (ha G1 H s d _ fun G2 H2 x s2 d2 hx => hb G2 H2 (s.trans s2) d2 _ fun G3 H3 y s3 d3 hy => by
    obtain ⟨l, vs, e, h1, h2⟩ := (Mono.mono s3 hx).sq d3
    obtain ⟨l', vs', e', h1', h2'⟩ := hy.sq d3
    exact ⟨l, l', vs, vs', e, e', h1, h1', by rw [← h2.length, ← h2'.length]; exact hl, fun p hp => q G3 _ p _ (s2.trans s3) (d3.newCell hp _) (Rs.append h2' h2)⟩)
end

/-! ### == of data -/
class EqR {α : Type} (K : PySem.W.Frag) (r : α → Hp → V → Prop) where
  toD : α → PyData
  ok : α → Prop
  dep : Nat
  dp : ∀ {x G H v}, r x G v → Same G H → Dp K H v (toD x)
  lay : ∀ {x}, ok x → (toD x).canLay0 = true
  deep : ∀ x, (toD x).depth ≤ dep
  eqv : ∀ x y, PyData.eqv (toD x) (toD y) = true ↔ x = y
instance (K : PySem.W.Frag) : EqR K rI where
  toD := .int
  ok _ := True
  dep := 1
  dp h _ := by cases h; exact .int _
  lay _ := rfl
  deep x := by unfold PyData.depth; omega
  eqv x y := by
    unfold PyData.eqv
    exact beq_iff_eq
instance (K : PySem.W.Frag) : EqR K rB where
  toD := .bool
  ok _ := True
  dep := 1
  dp h _ := by cases h; exact .bl _
  lay _ := rfl
  deep x := by unfold PyData.depth; omega
  eqv x y := by
    unfold PyData.eqv
    exact beq_iff_eq
instance (K : PySem.W.Frag) : EqR K rS where
  toD l := .str (SX.S l)
  ok l := ∀ c ∈ l, c < 1114112
  dep := 1
  dp h _ := by cases h; exact .str _
  lay {x} h := by
    unfold PyData.canLay0 PySem.PyData.strOk
    show (SX.S x).cps.all _ = true
    rw [← Array.all_toList]
    exact List.all_eq_true.mpr fun c hc => decide_eq_true (h c hc)
  deep x := by unfold PyData.depth; omega
  eqv x y := by
    unfold PyData.eqv
    rw [SX.S_beq]
    exact beq_iff_eq
theorem dpAll {K : PySem.W.Frag} {α : Type} {r : α → Hp → V → Prop} [q : EqR K r] {G H : Hp} (s : Same G H) : ∀ {xs : List α} {vs : List V}, Rs r G xs vs → DpAll K H vs (xs.map q.toD)
  | _, _, .nil => .nil
  | _, _, .cons h t => .cons (q.dp h s) (dpAll s t)
theorem layAll {K : PySem.W.Frag} {α : Type} {r : α → Hp → V → Prop} [q : EqR K r] : ∀ {xs : List α}, (∀ x ∈ xs, q.ok x) → PyData.canLayAll0 (xs.map q.toD) = true
  | [], _ => by rw [List.map_nil]; unfold PyData.canLayAll0; rfl
  | x :: xs, h => by
    rw [List.map_cons]
    unfold PyData.canLayAll0
    rw [Bool.and_eq_true]
    exact ⟨q.lay (h x List.mem_cons_self), layAll fun y hy => h y (List.mem_cons_of_mem _ hy)⟩
theorem deepAll {K : PySem.W.Frag} {α : Type} {r : α → Hp → V → Prop} [q : EqR K r] : ∀ (xs : List α), PyData.depthAll (xs.map q.toD) ≤ q.dep
  | [] => by rw [List.map_nil]; unfold PyData.depthAll; omega
  | x :: xs => by
    rw [List.map_cons]
    unfold PyData.depthAll
    exact Nat.max_le.mpr ⟨q.deep x, deepAll xs⟩
theorem eqvAll {K : PySem.W.Frag} {α : Type} {r : α → Hp → V → Prop} [q : EqR K r] : ∀ (xs ys : List α), PyData.eqvAll (xs.map q.toD) (ys.map q.toD) = true ↔ xs = ys
  | [], [] => by rw [List.map_nil]; unfold PyData.eqvAll; simp
  | [], y :: ys => by rw [List.map_nil, List.map_cons]; unfold PyData.eqvAll; simp
  | x :: xs, [] => by rw [List.map_nil, List.map_cons]; unfold PyData.eqvAll; simp
  | x :: xs, y :: ys => by
    rw [List.map_cons, List.map_cons]
    unfold PyData.eqvAll
    rw [Bool.and_eq_true, q.eqv, eqvAll xs ys]
    simp
instance (K : PySem.W.Frag) {α : Type} (r : α → Hp → V → Prop) [q : EqR K r] : EqR K (rL K r) where
  toD xs := .list (xs.map q.toD)
  ok xs := ∀ x ∈ xs, q.ok x
  dep := q.dep + 1
  dp h s := by
    obtain ⟨a, vs, rfl, h1, h2⟩ := h
    exact .lst (s.seq h1) (dpAll s h2)
  lay h := by
    unfold PyData.canLay0
    exact layAll h
  deep xs := by
    unfold PyData.depth
    have := deepAll (K := K) (r := r) xs
    omega
  eqv xs ys := by
    unfold PyData.eqv
    rw [eqvAll]
/-- the places of a tuple as data -/
class EqT {α : Type} (K : PySem.W.Frag) (r : α → Hp → List V → Prop) where
  toD : α → List PyData
  ok : α → Prop
  dep : Nat
  dp : ∀ {x G H vs}, r x G vs → Same G H → DpAll K H vs (toD x)
  lay : ∀ {x}, ok x → PyData.canLayAll0 (toD x) = true
  deep : ∀ x, PyData.depthAll (toD x) ≤ dep
  eqv : ∀ x y, PyData.eqvAll (toD x) (toD y) = true ↔ x = y
instance (K : PySem.W.Frag) {α : Type} (r : α → Hp → V → Prop) [q : EqR K r] : EqT K (c0 r) where
  toD x := [q.toD x]
  ok x := q.ok x
  dep := q.dep
  dp h s := by
    obtain ⟨v, rfl, h1⟩ := h
    exact .cons (q.dp h1 s) .nil
  lay h := by
    unfold PyData.canLayAll0
    rw [q.lay h]
    rfl
  deep x := by
    unfold PyData.depthAll
    exact Nat.max_le.mpr ⟨q.deep x, by unfold PyData.depthAll; omega⟩
  eqv x y := by
    unfold PyData.eqvAll
    rw [Bool.and_eq_true, q.eqv]
    exact ⟨fun h => h.1, fun h => ⟨h, by unfold PyData.eqvAll; rfl⟩⟩
instance (K : PySem.W.Frag) {α β : Type} (r : α → Hp → V → Prop) (r' : β → Hp → List V → Prop) [q : EqR K r] [q' : EqT K r'] : EqT K (cc r r') where
  toD x := q.toD x.1 :: q'.toD x.2
  ok x := q.ok x.1 ∧ q'.ok x.2
  dep := max q.dep q'.dep
  dp h s := by
    obtain ⟨v, ws, rfl, h1, h2⟩ := h
    exact .cons (q.dp h1 s) (q'.dp h2 s)
  lay h := by
    unfold PyData.canLayAll0
    rw [q.lay h.1, q'.lay h.2]
    rfl
  deep x := by
    unfold PyData.depthAll
    have h1 := q.deep x.1
    have h2 := q'.deep x.2
    exact Nat.max_le.mpr ⟨Nat.le_trans h1 (Nat.le_max_left _ _), Nat.le_trans h2 (Nat.le_max_right _ _)⟩
  eqv x y := by
    unfold PyData.eqvAll
    rw [Bool.and_eq_true, q.eqv, q'.eqv]
    exact ⟨fun h => Prod.ext h.1 h.2, fun h => by rw [h]; exact ⟨rfl, rfl⟩⟩
instance (K : PySem.W.Frag) {α : Type} (r : α → Hp → List V → Prop) [q : EqT K r] : EqR K (rT K r) where
  toD x := .tuple (q.toD x)
  ok x := q.ok x
  dep := q.dep + 1
  dp h s := by
    obtain ⟨a, vs, rfl, h1, h2⟩ := h
    exact .tup (seqT s h1) (q.dp h2 s)
  lay h := by
    unfold PyData.canLay0
    exact q.lay h
  deep x := by
    unfold PyData.depth
    have := q.deep x
    omega
  eqv x y := by
    unfold PyData.eqv
    rw [q.eqv]
section
variable {X : Cx} {σ : L2.St} {G : Hp} {cs : Cells} {a b : Expr} {pos : Pos} {α : Type} {r : α → Hp → V → Prop} {x y : α}
theorem shp {K : PySem.W.Frag} [q : EqR K r] (h : q.ok x) (hd : q.dep ≤ 64) : SeqAt.shaped (q.toD x) = true := by
  unfold SeqAt.shaped
  rw [q.lay h, decide_eq_true (Nat.le_trans (q.deep x) hd)]
  rfl
theorem eqv_dec {K : PySem.W.Frag} [q : EqR K r] [DecidableEq α] : PyData.eqv (q.toD x) (q.toD y) = decide (x = y) := by
  by_cases h : x = y
  · rw [decide_eq_true h, (q.eqv x y).mpr h]
  · rw [decide_eq_false h]
    cases e : PyData.eqv (q.toD x) (q.toD y) with
    | false => rfl
    | true => exact absurd ((q.eqv x y).mp e) h
variable [DecidableEq α] [∀ z, Mono (r z)] {k : Nat}
theorem d_eqD {K : PySem.W.Frag} [q : EqR K r] (hr : Room k X.A) (ha : D X a σ G cs (r x)) (hb : D X b σ G cs (r y)) (hx : q.ok x) (hy : q.ok y) (hd : q.dep ≤ 64 := by exact Nat.le_of_ble_eq_true rfl) (hK : X.K = K := by rfl) : D X (.Compare a [.Eq] [b] pos) σ G cs (rB (decide (x = y))) := by
  subst hK
  exact d_cmp (op_eqD (Nat.lt_of_le_of_lt (by omega) hr.un)) (nomark _) ha hb fun G1 H u v s d hu hv Q qq => ⟨_, _, q.dp hu d.same, q.dp hv d.same, shp hx hd, shp hy hd, by rw [eqv_dec]; exact qq⟩
theorem t_eqD {K : PySem.W.Frag} [q : EqR K r] (hr : Room k X.A) (ha : D X a σ G cs (r x)) (hb : D X b σ G cs (r y)) (hx : q.ok x) (hy : q.ok y) (hd : q.dep ≤ 64 := by exact Nat.le_of_ble_eq_true rfl) (hK : X.K = K := by rfl) : T X (.Compare a [.Eq] [b] pos) σ G cs (decide (x = y)) := by
  subst hK
  exact t_cmp (op_eqD (Nat.lt_of_le_of_lt (by omega) hr.un)) (nomark _) ha hb fun G1 H u v s d hu hv Q qq => ⟨_, _, q.dp hu d.same, q.dp hv d.same, shp hx hd, shp hy hd, by rw [eqv_dec]; exact qq⟩
theorem d_neD {K : PySem.W.Frag} [q : EqR K r] (hr : Room k X.A) (ha : D X a σ G cs (r x)) (hb : D X b σ G cs (r y)) (hx : q.ok x) (hy : q.ok y) (hd : q.dep ≤ 64 := by exact Nat.le_of_ble_eq_true rfl) (hK : X.K = K := by rfl) : D X (.Compare a [.NotEq] [b] pos) σ G cs (rB (!decide (x = y))) := by
  subst hK
  exact d_cmp (op_neD (Nat.lt_of_le_of_lt (by omega) hr.un)) (nomark _) ha hb fun G1 H u v s d hu hv Q qq => ⟨_, _, q.dp hu d.same, q.dp hv d.same, shp hx hd, shp hy hd, by rw [eqv_dec]; exact qq⟩
theorem t_neD {K : PySem.W.Frag} [q : EqR K r] (hr : Room k X.A) (ha : D X a σ G cs (r x)) (hb : D X b σ G cs (r y)) (hx : q.ok x) (hy : q.ok y) (hd : q.dep ≤ 64 := by exact Nat.le_of_ble_eq_true rfl) (hK : X.K = K := by rfl) : T X (.Compare a [.NotEq] [b] pos) σ G cs (!decide (x = y)) := by
  subst hK
  exact t_cmp (op_neD (Nat.lt_of_le_of_lt (by omega) hr.un)) (nomark _) ha hb fun G1 H u v s d hu hv Q qq => ⟨_, _, q.dp hu d.same, q.dp hv d.same, shp hx hd, shp hy hd, by rw [eqv_dec]; exact qq⟩
end
/-! ### places, by the whole numbers that name them -/
def ixg {α : Type} [Inhabited α] (xs : List α) (i : Int) : α := (atI xs i).getD default
theorem atI_ixg {α : Type} [Inhabited α] {xs : List α} {i : Int} (h : -(xs.length : Int) ≤ i ∧ i < (xs.length : Int)) : atI xs i = some (ixg xs i) := by
  unfold ixg
  have : ∃ x, atI xs i = some x := by
    by_cases h0 : 0 ≤ i
    · exact ⟨_, atI_lt h0 h.2⟩
    · have e : i = -((-i).toNat : Int) := by omega
      rw [e]
      exact ⟨_, atI_neg (by omega) (by omega)⟩
  obtain ⟨x, e⟩ := this
  rw [e]
  rfl
theorem ixg_nat {α : Type} [Inhabited α] {xs : List α} {i : Int} (h0 : 0 ≤ i) (h1 : i < (xs.length : Int)) : ixg xs i = xs.getD i.toNat default := by
  unfold ixg
  rw [atI_lt h0 h1]
  rfl
theorem ixg_mem {α : Type} [Inhabited α] {xs : List α} {i : Int} (h0 : 0 ≤ i) (h1 : i < (xs.length : Int)) : ixg xs i ∈ xs := by
  rw [ixg_nat h0 h1]
  have h : i.toNat < xs.length := by omega
  have e : xs.getD i.toNat default = xs[i.toNat] := by simp [h]
  rw [e]
  exact List.getElem_mem h
end J

namespace J
open PySem L2 PyProof.Rows
section
variable {ε S L R : Type} {X : Cx} {W : ε → L2.St → Hp → Prop} {σ : L2.St} {G : Hp} {cs : Cells} {Φ : Po ε S L R} {m : Out ε S L R} {sts rest : List Stmt} {e tg : Expr} {P : Hp → V → Prop} {pos p : Pos}
theorem letV_intro {α : Type} {y : α} {f : α → Out ε S L R} (h : ∀ z, z = y → B X W sts σ G cs Φ (f z)) : B X W sts σ G cs Φ (letV y f) := h y rfl
theorem b_augAddV (i : Nat) {x : Str} {p' : Pos} {z y : Int} {f : Int → Out ε S L R} (hN : X.N.Nodup) (hz : σ[i]? = some (some (.int z))) (he : D X e σ G cs (rI y)) (k : ∀ u, u = z + y → ∀ G1, Same G G1 → B X W rest (σ.set i (some (.int u))) G1 cs Φ (f u)) (hi : X.N[i]? = some x := by rfl) (hx : Loc X.env.scope x := by first | exact Or.inl rfl | exact Or.inr rfl)
    (hf : X.fn x = true ∨ X.env.scope.names.lookup x = some .local := by first | exact .inl rfl | exact .inr rfl) : B X W (.AugAssign (.Name x p') .Add e pos :: rest) σ G cs Φ (letV (z + y) f) :=
  b_augAdd i hN hz he (fun G1 s1 => k _ rfl G1 s1) hi hx hf
theorem b_augSubV (i : Nat) {x : Str} {p' : Pos} {z y : Int} {f : Int → Out ε S L R} (hN : X.N.Nodup) (hz : σ[i]? = some (some (.int z))) (he : D X e σ G cs (rI y)) (k : ∀ u, u = z - y → ∀ G1, Same G G1 → B X W rest (σ.set i (some (.int u))) G1 cs Φ (f u)) (hi : X.N[i]? = some x := by rfl) (hx : Loc X.env.scope x := by first | exact Or.inl rfl | exact Or.inr rfl)
    (hf : X.fn x = true ∨ X.env.scope.names.lookup x = some .local := by first | exact .inl rfl | exact .inr rfl) : B X W (.AugAssign (.Name x p') .Sub e pos :: rest) σ G cs Φ (letV (z - y) f) :=
  b_augSub i hN hz he (fun G1 s1 => k _ rfl G1 s1) hi hx hf
theorem b_asgV {α : Type} {r : α → Hp → V → Prop} {y : α} {f : α → Out ε S L R} {Sx : α → Hp → L2.St → L2.St → Prop} (he : D X e σ G cs (r y)) (ht : Tg X tg r Sx) (k : ∀ z, z = y → ∀ σ' G1, Same G G1 → Sx z G1 σ σ' → B X W rest σ' G1 cs Φ (f z))
    (hs : swapsWithSole [tg] e pos.line X.env = pure false := by rfl) (hw : swappedStores [tg] e X.env = pure none := by rfl) (h1 : (assignEach [tg] X.env).map (·.2) = [assign tg X.env] := by rfl) : B X W (.Assign [tg] e pos :: rest) σ G cs Φ (letV y f) :=
  b_asg he ht (fun σ' G1 s1 h => k y rfl σ' G1 s1 h) hs hw h1
end
theorem wipe1 {σ : L2.St} {i : Nat} {x : Option V} : wipe ((wipe σ [i]).set i x) [i] = wipe σ [i] := by
  show (((σ.set i none).set i x).set i none) = σ.set i none
  rw [List.set_set, List.set_set]
theorem divS {i j : Int} (h : 0 < j) (hb : j < 2 ^ 62) : CDivW i j := wide_div (b := 62) h (by omega) (by decide) (by decide)
theorem pk_true {X : Cx} {kn : Option Str} {jj : Nat} {p2 p3 : Pos} : PK X [⟨kn, .Constant (.bool true) jj p2, p3⟩] (fun _ H Q => Q [.bl true] H) := pk_cons pe_bl pk_nil
end J
namespace J
theorem enum_mem {α : Type} {xs : List α} {p : Int × α} (h : p ∈ enumL xs) : p.2 ∈ xs := by
  obtain ⟨i, hi⟩ := List.getElem?_of_mem h
  exact List.mem_of_getElem? (enumL_getE hi).2
theorem enum_bd {α : Type} {xs : List α} {p : Int × α} (h : p ∈ enumL xs) : 0 ≤ p.1 ∧ p.1 < (xs.length : Int) := by
  obtain ⟨i, hi⟩ := List.getElem?_of_mem h
  obtain ⟨e1, e2⟩ := enumL_getE hi
  have := (List.getElem?_eq_some_iff.mp e2).1
  omega
end J
namespace J
theorem ix_mod {a : Int} {n : Nat} (h : 0 < n) : -(n : Int) ≤ a % (n : Int) ∧ a % (n : Int) < (n : Int) := by
  have h1 := Int.emod_nonneg a (show (n : Int) ≠ 0 by omega)
  have h2 := Int.emod_lt_of_pos a (show (0 : Int) < n by omega)
  omega
/-- a loop that always goes on is a fold -/
theorem forL_fold {ε S L R α : Type} {f : S → α → Out ε S S R} {g : S → α → S} : ∀ {xs : List α} {s : S}, (∀ s x, x ∈ xs → f s x = .nx (g s x)) → (forL f s xs : Out ε S L R) = .nx (xs.foldl g s)
  | [], _, _ => rfl
  | x :: xs, s, h => by
    rw [forL_cons, h s x List.mem_cons_self]
    exact forL_fold fun s y hy => h s y (List.mem_cons_of_mem _ hy)
/-- an invariant of a loop that always goes on -/
theorem forL_inv {ε S L R α : Type} {f : S → α → Out ε S S R} (P : Nat → S → Prop) : ∀ {xs : List α} {s : S} {n : Nat}, P n s → (∀ n s x, x ∈ xs → P n s → ∃ s', f s x = .nx s' ∧ P (n + 1) s') → ∃ s', (forL f s xs : Out ε S L R) = .nx s' ∧ P (n + xs.length) s'
  | [], s, n, h, _ => ⟨s, rfl, h⟩
  | x :: xs, s, n, h, st => by
    obtain ⟨s1, e1, h1⟩ := st n s x List.mem_cons_self h
    obtain ⟨s2, e2, h2⟩ := forL_inv (L := L) P (xs := xs) h1 fun n s y hy => st n s y (List.mem_cons_of_mem _ hy)
    refine ⟨s2, ?_, ?_⟩
    · rw [forL_cons, e1]
      exact e2
    · rw [List.length_cons, show n + (xs.length + 1) = n + 1 + xs.length by omega]
      exact h2
/-- .. by the item -/
theorem forL_all {ε S L R α : Type} {f : S → α → Out ε S S R} (P : S → Prop) {xs : List α} {s : S} (h : P s) (st : ∀ s x, x ∈ xs → P s → ∃ s', f s x = .nx s' ∧ P s') : ∃ s', (forL f s xs : Out ε S L R) = .nx s' ∧ P s' :=
  forL_inv (fun _ => P) (n := 0) h fun _ s x hx hp => st s x hx hp
end J
namespace J
theorem letV_elim {α β : Type} {y : α} {f : α → β} {m : β} (h : ∀ z, z = y → f z = m) : letV y f = m := h y rfl
theorem ifB {α : Type} {c : Bool} {a b m : α} (hc : c = false) (h : b = m) : (if c = true then a else b) = m := by
  subst hc
  rw [if_neg Bool.false_ne_true]
  exact h
theorem ifT {α : Type} {c : Bool} {a b m : α} (hc : c = true) (h : a = m) : (if c = true then a else b) = m := by
  subst hc
  rw [if_pos rfl]
  exact h
theorem bind_elim {ε S S' L R : Type} {m : Out ε S L R} {k : S → Out ε S' L R} {o : Out ε S' L R} {s : S} (e : m = .nx s) (h : k s = o) : m.bind k = o := by
  rw [e]
  exact h
/-- a loop all of whose turns go on with nothing -/
theorem forL_unit {ε L R α : Type} {f : Unit → α → Out ε Unit Unit R} {xs : List α} (h : ∀ x, x ∈ xs → f () x = .nx ()) : (forL f () xs : Out ε Unit L R) = .nx () := by
  obtain ⟨_, e, _⟩ := forL_all (L := L) (fun _ : Unit => True) (f := f) (xs := xs) (s := ()) trivial fun _ x hx _ => ⟨(), h x hx, trivial⟩
  exact e
end J

namespace Ck17
open PySem L2 PyProof.Rows J
def st_law_numbers_1 (cell_ : Int) (z20 : (Int × (List Int))) (x27 : Int) : Out Empty (Int × (List Int)) (Int × (List Int)) (List Int) :=
  if (decide (0 < z20.1)) = true then (
        letV (z20.2 ++ [(z20.1 % 10000000000000)]) fun numbers_here_36 =>
        letV (z20.1 / 10000000000000) fun rest_38 =>
        .nx (rest_38, numbers_here_36)) else (
        letV ((((cell_ * 48271) + (x27 * 69621)) + 1013) % 2147483647) fun mixed_42 =>
        letV ((((mixed_42 * mixed_42) + (8191 * x27)) + 77) % 2147483629) fun mixed_46 =>
        letV (z20.2 ++ [(((((mixed_46 * mixed_46) + mixed_46) % 2147483587) * 4001) + x27)]) fun numbers_here_53 =>
        .nx (z20.1, numbers_here_53))

def b_law_numbers (cell_ : Int) (count_ : Int) : Out Empty Unit Empty (List Int) :=
  letV 0 fun rest_1 =>
  (if (decide (1000000000000000000 ≤ cell_)) = true then (
    letV (cell_ / 1000000000000000000) fun rest_11 =>
    .nx (rest_11)) else (
    .nx (rest_1)) : Out Empty (Int) Empty (List Int)).bind fun z7 =>
  letV ([] : (List Int)) fun numbers_here_15 =>
    (forL (st_law_numbers_1 cell_) (z7, numbers_here_15) (rng 0 count_)).bind fun z20 =>
    .rt z20.2

def m_law_numbers (cell_ : Int) (count_ : Int) : (List Int) := (b_law_numbers cell_ count_).val

def pre_law_numbers (K : PySem.W.Frag) : (Int × Int) → Hp → List V → Prop := fun i G vs => ∃ v0_ v1_ : V, vs = [v0_, v1_] ∧ rI i.1 G v0_ ∧ rI i.2 G v1_ ∧ (0 ≤ i.2 ∧ i.2 ≤ 100)

abbrev sp_law_numbers (K : PySem.W.Frag) : Sp := SpP (pre_law_numbers K) (fun _ o => (rL K rI) o) fun i : (Int × Int) => m_law_numbers i.1 i.2

def st_law_tiers_1 (numbers_here_ : (List Int)) (at_ : Int) (z10 : (Int × (List (Int × Int)))) (x17 : Int) : Out Empty (Int × (List (Int × Int))) (Int × (List (Int × Int))) (List (Int × Int)) :=
  letV (z10.2 ++ [(z10.1, ((ixg numbers_here_ ((at_ + 2) + (2 * x17))) % 10001))]) fun tiers_here_24 =>
    letV (1 + ((ixg numbers_here_ ((at_ + 3) + (2 * x17))) % 9)) fun gap_26 =>
    (if (decide (((ixg numbers_here_ (at_ + 1)) % 2) = 1)) = true then (
      letV (1 + ((ixg numbers_here_ ((at_ + 3) + (2 * x17))) % 140000000)) fun gap_33 =>
      .nx (gap_33)) else (
      .nx (gap_26)) : Out Empty (Int) (Int × (List (Int × Int))) (List (Int × Int))).bind fun z32 =>
    letV (z10.1 + z32) fun start_37 =>
      .nx (start_37, tiers_here_24)

def b_law_tiers (numbers_here_ : (List Int)) (at_ : Int) : Out Empty Unit Empty (List (Int × Int)) :=
  letV 0 fun start_1 =>
  letV ([] : (List (Int × Int))) fun tiers_here_5 =>
  (forL (st_law_tiers_1 numbers_here_ at_) (start_1, tiers_here_5) (rng 0 (1 + ((ixg numbers_here_ at_) % 8)))).bind fun z10 =>
  .rt z10.2

def m_law_tiers (numbers_here_ : (List Int)) (at_ : Int) : (List (Int × Int)) := (b_law_tiers numbers_here_ at_).val

def pre_law_tiers (K : PySem.W.Frag) : ((List Int) × Int) → Hp → List V → Prop := fun i G vs => ∃ v0_ v1_ : V, vs = [v0_, v1_] ∧ (rL K rI) i.1 G v0_ ∧ rI i.2 G v1_ ∧ (i.1.length = 24 ∧ i.2 = 0)

abbrev sp_law_tiers (K : PySem.W.Frag) : Sp := SpP (pre_law_tiers K) (fun _ o => (rL K (rT K (cc rI (c0 rI)))) o) fun i : ((List Int) × Int) => m_law_tiers i.1 i.2

def b_law_size (number_ : Int) (choice_ : Int) (tiers_here_ : (List (Int × Int))) : Out Empty Unit Empty Int :=
  if (decide ((choice_ % 2) = 1)) = true then (.rt number_) else
  .rt (if (((ixg tiers_here_ (number_ % (tiers_here_.length : Int))).1 + ((number_ / 8) % 5)) - 2) > 0 then (((ixg tiers_here_ (number_ % (tiers_here_.length : Int))).1 + ((number_ / 8) % 5)) - 2) else 0)

def m_law_size (number_ : Int) (choice_ : Int) (tiers_here_ : (List (Int × Int))) : Int := (b_law_size number_ choice_ tiers_here_).val

def pre_law_size (K : PySem.W.Frag) : (Int × Int × (List (Int × Int))) → Hp → List V → Prop := fun i G vs => ∃ v0_ v1_ v2_ : V, vs = [v0_, v1_, v2_] ∧ rI i.1 G v0_ ∧ rI i.2.1 G v1_ ∧ (rL K (rT K (cc rI (c0 rI)))) i.2.2 G v2_ ∧ (0 < i.2.2.length ∧ i.2.2.length ≤ 100)

abbrev sp_law_size (K : PySem.W.Frag) : Sp := SpP (pre_law_size K) (fun _ o => rI o) fun i : (Int × Int × (List (Int × Int))) => m_law_size i.1 i.2.1 i.2.2

def st_parts_of_1 (tiers_ : (List (Int × Int))) (size_ : Int) (z5 : (Int)) (x16 : (Int × (Int × Int))) : Out Empty (Int) (Int) Int :=
  letV size_ fun end_20 =>
    (if (decide ((x16.1 + 1) < (tiers_.length : Int))) = true then (
      letV (if (ixg tiers_ (x16.1 + 1)).1 < size_ then (ixg tiers_ (x16.1 + 1)).1 else size_) fun end_27 =>
      .nx (end_27)) else (
      .nx (end_20)) : Out Empty (Int) (Int) Int).bind fun z26 =>
    if (decide (x16.2.1 < z26)) = true then (
        letV (z5 + ((z26 - x16.2.1) * x16.2.2)) fun total_34 =>
        .nx (total_34)) else (
        .nx (z5))

def b_parts_of (tiers_ : (List (Int × Int))) (size_ : Int) : Out Empty Unit Empty Int :=
  letV 0 fun total_1 =>
  (forL (st_parts_of_1 tiers_ size_) (total_1) (enumL tiers_)).bind fun z5 =>
  .rt z5

def m_parts_of (tiers_ : (List (Int × Int))) (size_ : Int) : Int := (b_parts_of tiers_ size_).val

def pre_parts_of (K : PySem.W.Frag) : ((List (Int × Int)) × Int) → Hp → List V → Prop := fun i G vs => ∃ v0_ v1_ : V, vs = [v0_, v1_] ∧ (rL K (rT K (cc rI (c0 rI)))) i.1 G v0_ ∧ rI i.2 G v1_ ∧ (∀ t ∈ i.1, 0 ≤ t.2 ∧ t.2 ≤ 10000)

abbrev sp_parts_of (K : PySem.W.Frag) : Sp := SpP (pre_parts_of K) (fun _ o => rI o) fun i : ((List (Int × Int)) × Int) => m_parts_of i.1 i.2

def st_law_1  (z1 : Unit) (x14 : Int) : Out Empty Unit Unit Bool :=
  letV (m_law_numbers x14 24) fun numbers_here_18 =>
    letV (m_law_tiers numbers_here_18 0) fun tiers_here_22 =>
    letV (tiers_here_22.map (fun tier_ : (Int × Int) => tier_.2)) fun rates_30 =>
    (if (decide (((ixg numbers_here_18 20) % 3) = 1)) = true then (
      letV (srt rates_30) fun rates_45 =>
      .nx (rates_45)) else (
      .nx (rates_30)) : Out Empty ((List Int)) Unit Bool).bind fun z36 =>
    (if (decide (((ixg numbers_here_18 20) % 3) = 2)) = true then (
        letV (srtR z36) fun rates_60 =>
        .nx (rates_60)) else (
        .nx (z36)) : Out Empty ((List Int)) Unit Bool).bind fun z51 =>
      letV ((rng 0 (tiers_here_22.length : Int)).map (fun k_ : Int => ((ixg tiers_here_22 k_).1, (ixg z51 k_)))) fun tiers_here_68 =>
        letV (m_law_size (ixg numbers_here_18 21) (ixg numbers_here_18 23) tiers_here_68) fun one_72 =>
        letV (m_law_size (ixg numbers_here_18 22) ((ixg numbers_here_18 23) / 2) tiers_here_68) fun two_76 =>
        letV ((m_parts_of tiers_here_68 one_72) + (m_parts_of tiers_here_68 two_76)) fun apart_80 =>
        letV (m_parts_of tiers_here_68 (one_72 + two_76)) fun together_84 =>
        if ((decide (z51 = (srt z51))) && (decide (together_84 < apart_80))) = true then (.rt false) else
        if ((decide (z51 = (srtR z51))) && (decide (apart_80 < together_84))) = true then (.rt false) else
          if (decide ((m_parts_of tiers_here_68 (if two_76 > one_72 then two_76 else one_72)) < (m_parts_of tiers_here_68 (if two_76 < one_72 then two_76 else one_72)))) = true then (.rt false) else
            if ((decide (together_84 < ((one_72 + two_76) * (minL z51)))) || (decide (((one_72 + two_76) * (maxL z51)) < together_84))) = true then (.rt false) else
              .nx ()

def b_law (script_ : (List Int)) : Out Empty Unit Empty Bool :=
  (forL (st_law_1) () ([5] ++ script_)).bind fun z1 =>
  .rt true

def m_law (script_ : (List Int)) : Bool := (b_law script_).val

def pre_law (K : PySem.W.Frag) : ((List Int)) → Hp → List V → Prop := fun i G vs => ∃ v0_ : V, vs = [v0_] ∧ (rL K rI) i G v0_ ∧ (i.length ≤ 63)

abbrev sp_law (K : PySem.W.Frag) : Sp := SpP (pre_law K) (fun _ o => rB o) fun i : ((List Int)) => m_law i
end Ck17

namespace Ck17
open J
theorem len_numbers (c : Int) {n : Int} (h : 0 ≤ n) : (m_law_numbers c n).length = n.toNat := by
  unfold m_law_numbers b_law_numbers letV
  have key : ∀ r : Int, ∃ s, (forL (st_law_numbers_1 c) (r, []) (rng 0 n) : Out Empty _ Empty (List Int)) = .nx s ∧ s.2.length = 0 + (rng 0 n).length := fun r =>
    forL_inv (fun k (s : Int × List Int) => s.2.length = k) (n := 0) rfl fun k s x hx hp => by
      unfold st_law_numbers_1 letV
      by_cases hc : 0 < s.1
      · exact ⟨_, by rw [decide_eq_true hc]; rfl, by simp [hp]⟩
      · exact ⟨_, by rw [decide_eq_false hc]; rfl, by simp [hp]⟩
  by_cases hc : 1000000000000000000 ≤ c
  · rw [decide_eq_true hc]
    obtain ⟨s, e, hl⟩ := key (c / 1000000000000000000)
    show (Out.val (Out.bind (forL (st_law_numbers_1 c) (c / 1000000000000000000, []) (rng 0 n)) fun z => .rt z.2)).length = _
    rw [e]
    show s.2.length = _
    rw [hl, rng_length]
    omega
  · rw [decide_eq_false hc]
    obtain ⟨s, e, hl⟩ := key 0
    show (Out.val (Out.bind (forL (st_law_numbers_1 c) (0, []) (rng 0 n)) fun z => .rt z.2)).length = _
    rw [e]
    show s.2.length = _
    rw [hl, rng_length]
    omega
/-- what the drawn tiers are -/
structure Tiers (ns : List Int) (ts : List (Int × Int)) : Prop where
  len : (ts.length : Int) = 1 + ixg ns 0 % 8
  rate : ∀ t ∈ ts, 0 ≤ t.2 ∧ t.2 ≤ 10000
  up : ts.Pairwise fun a b => a.1 < b.1
  zero : ∀ t, ts[0]? = some t → t.1 = 0
structure TI (k : Nat) (s : Int × List (Int × Int)) : Prop where
  len : s.2.length = k
  rate : ∀ t ∈ s.2, 0 ≤ t.2 ∧ t.2 ≤ 10000
  up : s.2.Pairwise fun a b => a.1 < b.1
  lt : ∀ t ∈ s.2, t.1 < s.1
  zero : ∀ t, s.2[0]? = some t → t.1 = 0
  nil : s.2 = [] → s.1 = 0
theorem TI.step {k : Nat} {s : Int × List (Int × Int)} (h : TI k s) {r g : Int} (hr : 0 ≤ r) (hr2 : r ≤ 10000) (hg : 0 < g) : TI (k + 1) (s.1 + g, s.2 ++ [(s.1, r)]) := by
  obtain ⟨h1, h2, h3, h4, h5, h6⟩ := h
  refine ⟨by simp [h1], fun t ht => ?_, ?_, fun t ht => ?_, fun t ht => ?_, fun e => ?_⟩
  · rcases List.mem_append.mp ht with ht | ht
    · exact h2 t ht
    · have e : t = (s.1, r) := by simpa using ht
      subst e
      exact ⟨hr, hr2⟩
  · refine List.pairwise_append.mpr ⟨h3, List.pairwise_singleton _ _, fun a ha b hb => ?_⟩
    have e : b = (s.1, r) := by simpa using hb
    subst e
    exact h4 a ha
  · show t.1 < s.1 + g
    rcases List.mem_append.mp ht with ht | ht
    · have := h4 t ht
      omega
    · have e : t = (s.1, r) := by simpa using ht
      subst e
      show s.1 < s.1 + g
      omega
  · have ht' : (s.2 ++ [(s.1, r)])[0]? = some t := ht
    cases hs : s.2 with
    | nil =>
      rw [hs] at ht'
      have e : (s.1, r) = t := by simpa using ht'
      rw [← e]
      exact h6 hs
    | cons a l =>
      rw [hs] at ht'
      refine h5 t ?_
      rw [hs]
      simpa using ht'
  · simp at e
theorem tiers_is (ns : List Int) : Tiers ns (m_law_tiers ns 0) := by
  unfold m_law_tiers b_law_tiers letV
  have key : ∃ s, (forL (st_law_tiers_1 ns 0) (0, []) (rng 0 (1 + ixg ns 0 % 8)) : Out Empty _ Empty (List (Int × Int))) = .nx s ∧ TI (0 + (rng 0 (1 + ixg ns 0 % 8)).length) s :=
    forL_inv TI (n := 0) ⟨rfl, (by simp), (by simp), (by simp), (by simp), fun _ => rfl⟩ fun k s x hx h => by
      unfold st_law_tiers_1 letV
      have a1 := Int.emod_nonneg (ixg ns (0 + 2 + 2 * x)) (show (10001 : Int) ≠ 0 by decide)
      have a2 := Int.emod_lt_of_pos (ixg ns (0 + 2 + 2 * x)) (show (0 : Int) < 10001 by decide)
      by_cases hc : ixg ns (0 + 1) % 2 = 1
      · exact ⟨_, by rw [decide_eq_true hc]; rfl, h.step a1 (by omega) (by omega)⟩
      · exact ⟨_, by rw [decide_eq_false hc]; rfl, h.step a1 (by omega) (by omega)⟩
  obtain ⟨s, e, h⟩ := key
  have e2 : Out.val (Out.bind (forL (st_law_tiers_1 ns 0) (0, []) (rng 0 (1 + ixg ns 0 % 8))) fun z => .rt z.2) = s.2 := by
    rw [e]
    rfl
  rw [e2]
  refine ⟨?_, h.rate, h.up, h.zero⟩
  rw [h.len, rng_length]
  omega
/-- rates as good as the tiers' -/
structure Rates (n : Nat) (rs : List Int) : Prop where
  len : rs.length = n
  ok : ∀ r ∈ rs, 0 ≤ r ∧ r ≤ 10000
theorem rates_is {ns : List Int} {ts : List (Int × Int)} {rs : List Int} (h : Tiers ns ts) (e : rs = ts.map fun t => t.2) : Rates ts.length rs := by
  subst e
  refine ⟨by simp, fun r hr => ?_⟩
  obtain ⟨t, ht, rfl⟩ := List.mem_map.mp hr
  exact h.rate t ht
theorem srt_perm (rs : List Int) : (srt rs).Perm rs := List.mergeSort_perm _ _
theorem srtR_perm (rs : List Int) : (srtR rs).Perm rs := List.mergeSort_perm _ _
theorem Rates.perm {n : Nat} {rs ts : List Int} (h : Rates n rs) (p : ts.Perm rs) : Rates n ts := ⟨p.length_eq.trans h.len, fun r hr => h.ok r (p.mem_iff.mp hr)⟩
theorem rates_join {c : Bool} {n : Nat} {rs : List Int} {ε L R : Type} (z : List Int) {f : List Int → List Int} (h : Rates n rs) (e : (if c = true then (letV (f rs) fun r => .nx r) else .nx rs : Out ε (List Int) L R) = .nx z) (hf : f = srt ∨ f = srtR) : Rates n z := by
  unfold letV at e
  cases c with
  | true =>
    have e2 : f rs = z := Out.nx.inj e
    subst e2
    rcases hf with rfl | rfl
    · exact h.perm (srt_perm _)
    · exact h.perm (srtR_perm _)
  | false =>
    have e2 : rs = z := Out.nx.inj e
    subst e2
    exact h
theorem tiers2 {ns : List Int} {ts us : List (Int × Int)} {rs : List Int} (h : Tiers ns ts) (hr : Rates ts.length rs) (e : us = (rng 0 (ts.length : Int)).map fun k : Int => ((ixg ts k).1, ixg rs k)) : us.length = ts.length ∧ ∀ t ∈ us, 0 ≤ t.2 ∧ t.2 ≤ 10000 := by
  subst e
  refine ⟨by simp [rng_length], fun t ht => ?_⟩
  obtain ⟨k, hk, rfl⟩ := List.mem_map.mp ht
  have hk2 := rng_mem.mp hk
  exact hr.ok _ (ixg_mem hk2.1 (by have := hr.len; omega))
end Ck17

namespace Ck17
open J
/-! the parts of a size by its tiers, in plain words -/
def gg (a s : Int) : Int := if a < s then s - a else 0
def PP : List (Int × Int) → Int → Int
  | [], _ => 0
  | [(a, r)], s => gg a s * r
  | (a, r) :: (b, r') :: l, s => gg a (if b < s then b else s) * r + PP ((b, r') :: l) s
/-- telescoped -/
def QQ (p : Int) : List (Int × Int) → Int → Int
  | [], _ => 0
  | (b, r) :: l, s => (r - p) * gg b s + QQ r l s
theorem PP_QQ : ∀ (l : List (Int × Int)) (a r s : Int), ((a, r) :: l).Pairwise (fun x y => x.1 < y.1) → PP ((a, r) :: l) s = r * gg a s + QQ r l s
  | [], a, r, s, _ => by
    show gg a s * r = r * gg a s + 0
    rw [Int.mul_comm, Int.add_zero]
  | (b, r') :: l, a, r, s, h => by
    have hab : a < b := (List.pairwise_cons.mp h).1 (b, r') List.mem_cons_self
    show gg a (if b < s then b else s) * r + PP ((b, r') :: l) s = r * gg a s + ((r' - r) * gg b s + QQ r' l s)
    rw [PP_QQ l b r' s (List.pairwise_cons.mp h).2]
    have e : gg a (if b < s then b else s) = gg a s - gg b s := by
      unfold gg
      by_cases h1 : b < s
      · rw [if_pos h1, if_pos hab, if_pos (by omega), if_pos h1]
        omega
      · rw [if_neg h1, if_neg h1]
        omega
    rw [e, Int.sub_mul, Int.sub_mul, Int.mul_comm (gg a s) r, Int.mul_comm (gg b s) r]
    omega
theorem gg_add {a s t : Int} (h : 0 ≤ a) (hs : 0 ≤ s) (ht : 0 ≤ t) : gg a s + gg a t ≤ gg a (s + t) := by
  unfold gg
  split <;> split <;> split <;> omega
theorem gg_zero {s : Int} (hs : 0 ≤ s) : gg 0 s = s := by
  unfold gg
  split <;> omega
theorem QQ_up {s t : Int} (hs : 0 ≤ s) (ht : 0 ≤ t) : ∀ (l : List (Int × Int)) (p : Int), (∀ x ∈ l, 0 ≤ x.1) → (p :: l.map (·.2)).Pairwise (· ≤ ·) → QQ p l s + QQ p l t ≤ QQ p l (s + t)
  | [], _, _, _ => Int.le_refl _
  | (b, r) :: l, p, hb, h => by
    have h1 : p ≤ r := (List.pairwise_cons.mp h).1 r (by simp)
    have ih := QQ_up hs ht l r (fun x hx => hb x (List.mem_cons_of_mem _ hx)) (List.pairwise_cons.mp h).2
    have k := gg_add (show 0 ≤ b from hb _ List.mem_cons_self) hs ht
    have k2 := Int.mul_le_mul_of_nonneg_left k (show 0 ≤ r - p by omega)
    rw [Int.mul_add] at k2
    show (r - p) * gg b s + QQ r l s + ((r - p) * gg b t + QQ r l t) ≤ (r - p) * gg b (s + t) + QQ r l (s + t)
    omega
theorem QQ_down {s t : Int} (hs : 0 ≤ s) (ht : 0 ≤ t) : ∀ (l : List (Int × Int)) (p : Int), (∀ x ∈ l, 0 ≤ x.1) → (p :: l.map (·.2)).Pairwise (· ≥ ·) → QQ p l (s + t) ≤ QQ p l s + QQ p l t
  | [], _, _, _ => Int.le_refl _
  | (b, r) :: l, p, hb, h => by
    have h1 : r ≤ p := (List.pairwise_cons.mp h).1 r (by simp)
    have ih := QQ_down hs ht l r (fun x hx => hb x (List.mem_cons_of_mem _ hx)) (List.pairwise_cons.mp h).2
    have k := gg_add (show 0 ≤ b from hb _ List.mem_cons_self) hs ht
    have k2 := Int.mul_le_mul_of_nonneg_left k (show 0 ≤ p - r by omega)
    rw [Int.mul_add] at k2
    have e : ∀ z : Int, (r - p) * z = -((p - r) * z) := fun z => by rw [← Int.neg_mul]; congr 1; omega
    show (r - p) * gg b (s + t) + QQ r l (s + t) ≤ (r - p) * gg b s + QQ r l s + ((r - p) * gg b t + QQ r l t)
    rw [e, e, e]
    omega
theorem starts_nn {l : List (Int × Int)} {r : Int} (h : ((0, r) :: l).Pairwise (fun x y => x.1 < y.1)) : ∀ x ∈ l, 0 ≤ x.1 := fun x hx => Int.le_of_lt ((List.pairwise_cons.mp h).1 x hx)
/-- well made tiers: the first at 0, the starts grow -/
structure Good (us : List (Int × Int)) : Prop where
  ne : us ≠ []
  up : us.Pairwise fun a b => a.1 < b.1
  zero : ∀ t, us[0]? = some t → t.1 = 0
theorem Good.cons {us : List (Int × Int)} (h : Good us) : ∃ r l, us = (0, r) :: l := by
  cases us with
  | nil => exact absurd rfl h.ne
  | cons t l =>
    have e := h.zero t rfl
    obtain ⟨a, r⟩ := t
    dsimp only at e
    subst e
    exact ⟨r, l, rfl⟩
theorem PP_up {us : List (Int × Int)} (h : Good us) (ho : (us.map (·.2)).Pairwise (· ≤ ·)) {s t : Int} (hs : 0 ≤ s) (ht : 0 ≤ t) : PP us s + PP us t ≤ PP us (s + t) := by
  obtain ⟨r, l, rfl⟩ := h.cons
  rw [PP_QQ _ _ _ _ h.up, PP_QQ _ _ _ _ h.up, PP_QQ _ _ _ _ h.up, gg_zero hs, gg_zero ht, gg_zero (by omega)]
  have := QQ_up hs ht l r (starts_nn h.up) ho
  rw [Int.mul_add]
  omega
theorem PP_down {us : List (Int × Int)} (h : Good us) (ho : (us.map (·.2)).Pairwise (· ≥ ·)) {s t : Int} (hs : 0 ≤ s) (ht : 0 ≤ t) : PP us (s + t) ≤ PP us s + PP us t := by
  obtain ⟨r, l, rfl⟩ := h.cons
  rw [PP_QQ _ _ _ _ h.up, PP_QQ _ _ _ _ h.up, PP_QQ _ _ _ _ h.up, gg_zero hs, gg_zero ht, gg_zero (by omega)]
  have := QQ_down hs ht l r (starts_nn h.up) ho
  rw [Int.mul_add]
  omega
theorem gg_mono {a s t : Int} (h : s ≤ t) : gg a s ≤ gg a t := by
  unfold gg
  split <;> split <;> omega
theorem PP_mono {s t : Int} (h : s ≤ t) : ∀ (l : List (Int × Int)), (∀ x ∈ l, 0 ≤ x.2) → PP l s ≤ PP l t
  | [], _ => Int.le_refl _
  | [(a, r)], hr => Int.mul_le_mul_of_nonneg_right (gg_mono h) (hr (a, r) List.mem_cons_self)
  | (a, r) :: (b, r') :: l, hr => by
    have ih := PP_mono h ((b, r') :: l) fun x hx => hr x (List.mem_cons_of_mem _ hx)
    have k : gg a (if b < s then b else s) * r ≤ gg a (if b < t then b else t) * r := Int.mul_le_mul_of_nonneg_right (gg_mono (by split <;> split <;> omega)) (hr (a, r) List.mem_cons_self)
    show gg a (if b < s then b else s) * r + PP ((b, r') :: l) s ≤ gg a (if b < t then b else t) * r + PP ((b, r') :: l) t
    omega
/-- the size itself, tier by tier -/
def P1 : List (Int × Int) → Int → Int
  | [], _ => 0
  | [(a, _)], s => gg a s
  | (a, _) :: (b, r') :: l, s => gg a (if b < s then b else s) + P1 ((b, r') :: l) s
theorem P1_is : ∀ (l : List (Int × Int)) (a r s : Int), ((a, r) :: l).Pairwise (fun x y => x.1 < y.1) → P1 ((a, r) :: l) s = gg a s
  | [], _, _, _, _ => rfl
  | (b, r') :: l, a, r, s, h => by
    have hab : a < b := (List.pairwise_cons.mp h).1 (b, r') List.mem_cons_self
    show gg a (if b < s then b else s) + P1 ((b, r') :: l) s = gg a s
    rw [P1_is l b r' s (List.pairwise_cons.mp h).2]
    unfold gg
    by_cases h1 : b < s
    · simp only [if_pos h1, if_pos hab]
      rw [if_pos (show a < s by omega)]
      omega
    · simp only [if_neg h1]
      omega
theorem gg_nn (a s : Int) : 0 ≤ gg a s := by
  unfold gg
  split <;> omega
theorem PP_bounds {mn mx s : Int} : ∀ (l : List (Int × Int)), (∀ x ∈ l, mn ≤ x.2 ∧ x.2 ≤ mx) → P1 l s * mn ≤ PP l s ∧ PP l s ≤ P1 l s * mx
  | [], _ => by
    show (0 : Int) * mn ≤ 0 ∧ (0 : Int) ≤ 0 * mx
    rw [Int.zero_mul, Int.zero_mul]
    exact ⟨Int.le_refl _, Int.le_refl _⟩
  | [(a, r)], h => ⟨Int.mul_le_mul_of_nonneg_left (h (a, r) List.mem_cons_self).1 (gg_nn _ _), Int.mul_le_mul_of_nonneg_left (h (a, r) List.mem_cons_self).2 (gg_nn _ _)⟩
  | (a, r) :: (b, r') :: l, h => by
    obtain ⟨i1, i2⟩ := PP_bounds (mn := mn) (mx := mx) (s := s) ((b, r') :: l) fun x hx => h x (List.mem_cons_of_mem _ hx)
    have k1 := Int.mul_le_mul_of_nonneg_left (h (a, r) List.mem_cons_self).1 (gg_nn a (if b < s then b else s))
    have k2 := Int.mul_le_mul_of_nonneg_left (h (a, r) List.mem_cons_self).2 (gg_nn a (if b < s then b else s))
    dsimp only at k1 k2
    show (gg a (if b < s then b else s) + P1 ((b, r') :: l) s) * mn ≤ gg a (if b < s then b else s) * r + PP ((b, r') :: l) s ∧ gg a (if b < s then b else s) * r + PP ((b, r') :: l) s ≤ (gg a (if b < s then b else s) + P1 ((b, r') :: l) s) * mx
    rw [Int.add_mul, Int.add_mul]
    omega
/-! the loop is that -/
theorem zipIdx_cons {α : Type} (x : α) (l : List α) (n : Nat) : (x :: l).zipIdx n = (x, n) :: l.zipIdx (n + 1) := rfl
theorem loop_is (s : Int) : ∀ (l pre : List (Int × Int)) (tot : Int), (forL (st_parts_of_1 (pre ++ l) s) tot ((l.zipIdx pre.length).map fun p => ((p.2 : Int), p.1)) : Out Empty Int Empty Int) = .nx (tot + PP l s)
  | [], pre, tot => by
    show (.nx tot : Out Empty Int Empty Int) = .nx (tot + 0)
    rw [Int.add_zero]
  | t :: l, pre, tot => by
    rw [zipIdx_cons, List.map_cons, forL_cons]
    have ih := fun tot' => loop_is s l (pre ++ [t]) tot'
    have e1 : pre ++ [t] ++ l = pre ++ t :: l := by simp
    have e2 : (pre ++ [t]).length = pre.length + 1 := by simp
    rw [e1, e2] at ih
    obtain ⟨a, r⟩ := t
    have key : st_parts_of_1 (pre ++ (a, r) :: l) s tot ((pre.length : Int), (a, r)) = .nx (tot + (PP ((a, r) :: l) s - PP l s)) := by
      unfold st_parts_of_1 letV
      dsimp only
      cases l with
      | nil =>
        have hc : ¬ ((pre.length : Int) + 1 < ((pre ++ [(a, r)]).length : Int)) := by simp
        rw [decide_eq_false hc]
        show (if decide (a < s) = true then _ else _) = _
        have ep : PP [(a, r)] s - PP [] s = gg a s * r := Int.sub_zero _
        rw [ep]
        unfold gg
        by_cases h : a < s
        · rw [decide_eq_true h, if_pos rfl, if_pos h]
        · rw [decide_eq_false h, if_neg Bool.false_ne_true, if_neg h, Int.zero_mul, Int.add_zero]
      | cons b l =>
        obtain ⟨b, r'⟩ := b
        have hc : (pre.length : Int) + 1 < ((pre ++ (a, r) :: (b, r') :: l).length : Int) := by simp; omega
        rw [decide_eq_true hc]
        have hx : ixg (pre ++ (a, r) :: (b, r') :: l) ((pre.length : Int) + 1) = (b, r') := by
          rw [ixg_nat (by omega) hc]
          have e3 : ((pre.length : Int) + 1).toNat = pre.length + 1 := by omega
          rw [e3]
          simp [List.getD]
        rw [hx]
        show (if decide (a < (if b < s then b else s)) = true then _ else _) = _
        have ep : PP ((a, r) :: (b, r') :: l) s - PP ((b, r') :: l) s = gg a (if b < s then b else s) * r := by
          show gg a (if b < s then b else s) * r + PP ((b, r') :: l) s - PP ((b, r') :: l) s = _
          omega
        rw [ep]
        unfold gg
        by_cases h : a < (if b < s then b else s)
        · rw [decide_eq_true h, if_pos rfl, if_pos h]
        · rw [decide_eq_false h, if_neg Bool.false_ne_true, if_neg h, Int.zero_mul, Int.add_zero]
    rw [key]
    show (forL _ _ _ : Out Empty Int Empty Int) = _
    rw [ih]
    congr 1
    omega
theorem parts_is (us : List (Int × Int)) (s : Int) : m_parts_of us s = PP us s := by
  unfold m_parts_of b_parts_of letV
  have h := loop_is s us [] 0
  have e : (forL (st_parts_of_1 us s) 0 (enumL us) : Out Empty Int Empty Int) = .nx (0 + PP us s) := h
  show (Out.val (Out.bind (forL (st_parts_of_1 us s) 0 (enumL us)) fun z => .rt z)) = _
  rw [e]
  exact Int.zero_add _
/-! the drawn numbers are not negative -/
theorem numbers_nn (c : Int) (n : Int) : ∀ x ∈ m_law_numbers c n, 0 ≤ x := by
  unfold m_law_numbers b_law_numbers letV
  have key : ∀ r : Int, ∃ s, (forL (st_law_numbers_1 c) (r, []) (rng 0 n) : Out Empty _ Empty (List Int)) = .nx s ∧ ∀ x ∈ s.2, 0 ≤ x := fun r =>
    forL_all (fun (s : Int × List Int) => ∀ x ∈ s.2, 0 ≤ x) (by simp) fun s k hk hp => by
      unfold st_law_numbers_1 letV
      have hk0 := (rng_mem.mp hk).1
      by_cases hc : 0 < s.1
      · refine ⟨_, by rw [decide_eq_true hc]; rfl, fun x hx => ?_⟩
        rcases List.mem_append.mp hx with hx | hx
        · exact hp x hx
        · have e : x = s.1 % 10000000000000 := by simpa using hx
          rw [e]
          exact Int.emod_nonneg _ (by decide)
      · refine ⟨_, by rw [decide_eq_false hc]; rfl, fun x hx => ?_⟩
        rcases List.mem_append.mp hx with hx | hx
        · exact hp x hx
        · have e := List.mem_singleton.mp hx
          rw [e]
          have := Int.emod_nonneg ((((c * 48271 + k * 69621 + 1013) % 2147483647 * ((c * 48271 + k * 69621 + 1013) % 2147483647) + 8191 * k + 77) % 2147483629 * (((c * 48271 + k * 69621 + 1013) % 2147483647 * ((c * 48271 + k * 69621 + 1013) % 2147483647) + 8191 * k + 77) % 2147483629) + ((c * 48271 + k * 69621 + 1013) % 2147483647 * ((c * 48271 + k * 69621 + 1013) % 2147483647) + 8191 * k + 77) % 2147483629)) (show (2147483587 : Int) ≠ 0 by decide)
          omega
  by_cases hc : 1000000000000000000 ≤ c
  · rw [decide_eq_true hc]
    obtain ⟨s, e, hl⟩ := key (c / 1000000000000000000)
    show ∀ x ∈ (Out.val (Out.bind (forL (st_law_numbers_1 c) (c / 1000000000000000000, []) (rng 0 n)) fun z => .rt z.2)), _
    rw [e]
    exact hl
  · rw [decide_eq_false hc]
    obtain ⟨s, e, hl⟩ := key 0
    show ∀ x ∈ (Out.val (Out.bind (forL (st_law_numbers_1 c) (0, []) (rng 0 n)) fun z => .rt z.2)), _
    rw [e]
    exact hl
theorem size_nn {n c : Int} (ts : List (Int × Int)) (h : 0 ≤ n) : 0 ≤ m_law_size n c ts := by
  unfold m_law_size b_law_size
  by_cases hc : c % 2 = 1
  · rw [decide_eq_true hc]
    exact h
  · rw [decide_eq_false hc]
    show 0 ≤ (if _ > 0 then _ else (0 : Int))
    split <;> omega
end Ck17

namespace Ck17
open J
theorem us_good {ns : List Int} {ts us : List (Int × Int)} {rs : List Int} (h : Tiers ns ts) (hr : Rates ts.length rs) (hp : 0 < ts.length) (e : us = (rng 0 (ts.length : Int)).map fun k : Int => ((ixg ts k).1, ixg rs k)) : Good us ∧ us.map (·.2) = rs := by
  have hl : us.length = ts.length := (tiers2 h hr e).1
  have hget : ∀ i : Nat, (hi : i < ts.length) → us[i]? = some (ts[i].1, rs[i]'(by rw [hr.len]; exact hi)) := fun i hi => by
    have hk : (rng 0 (ts.length : Int))[i]? = some ((0 : Int) + (i : Int)) := rng_get (by omega)
    rw [e, List.getElem?_map, hk, Option.map_some]
    have e1 : ixg ts ((0 : Int) + (i : Int)) = ts[i] := by
      rw [ixg_nat (by omega) (by omega)]
      have : ((0 : Int) + (i : Int)).toNat = i := by omega
      rw [this]
      simp [hi]
    have e2 : ixg rs ((0 : Int) + (i : Int)) = rs[i]'(by rw [hr.len]; exact hi) := by
      rw [ixg_nat (by omega) (by rw [hr.len]; omega)]
      have : ((0 : Int) + (i : Int)).toNat = i := by omega
      rw [this]
      have hi2 : i < rs.length := by rw [hr.len]; exact hi
      simp [hi2]
    rw [e1, e2]
  refine ⟨⟨fun z => ?_, ?_, fun t ht => ?_⟩, ?_⟩
  · rw [z] at hl
    simp at hl
    omega
  · rw [List.pairwise_iff_getElem]
    intro i j hi hj hij
    have h1 := hget i (by omega)
    have h2 := hget j (by omega)
    rw [List.getElem?_eq_getElem hi] at h1
    rw [List.getElem?_eq_getElem hj] at h2
    rw [Option.some.inj h1, Option.some.inj h2]
    exact List.pairwise_iff_getElem.mp h.up i j (by omega) (by omega) hij
  · have h1 := hget 0 hp
    rw [h1] at ht
    have e3 := Option.some.inj ht
    rw [← e3]
    exact h.zero ts[0] (by simp [hp])
  · refine List.ext_getElem? fun i => ?_
    rw [List.getElem?_map]
    by_cases hi : i < ts.length
    · rw [hget i hi]
      have hi2 : i < rs.length := by rw [hr.len]; exact hi
      simp [hi2]
    · have h1 : us[i]? = none := List.getElem?_eq_none (by omega)
      have h2 : rs[i]? = none := List.getElem?_eq_none (by rw [hr.len]; omega)
      rw [h1, h2]
      rfl
theorem srt_up (rs : List Int) : (srt rs).Pairwise (· ≤ ·) := (List.pairwise_mergeSort (le := fun a b : Int => decide (a ≤ b)) (fun a b c h1 h2 => by simp at *; omega) (fun a b => by simp; omega) rs).imp fun h => of_decide_eq_true h
theorem srtR_down (rs : List Int) : (srtR rs).Pairwise (· ≥ ·) := (List.pairwise_mergeSort (le := fun a b : Int => decide (b ≤ a)) (fun a b c h1 h2 => by simp at *; omega) (fun a b => by simp; omega) rs).imp fun h => of_decide_eq_true h
theorem turn_ok (c : Int) : st_law_1 () c = .nx () := by
  unfold st_law_1
  refine letV_elim fun ns en => ?_
  have hlen : ns.length = 24 := by rw [en, len_numbers _ (by decide)]; rfl
  have hnn : ∀ x ∈ ns, 0 ≤ x := by rw [en]; exact numbers_nn c 24
  refine letV_elim fun ts et => ?_
  have ht : Tiers ns ts := by rw [et]; exact tiers_is ns
  have hp : 0 < ts.length := by have := ht.len; omega
  refine letV_elim fun rs er => ?_
  have hr := rates_is ht er
  have j1 : ∃ z, (if decide ((ixg ns 20) % 3 = 1) = true then (letV (srt rs) fun r => .nx r) else .nx rs : Out Empty (List Int) Unit Bool) = .nx z := by
    cases decide ((ixg ns 20) % 3 = 1)
    · exact ⟨_, rfl⟩
    · exact ⟨_, rfl⟩
  obtain ⟨z1, e1⟩ := j1
  refine bind_elim e1 ?_
  have hr1 := rates_join z1 hr e1 (.inl rfl)
  have j2 : ∃ z, (if decide ((ixg ns 20) % 3 = 2) = true then (letV (srtR z1) fun r => .nx r) else .nx z1 : Out Empty (List Int) Unit Bool) = .nx z := by
    cases decide ((ixg ns 20) % 3 = 2)
    · exact ⟨_, rfl⟩
    · exact ⟨_, rfl⟩
  obtain ⟨z2, e2⟩ := j2
  refine bind_elim e2 ?_
  have hr2 := rates_join z2 hr1 e2 (.inr rfl)
  refine letV_elim fun us eu => ?_
  obtain ⟨hG, hm⟩ := us_good ht hr2 hp eu
  have hT := (tiers2 ht hr2 eu).2
  refine letV_elim fun s es => ?_
  refine letV_elim fun t et2 => ?_
  have hs : 0 ≤ s := by rw [es]; exact size_nn _ (hnn _ (ixg_mem (by decide) (by rw [hlen]; decide)))
  have ht0 : 0 ≤ t := by rw [et2]; exact size_nn _ (hnn _ (ixg_mem (by decide) (by rw [hlen]; decide)))
  refine letV_elim fun ap ea => ?_
  refine letV_elim fun tg eg => ?_
  rw [parts_is, parts_is] at ea
  rw [parts_is] at eg
  have hz : 0 < z2.length := by rw [hr2.len]; exact hp
  refine ifB ?_ ?_
  · by_cases h : z2 = srt z2
    · have k := PP_up hG (by rw [hm, h]; exact srt_up _) hs ht0
      have : ¬ tg < ap := by omega
      simp [this]
    · simp [h]
  refine ifB ?_ ?_
  · by_cases h : z2 = srtR z2
    · have k := PP_down hG (by rw [hm, h]; exact srtR_down _) hs ht0
      have : ¬ ap < tg := by omega
      simp [this]
    · simp [h]
  refine ifB ?_ ?_
  · rw [parts_is, parts_is, decide_eq_false_iff_not]
    have k := PP_mono (s := if t < s then t else s) (t := if t > s then t else s) (by split <;> split <;> omega) us fun x hx => (hT x hx).1
    omega
  refine ifB ?_ rfl
  obtain ⟨r, l, e⟩ := hG.cons
  have hb := PP_bounds (mn := minL z2) (mx := maxL z2) (s := s + t) us fun x hx => by
    have hx2 : x.2 ∈ z2 := by rw [← hm]; exact List.mem_map.mpr ⟨x, hx, rfl⟩
    exact ⟨(minL_is hz).2 _ hx2, (maxL_is hz).2 _ hx2⟩
  have h1 : P1 us (s + t) = s + t := by
    have hup := hG.up
    rw [e] at hup ⊢
    rw [P1_is _ _ _ _ hup, gg_zero (by omega)]
  rw [h1, ← eg] at hb
  have k1 : ¬ tg < (s + t) * minL z2 := by omega
  have k2 : ¬ (s + t) * maxL z2 < tg := by omega
  simp [k1, k2]
theorem law_true (ns : List Int) : m_law ns = true := by
  unfold m_law b_law
  rw [forL_unit fun x _ => turn_ok x]
  rfl
end Ck17

namespace Ck17
open PySem L2 PyProof.Rows J
abbrev s_law_numbers : Stmt := PySem.Challenge.pw_corebank_k17_whole_splitting_a_balance.main.body.getD 3 (.Pass ⟨0, 0, 0, 0⟩)
abbrev N_law_numbers : List Str := ["_law_cell", "_law_count", "_law_rest", "_law_numbers_here", "_law_k", "_law_mixed"]
theorem sc_law_numbers : FnScope ["_law_cell", "_law_count", "_law_rest", "_law_numbers_here", "_law_k", "_law_mixed"] ["_law_cell", "_law_count"] (defScope s_law_numbers) := ⟨rfl, rfl, rfl, by decide +kernel, rfl, by decide +kernel, by decide +kernel⟩
theorem ok_law_numbers {P : Program} {w : World} {K : PySem.W.Frag} {mg : Str → Option Value} {base : Heap} {f : Addr} {fd : FuncData} (F : Fun K "_law_numbers" "_law_numbers" s_law_numbers f fd) (b : Binds K fd ["_law_cell", "_law_count"] []) (hmg : mg "_law_numbers" = some (.ref f)) (m_int : mg "int" = none) (m_range : mg "range" = none) :
    Fn0 P w K mg base CX0 1 "_law_numbers" 2 (sp_law_numbers K) := by
  have hsl := sizeLine_eq
  refine fn_mk F sc_law_numbers b hmg (fun i : (Int × Int) => b_law_numbers i.1 i.2) (fun i G vs h => ?_) (fun cdv A outer s H E i G cs vs hr hp => ?_)
  · obtain ⟨v0_, v1_, h, _⟩ := h
    rw [h]
    rfl
  obtain ⟨cell_, count_⟩ := i
  obtain ⟨v0_, v1_, rfl, h0_, h1_, hpre⟩ := hp
  cases h0_
  cases h1_
  show B _ _ _ [some (.int cell_), some (.int count_), none, none, none, none] G cs _ (b_law_numbers cell_ count_)
  unfold b_law_numbers
  try dsimp only at hpre
  refine b_setV (r := rI) 2 sc_law_numbers.nd d_int (fun rest_1 erest_1 v3 Gs2 s2 h4 => ?_)
  cases h4
  refine b_if (S' := (Int)) (fun (z7 : (Int)) σ_ G_ cs_ => ∃ o8 : Option V, ∃ o9 : Option V, ∃ o10 : Option V, σ_ = [some (.int cell_), some (.int count_), some (.int z7), o8, o9, o10] ∧ cs = cs_) (t_cmp op_ge (nomark _) (d_var 0 (P := rI cell_) rfl rfl) (d_pow (z := 1000000000000000000) d_int d_int ⟨by decide, by decide, by decide⟩ (by decide +kernel)) fun _ _ _ _ _ _ hx hy _ q => c_ge hx hy q) ?_ ?_ ?_
  · intro hc5 Gs6 s6
    have dhc5 := hc5
    try simp only [decide_eq_true_eq, decide_eq_false_iff_not, Bool.and_eq_true, Bool.and_eq_false_imp, Bool.or_eq_true, Bool.or_eq_false_iff, Bool.not_eq_true', Bool.not_eq_false', Bool.not_not, ne_eq, Int.not_lt, Int.not_le] at dhc5
    refine b_setV (r := rI) 2 sc_law_numbers.nd (d_fdiv (d_var 0 (P := rI cell_) rfl rfl) (d_pow (z := 1000000000000000000) d_int d_int ⟨by decide, by decide, by decide⟩ (by decide +kernel)) (divW (by decide) (by decide +kernel))) (fun rest_11 erest_11 v13 Gs12 s12 h14 => ?_)
    cases h14
    exact b_nil (by refine ⟨_, _, _, rfl, rfl⟩)
  · intro hc5 Gs6 s6
    have dhc5 := hc5
    try simp only [decide_eq_true_eq, decide_eq_false_iff_not, Bool.and_eq_true, Bool.and_eq_false_imp, Bool.or_eq_true, Bool.or_eq_false_iff, Bool.not_eq_true', Bool.not_eq_false', Bool.not_not, ne_eq, Int.not_lt, Int.not_le] at dhc5
    exact b_nil (by refine ⟨_, _, _, rfl, rfl⟩)
  · intro z7 _ _ _ sz7 hNz7 hmz7
    obtain ⟨o8, o9, o10, rfl, rfl⟩ := hNz7
    refine b_setN 3 sc_law_numbers.nd (n_lst (r := rI) (xs := ([] : (List Int))) a_nil ls_n) (fun l16 us17 Gs18 s18 h19 => ?_)
    refine letV_intro (fun numbers_here_15 enumbers_here_15 => ?_)
    rw [← enumbers_here_15] at h19
    have nnumbers_here_15 : numbers_here_15.length = 0 := by rw [enumbers_here_15]; rfl
    refine b_for (f := (st_law_numbers_1 cell_)) (s0 := (z7, numbers_here_15)) (xs := (rng 0 count_)) (fun n_ (z20 : (Int × (List Int))) σ_ G_ cs_ => ∃ us23 : List V, ∃ o25 : Option V, ∃ o26 : Option V, σ_ = [some (.int cell_), some (.int count_), some (.int z20.1), some (.ref l16), o25, o26] ∧ (l16, HO.lst us23) :: cs = cs_ ∧ Rs rI G_ z20.2 us23 ∧ z20.2.length ≤ numbers_here_15.length + 1 * n_) (i_rng1 m_range (d_var 1 (P := rI count_) rfl rfl) (by omega) (by omega)) (tg_name 4 sc_law_numbers.nd) rfl PassesOwn.never ?_ ?_ ?_ ?_
    · intro _ s55
      exact ⟨_, _, _, rfl, rfl, (Rs.mono s55 h19), Nat.le_add_right _ _⟩
    · intro _ _ _ _ _ _
      trivial
    · intro pre_ x27 post_ z20 _ _ _ _ _ hxsz20 hrez20 s28 hNz20 s29 hSz20
      obtain ⟨us23, o25, o26, rfl, rfl, h24, hbz20⟩ := hNz20
      obtain ⟨v21, h22, rfl⟩ := hSz20
      have hltz20 : pre_.length < (rng 0 count_).length := by rw [hxsz20, List.length_append, List.length_cons]; omega
      have hmemz20 : x27 ∈ (rng 0 count_) := by rw [hxsz20]; exact List.mem_append_right _ List.mem_cons_self
      try simp only [rng_length, rng_mem, enumL_length] at hltz20 hmemz20
      show B _ _ _ _ _ _ _ (st_law_numbers_1 cell_ z20 x27)
      unfold st_law_numbers_1
      cases h22
      refine b_ifl (t_cmp op_gt (nomark _) (d_var 2 (P := rI z20.1) rfl rfl) d_int fun _ _ _ _ _ _ hx hy _ q => c_gt hx hy q) ?_ ?_
      · intro hc31 Gs32 s32
        have dhc31 := hc31
        try simp only [decide_eq_true_eq, decide_eq_false_iff_not, Bool.and_eq_true, Bool.and_eq_false_imp, Bool.or_eq_true, Bool.or_eq_false_iff, Bool.not_eq_true', Bool.not_eq_false', Bool.not_not, ne_eq, Int.not_lt, Int.not_le] at dhc31
        refine b_app 0 (P := rI (z20.1 % 10000000000000)) rfl (d_var 3 (P := rV (.ref l16)) rfl rfl) (d_mod (d_int1 m_int (d_var 2 (P := rI z20.1) rfl rfl)) (d_pow (z := 10000000000000) d_int d_int ⟨by decide, by decide, by decide⟩ (by decide +kernel)) (by decide)) (by have hq := Rs.length h24; omega) (fun v33 Gs34 s34 h35 => ?_)
        have h37 := Rs.snoc h35 (Rs.mono (s29.trans (s32.trans s34)) h24)
        refine letV_intro (fun numbers_here_36 enumbers_here_36 => ?_)
        rw [← enumbers_here_36] at h37
        have nnumbers_here_36 : numbers_here_36.length = z20.2.length + 1 := by rw [enumbers_here_36, List.length_append]; rfl
        refine b_setV (r := rI) 2 sc_law_numbers.nd (d_fdiv (d_var 2 (P := rI z20.1) rfl rfl) (d_pow (z := 10000000000000) d_int d_int ⟨by decide, by decide, by decide⟩ (by decide +kernel)) (divW (by decide) (by decide +kernel))) (fun rest_38 erest_38 v40 Gs39 s39 h41 => ?_)
        cases h41
        exact b_nil (by refine ⟨_, _, _, rfl, rfl, (Rs.mono s39 h37), by first | omega | (simp only [List.length_append, List.length_cons, List.length_nil] at *; omega)⟩)
      · intro hc31 Gs32 s32
        have dhc31 := hc31
        try simp only [decide_eq_true_eq, decide_eq_false_iff_not, Bool.and_eq_true, Bool.and_eq_false_imp, Bool.or_eq_true, Bool.or_eq_false_iff, Bool.not_eq_true', Bool.not_eq_false', Bool.not_not, ne_eq, Int.not_lt, Int.not_le] at dhc31
        refine b_setV (r := rI) 5 sc_law_numbers.nd (d_mod (d_int1 m_int (d_add (d_add (d_mul (d_var 0 (P := rI cell_) rfl rfl) d_int (.inr ⟨by omega, by omega⟩)) (d_mul (d_var 4 (P := rI x27) rfl rfl) d_int (.inr ⟨by omega, by omega⟩))) d_int)) d_int (by decide)) (fun mixed_42 emixed_42 v44 Gs43 s43 h45 => ?_)
        cases h45
        refine b_setV (r := rI) 5 sc_law_numbers.nd (d_mod (d_int1 m_int (d_add (d_add (d_mul (d_var 5 (P := rI mixed_42) rfl rfl) (d_var 5 (P := rI mixed_42) rfl rfl) (by first | exact .inr ⟨by omega, by omega⟩ | exact .inl ⟨by omega, by omega⟩)) (d_mul d_int (d_var 4 (P := rI x27) rfl rfl) (.inl ⟨by omega, by omega⟩))) d_int)) d_int (by decide)) (fun mixed_46 emixed_46 v48 Gs47 s47 h49 => ?_)
        cases h49
        refine b_app 0 (P := rI (((((mixed_46 * mixed_46) + mixed_46) % 2147483587) * 4001) + x27)) rfl (d_var 3 (P := rV (.ref l16)) rfl rfl) (d_add (d_mul (d_mod (d_int1 m_int (d_add (d_mul (d_var 5 (P := rI mixed_46) rfl rfl) (d_var 5 (P := rI mixed_46) rfl rfl) (by first | exact .inr ⟨by omega, by omega⟩ | exact .inl ⟨by omega, by omega⟩)) (d_var 5 (P := rI mixed_46) rfl rfl))) d_int (by decide)) d_int (.inr ⟨by omega, by omega⟩)) (d_var 4 (P := rI x27) rfl rfl)) (by have hq := Rs.length h24; omega) (fun v50 Gs51 s51 h52 => ?_)
        have h54 := Rs.snoc h52 (Rs.mono (s29.trans (s32.trans (s43.trans (s47.trans s51)))) h24)
        refine letV_intro (fun numbers_here_53 enumbers_here_53 => ?_)
        rw [← enumbers_here_53] at h54
        have nnumbers_here_53 : numbers_here_53.length = z20.2.length + 1 := by rw [enumbers_here_53, List.length_append]; rfl
        exact b_nil (by refine ⟨_, _, _, rfl, rfl, h54, by first | omega | (simp only [List.length_append, List.length_cons, List.length_nil] at *; omega)⟩)
    · intro n_ z20 _ _ _ hnz20 s56 hNz20 hfz20
      obtain ⟨us23, o25, o26, rfl, rfl, h24, hbz20⟩ := hNz20
      try simp only [rng_length, enumL_length] at hnz20
      have hzs57 := h24
      refine b_freeze 0 rfl (fun s57 h58 => ?_)
      have kh58 : (rL K rI) z20.2 _ (.ref l16) := ⟨_, _, rfl, SqL.of h58, Rs.mono s57 hzs57⟩
      exact b_ret (P := (rL K rI) z20.2) (d_var 3 (P := (rL K rI) z20.2) rfl kh58) (fun _ _ _ h => ⟨⟨[], rfl⟩, h⟩)
end Ck17

namespace Ck17
open PySem L2 PyProof.Rows J
abbrev s_law_tiers : Stmt := PySem.Challenge.pw_corebank_k17_whole_splitting_a_balance.main.body.getD 4 (.Pass ⟨0, 0, 0, 0⟩)
abbrev N_law_tiers : List Str := ["_law_numbers_here", "_law_at", "_law_start", "_law_tiers_here", "_law_k", "_law_gap"]
theorem sc_law_tiers : FnScope ["_law_numbers_here", "_law_at", "_law_start", "_law_tiers_here", "_law_k", "_law_gap"] ["_law_numbers_here", "_law_at"] (defScope s_law_tiers) := ⟨rfl, rfl, rfl, by decide +kernel, rfl, by decide +kernel, by decide +kernel⟩
theorem ok_law_tiers {P : Program} {w : World} {K : PySem.W.Frag} {mg : Str → Option Value} {base : Heap} {f : Addr} {fd : FuncData} (F : Fun K "_law_tiers" "_law_tiers" s_law_tiers f fd) (b : Binds K fd ["_law_numbers_here", "_law_at"] []) (hmg : mg "_law_tiers" = some (.ref f)) (m_range : mg "range" = none) :
    Fn0 P w K mg base CX0 1 "_law_tiers" 2 (sp_law_tiers K) := by
  have hsl := sizeLine_eq
  refine fn_mk F sc_law_tiers b hmg (fun i : ((List Int) × Int) => b_law_tiers i.1 i.2) (fun i G vs h => ?_) (fun cdv A outer s H E i G cs vs hr hp => ?_)
  · obtain ⟨v0_, v1_, h, _⟩ := h
    rw [h]
    rfl
  obtain ⟨numbers_here_, at_⟩ := i
  obtain ⟨v0_, v1_, rfl, h0_, h1_, hpre⟩ := hp
  cases h1_
  show B _ _ _ [some v0_, some (.int at_), none, none, none, none] G cs _ (b_law_tiers numbers_here_ at_)
  unfold b_law_tiers
  try dsimp only at hpre
  refine b_setV (r := rI) 2 sc_law_tiers.nd d_int (fun start_1 estart_1 v3 Gs2 s2 h4 => ?_)
  cases h4
  refine b_setN 3 sc_law_tiers.nd (n_lst (r := (rT K (cc rI (c0 rI)))) (xs := ([] : (List (Int × Int)))) a_nil ls_n) (fun l6 us7 Gs8 s8 h9 => ?_)
  refine letV_intro (fun tiers_here_5 etiers_here_5 => ?_)
  rw [← etiers_here_5] at h9
  have ntiers_here_5 : tiers_here_5.length = 0 := by rw [etiers_here_5]; rfl
  refine b_for (f := (st_law_tiers_1 numbers_here_ at_)) (s0 := (start_1, tiers_here_5)) (xs := (rng 0 (1 + ((ixg numbers_here_ at_) % 8)))) (fun n_ (z10 : (Int × (List (Int × Int)))) σ_ G_ cs_ => ∃ us13 : List V, ∃ o15 : Option V, ∃ o16 : Option V, σ_ = [some v0_, some (.int at_), some (.int z10.1), some (.ref l6), o15, o16] ∧ (l6, HO.lst us13) :: cs = cs_ ∧ Rs (rT K (cc rI (c0 rI))) G_ z10.2 us13 ∧ z10.2.length ≤ tiers_here_5.length + 1 * n_) (i_rng1 m_range (d_add d_int (d_mod (d_ixL (r := rI) (D.imp (P := (rL K rI) numbers_here_) (d_var 0 (P := (rL K rI) numbers_here_) rfl (Mono.mono (s2.trans s8) h0_)) fun _ _ => rdL_of) (d_var 1 (P := rI at_) rfl rfl) (atI_ixg (by first | (constructor <;> omega) | exact ix_mod (by omega)))) d_int (by decide))) (by omega) (by omega)) (tg_name 4 sc_law_tiers.nd) rfl PassesOwn.never ?_ ?_ ?_ ?_
  · intro _ s41
    exact ⟨_, _, _, rfl, rfl, (Rs.mono s41 h9), Nat.le_add_right _ _⟩
  · intro _ _ _ _ _ _
    trivial
  · intro pre_ x17 post_ z10 _ _ _ _ _ hxsz10 hrez10 s18 hNz10 s19 hSz10
    obtain ⟨us13, o15, o16, rfl, rfl, h14, hbz10⟩ := hNz10
    obtain ⟨v11, h12, rfl⟩ := hSz10
    have hltz10 : pre_.length < (rng 0 (1 + ((ixg numbers_here_ at_) % 8))).length := by rw [hxsz10, List.length_append, List.length_cons]; omega
    have hmemz10 : x17 ∈ (rng 0 (1 + ((ixg numbers_here_ at_) % 8))) := by rw [hxsz10]; exact List.mem_append_right _ List.mem_cons_self
    try simp only [rng_length, rng_mem, enumL_length] at hltz10 hmemz10
    show B _ _ _ _ _ _ _ (st_law_tiers_1 numbers_here_ at_ z10 x17)
    unfold st_law_tiers_1
    cases h12
    refine b_app 0 (P := (rT K (cc rI (c0 rI))) (z10.1, ((ixg numbers_here_ ((at_ + 2) + (2 * x17))) % 10001))) rfl (d_var 3 (P := rV (.ref l6)) rfl rfl) (d_tup (r := (cc rI (c0 rI))) (x := (z10.1, ((ixg numbers_here_ ((at_ + 2) + (2 * x17))) % 10001))) (a_cons (P := rI z10.1) (d_var 2 (P := rI z10.1) rfl rfl) (a_cons (P := rI ((ixg numbers_here_ ((at_ + 2) + (2 * x17))) % 10001)) (d_mod (d_ixL (r := rI) (D.imp (P := (rL K rI) numbers_here_) (d_var 0 (P := (rL K rI) numbers_here_) rfl (Mono.mono (s2.trans (s8.trans (s18.trans s19))) h0_)) fun _ _ => rdL_of) (d_add (d_add (d_var 1 (P := rI at_) rfl rfl) d_int) (d_mul d_int (d_var 4 (P := rI x17) rfl rfl) (.inl ⟨by omega, by omega⟩))) (atI_ixg (by first | (constructor <;> omega) | exact ix_mod (by omega)))) d_int (by decide)) a_nil)) (tp_c tp_1)) (by have hq := Rs.length h14; omega) (fun v21 Gs22 s22 h23 => ?_)
    have h25 := Rs.snoc h23 (Rs.mono (s19.trans s22) h14)
    refine letV_intro (fun tiers_here_24 etiers_here_24 => ?_)
    rw [← etiers_here_24] at h25
    have ntiers_here_24 : tiers_here_24.length = z10.2.length + 1 := by rw [etiers_here_24, List.length_append]; rfl
    refine b_setV (r := rI) 5 sc_law_tiers.nd (d_add d_int (d_mod (d_ixL (r := rI) (D.imp (P := (rL K rI) numbers_here_) (d_var 0 (P := (rL K rI) numbers_here_) rfl (Mono.mono (s2.trans (s8.trans (s18.trans (s19.trans s22)))) h0_)) fun _ _ => rdL_of) (d_add (d_add (d_var 1 (P := rI at_) rfl rfl) d_int) (d_mul d_int (d_var 4 (P := rI x17) rfl rfl) (.inl ⟨by omega, by omega⟩))) (atI_ixg (by first | (constructor <;> omega) | exact ix_mod (by omega)))) d_int (by decide))) (fun gap_26 egap_26 v28 Gs27 s27 h29 => ?_)
    cases h29
    refine b_if (S' := (Int)) (fun (z32 : (Int)) σ_ G_ cs_ => σ_ = [some v0_, some (.int at_), some (.int z10.1), some (.ref l6), some (.int x17), some (.int z32)] ∧ (l6, HO.lst (us13 ++ [v21])) :: cs = cs_) (t_cmp op_eq (nomark _) (d_mod (d_ixL (r := rI) (D.imp (P := (rL K rI) numbers_here_) (d_var 0 (P := (rL K rI) numbers_here_) rfl (Mono.mono (s2.trans (s8.trans (s18.trans (s19.trans (s22.trans s27))))) h0_)) fun _ _ => rdL_of) (d_add (d_var 1 (P := rI at_) rfl rfl) d_int) (atI_ixg (by first | (constructor <;> omega) | exact ix_mod (by omega)))) d_int (by decide)) d_int fun _ _ _ _ _ _ hx hy _ q => c_eqI hx hy q) ?_ ?_ ?_
    · intro hc30 Gs31 s31
      have dhc30 := hc30
      try simp only [decide_eq_true_eq, decide_eq_false_iff_not, Bool.and_eq_true, Bool.and_eq_false_imp, Bool.or_eq_true, Bool.or_eq_false_iff, Bool.not_eq_true', Bool.not_eq_false', Bool.not_not, ne_eq, Int.not_lt, Int.not_le] at dhc30
      refine b_setV (r := rI) 5 sc_law_tiers.nd (d_add d_int (d_mod (d_ixL (r := rI) (D.imp (P := (rL K rI) numbers_here_) (d_var 0 (P := (rL K rI) numbers_here_) rfl (Mono.mono (s2.trans (s8.trans (s18.trans (s19.trans (s22.trans (s27.trans s31)))))) h0_)) fun _ _ => rdL_of) (d_add (d_add (d_var 1 (P := rI at_) rfl rfl) d_int) (d_mul d_int (d_var 4 (P := rI x17) rfl rfl) (.inl ⟨by omega, by omega⟩))) (atI_ixg (by first | (constructor <;> omega) | exact ix_mod (by omega)))) d_int (by decide))) (fun gap_33 egap_33 v35 Gs34 s34 h36 => ?_)
      cases h36
      exact b_nil (by refine ⟨rfl, rfl⟩)
    · intro hc30 Gs31 s31
      have dhc30 := hc30
      try simp only [decide_eq_true_eq, decide_eq_false_iff_not, Bool.and_eq_true, Bool.and_eq_false_imp, Bool.or_eq_true, Bool.or_eq_false_iff, Bool.not_eq_true', Bool.not_eq_false', Bool.not_not, ne_eq, Int.not_lt, Int.not_le] at dhc30
      exact b_nil (by refine ⟨rfl, rfl⟩)
    · intro z32 _ _ _ sz32 hNz32 hmz32
      obtain ⟨rfl, rfl⟩ := hNz32
      refine b_setV (r := rI) 2 sc_law_tiers.nd (d_add (d_var 2 (P := rI z10.1) rfl rfl) (d_var 5 (P := rI z32) rfl rfl)) (fun start_37 estart_37 v39 Gs38 s38 h40 => ?_)
      cases h40
      exact b_nil (by refine ⟨_, _, _, rfl, rfl, (Rs.mono (s27.trans (sz32.trans s38)) h25), by first | omega | (simp only [List.length_append, List.length_cons, List.length_nil] at *; omega)⟩)
  · intro n_ z10 _ _ _ hnz10 s42 hNz10 hfz10
    obtain ⟨us13, o15, o16, rfl, rfl, h14, hbz10⟩ := hNz10
    try simp only [rng_length, enumL_length] at hnz10
    have hzs43 := h14
    refine b_freeze 0 rfl (fun s43 h44 => ?_)
    have kh44 : (rL K (rT K (cc rI (c0 rI)))) z10.2 _ (.ref l6) := ⟨_, _, rfl, SqL.of h44, Rs.mono s43 hzs43⟩
    exact b_ret (P := (rL K (rT K (cc rI (c0 rI)))) z10.2) (d_var 3 (P := (rL K (rT K (cc rI (c0 rI)))) z10.2) rfl kh44) (fun _ _ _ h => ⟨⟨[], rfl⟩, h⟩)
end Ck17

namespace Ck17
open PySem L2 PyProof.Rows J
abbrev s_law_size : Stmt := PySem.Challenge.pw_corebank_k17_whole_splitting_a_balance.main.body.getD 5 (.Pass ⟨0, 0, 0, 0⟩)
abbrev N_law_size : List Str := ["_law_number", "_law_choice", "_law_tiers_here"]
theorem sc_law_size : FnScope ["_law_number", "_law_choice", "_law_tiers_here"] ["_law_number", "_law_choice", "_law_tiers_here"] (defScope s_law_size) := ⟨rfl, rfl, rfl, by decide +kernel, rfl, by decide +kernel, by decide +kernel⟩
theorem ok_law_size {P : Program} {w : World} {K : PySem.W.Frag} {mg : Str → Option Value} {base : Heap} {f : Addr} {fd : FuncData} (F : Fun K "_law_size" "_law_size" s_law_size f fd) (b : Binds K fd ["_law_number", "_law_choice", "_law_tiers_here"] []) (hmg : mg "_law_size" = some (.ref f)) (m_len : mg "len" = none) (m_max : mg "max" = none) :
    Fn0 P w K mg base CX0 1 "_law_size" 3 (sp_law_size K) := by
  have hsl := sizeLine_eq
  refine fn_mk F sc_law_size b hmg (fun i : (Int × Int × (List (Int × Int))) => b_law_size i.1 i.2.1 i.2.2) (fun i G vs h => ?_) (fun cdv A outer s H E i G cs vs hr hp => ?_)
  · obtain ⟨v0_, v1_, v2_, h, _⟩ := h
    rw [h]
    rfl
  obtain ⟨number_, choice_, tiers_here_⟩ := i
  obtain ⟨v0_, v1_, v2_, rfl, h0_, h1_, h2_, hpre⟩ := hp
  cases h0_
  cases h1_
  show B _ _ _ [some (.int number_), some (.int choice_), some v2_] G cs _ (b_law_size number_ choice_ tiers_here_)
  unfold b_law_size
  try dsimp only at hpre
  refine b_ifx (t_cmp op_eq (nomark _) (d_mod (d_var 1 (P := rI choice_) rfl rfl) d_int (by decide)) d_int fun _ _ _ _ _ _ hx hy _ q => c_eqI hx hy q) ?_ ?_
  · intro hc1 Gs2 s2
    have dhc1 := hc1
    try simp only [decide_eq_true_eq, decide_eq_false_iff_not, Bool.and_eq_true, Bool.and_eq_false_imp, Bool.or_eq_true, Bool.or_eq_false_iff, Bool.not_eq_true', Bool.not_eq_false', Bool.not_not, ne_eq, Int.not_lt, Int.not_le] at dhc1
    exact b_ret (P := rI number_) (d_var 0 (P := rI number_) rfl rfl) (fun _ _ _ h => ⟨⟨[], rfl⟩, h⟩)
  · intro hc1 Gs2 s2
    have dhc1 := hc1
    try simp only [decide_eq_true_eq, decide_eq_false_iff_not, Bool.and_eq_true, Bool.and_eq_false_imp, Bool.or_eq_true, Bool.or_eq_false_iff, Bool.not_eq_true', Bool.not_eq_false', Bool.not_not, ne_eq, Int.not_lt, Int.not_le] at dhc1
    exact b_ret (P := rI (if (((ixg tiers_here_ (number_ % (tiers_here_.length : Int))).1 + ((number_ / 8) % 5)) - 2) > 0 then (((ixg tiers_here_ (number_ % (tiers_here_.length : Int))).1 + ((number_ / 8) % 5)) - 2) else 0)) (d_max2 rfl m_max d_int (d_sub (d_add (d_ixT (r := (cc rI (c0 rI))) (x := (ixg tiers_here_ (number_ % (tiers_here_.length : Int)))) (n := 0) (P := rI ((ixg tiers_here_ (number_ % (tiers_here_.length : Int))).1)) (d_ixL (r := (rT K (cc rI (c0 rI)))) (D.imp (P := (rL K (rT K (cc rI (c0 rI)))) tiers_here_) (d_var 2 (P := (rL K (rT K (cc rI (c0 rI)))) tiers_here_) rfl (Mono.mono s2 h2_)) fun _ _ => rdL_of) (d_mod (d_var 0 (P := rI number_) rfl rfl) (d_lenL (r := (rT K (cc rI (c0 rI)))) m_len (D.imp (P := (rL K (rT K (cc rI (c0 rI)))) tiers_here_) (d_var 2 (P := (rL K (rT K (cc rI (c0 rI)))) tiers_here_) rfl (Mono.mono s2 h2_)) fun _ _ => rdL_of)) (by omega)) (atI_ixg (by first | (constructor <;> omega) | exact ix_mod (by omega)))) d_int at_z) (d_mod (d_fdiv (d_var 0 (P := rI number_) rfl rfl) d_int (divW (by decide) (by decide +kernel))) d_int (by decide))) d_int)) (fun _ _ _ h => ⟨⟨[], rfl⟩, h⟩)
end Ck17

namespace Ck17
open PySem L2 PyProof.Rows J
abbrev s_parts_of : Stmt := PySem.Challenge.pw_corebank_k17_whole_splitting_a_balance.main.body.getD 1 (.Pass ⟨0, 0, 0, 0⟩)
abbrev N_parts_of : List Str := ["tiers", "size", "total", "at", "start", "rate", "end"]
theorem sc_parts_of : FnScope ["tiers", "size", "total", "at", "start", "rate", "end"] ["tiers", "size"] (defScope s_parts_of) := ⟨rfl, rfl, rfl, by decide +kernel, rfl, by decide +kernel, by decide +kernel⟩
theorem ok_parts_of {P : Program} {w : World} {K : PySem.W.Frag} {mg : Str → Option Value} {base : Heap} {f : Addr} {fd : FuncData} (F : Fun K "parts_of" "parts_of" s_parts_of f fd) (b : Binds K fd ["tiers", "size"] []) (hmg : mg "parts_of" = some (.ref f)) (m_enumerate : mg "enumerate" = none) (m_len : mg "len" = none) (m_min : mg "min" = none) :
    Fn0 P w K mg base CX0 1 "parts_of" 2 (sp_parts_of K) := by
  have hsl := sizeLine_eq
  refine fn_mk F sc_parts_of b hmg (fun i : ((List (Int × Int)) × Int) => b_parts_of i.1 i.2) (fun i G vs h => ?_) (fun cdv A outer s H E i G cs vs hr hp => ?_)
  · obtain ⟨v0_, v1_, h, _⟩ := h
    rw [h]
    rfl
  obtain ⟨tiers_, size_⟩ := i
  obtain ⟨v0_, v1_, rfl, h0_, h1_, hpre⟩ := hp
  cases h1_
  show B _ _ _ [some v0_, some (.int size_), none, none, none, none, none] G cs _ (b_parts_of tiers_ size_)
  unfold b_parts_of
  try dsimp only at hpre
  refine b_setV (r := rI) 2 sc_parts_of.nd d_int (fun total_1 etotal_1 v3 Gs2 s2 h4 => ?_)
  cases h4
  refine b_for (f := (st_parts_of_1 tiers_ size_)) (s0 := (total_1)) (xs := (enumL tiers_)) (fun n_ (z5 : (Int)) σ_ G_ cs_ => ∃ o12 : Option V, ∃ o13 : Option V, ∃ o14 : Option V, ∃ o15 : Option V, σ_ = [some v0_, some (.int size_), some (.int z5), o12, o13, o14, o15] ∧ cs = cs_) (i_enumF (r := (rT K (cc rI (c0 rI)))) m_enumerate (d_var 0 (P := (rL K (rT K (cc rI (c0 rI)))) tiers_) rfl (Mono.mono s2 h0_))) (tg_tup rfl (tgs_c (tg_name 3 sc_parts_of.nd) (tgs_1 (tg_tup rfl (tgs_c (tg_name 4 sc_parts_of.nd) (tgs_1 (tg_name 5 sc_parts_of.nd))))))) rfl PassesOwn.never ?_ ?_ ?_ ?_
  · intro _ s35
    exact ⟨_, _, _, _, rfl, rfl⟩
  · intro _ _ _ _ _ _
    trivial
  · intro pre_ x16 post_ z5 _ _ _ _ _ hxsz5 hrez5 s17 hNz5 s18 hSz5
    obtain ⟨o12, o13, o14, o15, rfl, rfl⟩ := hNz5
    obtain ⟨_, ⟨v10, h11, rfl⟩, ⟨_, ⟨v8, h9, rfl⟩, ⟨v6, h7, rfl⟩⟩⟩ := hSz5
    have hltz5 : pre_.length < (enumL tiers_).length := by rw [hxsz5, List.length_append, List.length_cons]; omega
    have hmemz5 : x16 ∈ (enumL tiers_) := by rw [hxsz5]; exact List.mem_append_right _ List.mem_cons_self
    try simp only [rng_length, rng_mem, enumL_length] at hltz5 hmemz5
    show B _ _ _ _ _ _ _ (st_parts_of_1 tiers_ size_ z5 x16)
    unfold st_parts_of_1
    cases h11
    cases h9
    cases h7
    have hr2 := hpre _ (enum_mem hmemz5)
    have hr3 := enum_bd hmemz5
    refine b_setV (r := rI) 6 sc_parts_of.nd (d_var 1 (P := rI size_) rfl rfl) (fun end_20 eend_20 v22 Gs21 s21 h23 => ?_)
    cases h23
    refine b_if (S' := (Int)) (fun (z26 : (Int)) σ_ G_ cs_ => σ_ = [some v0_, some (.int size_), some (.int z5), some (.int x16.1), some (.int x16.2.1), some (.int x16.2.2), some (.int z26)] ∧ cs = cs_) (t_cmp op_lt (nomark _) (d_add (d_var 3 (P := rI x16.1) rfl rfl) d_int) (d_lenL (r := (rT K (cc rI (c0 rI)))) m_len (D.imp (P := (rL K (rT K (cc rI (c0 rI)))) tiers_) (d_var 0 (P := (rL K (rT K (cc rI (c0 rI)))) tiers_) rfl (Mono.mono (s2.trans (s17.trans (s18.trans s21))) h0_)) fun _ _ => rdL_of)) fun _ _ _ _ _ _ hx hy _ q => c_lt hx hy q) ?_ ?_ ?_
    · intro hc24 Gs25 s25
      have dhc24 := hc24
      try simp only [decide_eq_true_eq, decide_eq_false_iff_not, Bool.and_eq_true, Bool.and_eq_false_imp, Bool.or_eq_true, Bool.or_eq_false_iff, Bool.not_eq_true', Bool.not_eq_false', Bool.not_not, ne_eq, Int.not_lt, Int.not_le] at dhc24
      refine b_setV (r := rI) 6 sc_parts_of.nd (d_min2 rfl m_min (d_var 1 (P := rI size_) rfl rfl) (d_ixT (r := (cc rI (c0 rI))) (x := (ixg tiers_ (x16.1 + 1))) (n := 0) (P := rI ((ixg tiers_ (x16.1 + 1)).1)) (d_ixL (r := (rT K (cc rI (c0 rI)))) (D.imp (P := (rL K (rT K (cc rI (c0 rI)))) tiers_) (d_var 0 (P := (rL K (rT K (cc rI (c0 rI)))) tiers_) rfl (Mono.mono (s2.trans (s17.trans (s18.trans (s21.trans s25)))) h0_)) fun _ _ => rdL_of) (d_add (d_var 3 (P := rI x16.1) rfl rfl) d_int) (atI_ixg (by first | (constructor <;> omega) | exact ix_mod (by omega)))) d_int at_z)) (fun end_27 eend_27 v29 Gs28 s28 h30 => ?_)
      cases h30
      exact b_nil (by refine ⟨rfl, rfl⟩)
    · intro hc24 Gs25 s25
      have dhc24 := hc24
      try simp only [decide_eq_true_eq, decide_eq_false_iff_not, Bool.and_eq_true, Bool.and_eq_false_imp, Bool.or_eq_true, Bool.or_eq_false_iff, Bool.not_eq_true', Bool.not_eq_false', Bool.not_not, ne_eq, Int.not_lt, Int.not_le] at dhc24
      exact b_nil (by refine ⟨rfl, rfl⟩)
    · intro z26 _ _ _ sz26 hNz26 hmz26
      obtain ⟨rfl, rfl⟩ := hNz26
      refine b_ifl (t_cmp op_gt (nomark _) (d_var 6 (P := rI z26) rfl rfl) (d_var 4 (P := rI x16.2.1) rfl rfl) fun _ _ _ _ _ _ hx hy _ q => c_gt hx hy q) ?_ ?_
      · intro hc31 Gs32 s32
        have dhc31 := hc31
        try simp only [decide_eq_true_eq, decide_eq_false_iff_not, Bool.and_eq_true, Bool.and_eq_false_imp, Bool.or_eq_true, Bool.or_eq_false_iff, Bool.not_eq_true', Bool.not_eq_false', Bool.not_not, ne_eq, Int.not_lt, Int.not_le] at dhc31
        refine b_augAddV 2 sc_parts_of.nd rfl (d_mul (d_sub (d_var 6 (P := rI z26) rfl rfl) (d_var 4 (P := rI x16.2.1) rfl rfl)) (d_var 5 (P := rI x16.2.2) rfl rfl) (by first | exact .inr ⟨by omega, by omega⟩ | exact .inl ⟨by omega, by omega⟩)) (fun total_34 etotal_34 Gs33 s33 => ?_)
        exact b_nil (by refine ⟨_, _, _, _, rfl, rfl⟩)
      · intro hc31 Gs32 s32
        have dhc31 := hc31
        try simp only [decide_eq_true_eq, decide_eq_false_iff_not, Bool.and_eq_true, Bool.and_eq_false_imp, Bool.or_eq_true, Bool.or_eq_false_iff, Bool.not_eq_true', Bool.not_eq_false', Bool.not_not, ne_eq, Int.not_lt, Int.not_le] at dhc31
        exact b_nil (by refine ⟨_, _, _, _, rfl, rfl⟩)
  · intro n_ z5 _ _ _ hnz5 s36 hNz5 hfz5
    obtain ⟨o12, o13, o14, o15, rfl, rfl⟩ := hNz5
    try simp only [rng_length, enumL_length] at hnz5
    exact b_ret (P := rI z5) (d_var 2 (P := rI z5) rfl rfl) (fun _ _ _ h => ⟨⟨[], rfl⟩, h⟩)
end Ck17

namespace Ck17
open PySem L2 PyProof.Rows J
abbrev s_law : Stmt := PySem.Challenge.pw_corebank_k17_whole_splitting_a_balance.main.body.getD 6 (.Pass ⟨0, 0, 0, 0⟩)
abbrev N_law : List Str := ["_law_script", "_law_cell", "_law_numbers_here", "_law_tiers_here", "_law_rates", "_law_one", "_law_two", "_law_apart", "_law_together", "_law_tier", "_law_k"]
theorem sc_law : FnScope ["_law_script", "_law_cell", "_law_numbers_here", "_law_tiers_here", "_law_rates", "_law_one", "_law_two", "_law_apart", "_law_together", "_law_tier", "_law_k"] ["_law_script"] (defScope s_law) := ⟨rfl, rfl, rfl, by decide +kernel, rfl, by decide +kernel, by decide +kernel⟩
theorem ok_law {P : Program} {w : World} {K : PySem.W.Frag} {mg : Str → Option Value} {base : Heap} {f : Addr} {fd : FuncData} (F : Fun K "law" "law" s_law f fd) (b : Binds K fd ["_law_script"] []) (hmg : mg "law" = some (.ref f)) (m_len : mg "len" = none) (m_list : mg "list" = none) (m_max : mg "max" = none) (m_min : mg "min" = none) (m_range : mg "range" = none) (m_sorted : mg "sorted" = none) (F_law_numbers : Fn0 P w K mg base CX0 1 "_law_numbers" 2 (sp_law_numbers K)) (F_law_size : Fn0 P w K mg base CX0 1 "_law_size" 3 (sp_law_size K)) (F_law_tiers : Fn0 P w K mg base CX0 1 "_law_tiers" 2 (sp_law_tiers K)) (F_parts_of : Fn0 P w K mg base CX0 1 "parts_of" 2 (sp_parts_of K)) :
    FnOk P w K mg base CX0 2 f fd ["_law_script"] (sp_law K) := by
  have hsl := sizeLine_eq
  refine fn_ok F sc_law (fun i : ((List Int)) => b_law i) (fun i G vs h => ?_) (fun cdv A outer s H E script_ G cs vs hr hp => ?_)
  · obtain ⟨v0_, h, _⟩ := h
    rw [h]
    rfl
  obtain ⟨v0_, rfl, h0_, hpre⟩ := hp
  show B _ _ _ [some v0_, none, none, none, none, none, none, none, none, none, none] G cs _ (b_law script_)
  unfold b_law
  try dsimp only at hpre
  refine b_for (f := (st_law_1)) (s0 := ()) (xs := ([5] ++ script_)) (fun n_ (z1 : Unit) σ_ G_ cs_ => ∃ o4 : Option V, ∃ o5 : Option V, ∃ o6 : Option V, ∃ o7 : Option V, ∃ o8 : Option V, ∃ o9 : Option V, ∃ o10 : Option V, ∃ o11 : Option V, ∃ o12 : Option V, ∃ o13 : Option V, σ_ = [some v0_, o4, o5, o6, o7, o8, o9, o10, o11, o12, o13] ∧ cs = cs_) (i_listF (r := rI) (d_new (n_cat (r := rI) (D.imp (P := (rL K rI) [5]) (d_new (n_lst (r := rI) (xs := [5]) (a_cons (P := rI 5) d_int a_nil) (ls_c ls_n))) fun _ _ => rdL_of) (D.imp (P := (rL K rI) script_) (d_var 0 (P := (rL K rI) script_) rfl h0_) fun _ _ => rdL_of) (by simp; omega)))) (tg_name 1 sc_law.nd) rfl PassesOwn.never ?_ ?_ ?_ ?_
  · intro _ s99
    exact ⟨_, _, _, _, _, _, _, _, _, _, rfl, rfl⟩
  · intro _ _ _ _ _ _
    trivial
  · intro pre_ x14 post_ z1 _ _ _ _ _ hxsz1 hrez1 s15 hNz1 s16 hSz1
    obtain ⟨o4, o5, o6, o7, o8, o9, o10, o11, o12, o13, rfl, rfl⟩ := hNz1
    obtain ⟨v2, h3, rfl⟩ := hSz1
    have hltz1 : pre_.length < ([5] ++ script_).length := by rw [hxsz1, List.length_append, List.length_cons]; omega
    have hmemz1 : x14 ∈ ([5] ++ script_) := by rw [hxsz1]; exact List.mem_append_right _ List.mem_cons_self
    try simp only [rng_length, rng_mem, enumL_length] at hltz1 hmemz1
    show B _ _ _ _ _ _ _ (st_law_1 z1 x14)
    unfold st_law_1
    cases h3
    refine b_setV (r := (rL K rI)) 2 sc_law.nd (d_callQ (P := (rL K rI) (m_law_numbers x14 24)) (x14, 24) F_law_numbers hr (by decide) (a_cons (P := rI x14) (d_var 1 (P := rI x14) rfl rfl) (a_cons (P := rI 24) d_int a_nil)) (fun _ _ _ h => by obtain ⟨v0, w0, rfl, h0, v1, w1, rfl, h1, rfl⟩ := h; exact ⟨v0, v1, rfl, h0, h1, (by (try dsimp only); first | assumption | omega | (refine ⟨?_, ?_⟩ <;> omega) | (refine ⟨?_, ?_, ?_⟩ <;> omega) | simp_all)⟩) fun _ _ h => h) (fun numbers_here_18 enumbers_here_18 v20 Gs19 s19 h21 => ?_)
    have hlen : numbers_here_18.length = 24 := by rw [enumbers_here_18, len_numbers _ (by decide)]; rfl
    refine b_setV (r := (rL K (rT K (cc rI (c0 rI))))) 3 sc_law.nd (d_callQ (P := (rL K (rT K (cc rI (c0 rI)))) (m_law_tiers numbers_here_18 0)) (numbers_here_18, 0) F_law_tiers hr (by decide) (a_cons (P := (rL K rI) numbers_here_18) (d_var 2 (P := (rL K rI) numbers_here_18) rfl h21) (a_cons (P := rI 0) d_int a_nil)) (fun _ _ _ h => by obtain ⟨v0, w0, rfl, h0, v1, w1, rfl, h1, rfl⟩ := h; exact ⟨v0, v1, rfl, h0, h1, (by (try dsimp only); first | assumption | omega | (refine ⟨?_, ?_⟩ <;> omega) | (refine ⟨?_, ?_, ?_⟩ <;> omega) | simp_all)⟩) fun _ _ h => h) (fun tiers_here_22 etiers_here_22 v24 Gs23 s23 h25 => ?_)
    have ht := tiers_is numbers_here_18
    rw [← etiers_here_22] at ht
    have htl := ht.len
    refine b_setV (r := (rL K rI)) 4 sc_law.nd (d_new (n_lc (C := fun _ => True) (own := [("_law_tier", 9)]) (xs := tiers_here_22) (r := rI) (f := (fun tier_ : (Int × Int) => tier_.2)) rfl sc_law.nd (blkOk_by (N := N_law) (sc := defScope s_law) (by decide +kernel)) (i_listF (r := (rT K (cc rI (c0 rI)))) (d_var 3 (P := (rL K (rT K (cc rI (c0 rI)))) tiers_here_22) rfl h25)) (tgb_name 9 sc_law.nd) (fun _ _ => trivial) (fun _ _ _ ⟨_, _, e⟩ => by subst e; exact wipe1) (fun (tier_ : (Int × Int)) hx29 _ _ _ s28 ⟨c0_, ec⟩ hS _ _ _ _ _ => by subst ec; obtain ⟨v26, h27, rfl⟩ := hS;  have hmhx29 := hx29; (try simp only [rng_mem, rng_length] at hmhx29); exact (d_ixT (r := (cc rI (c0 rI))) (x := tier_) (n := 1) (P := rI tier_.2) (d_var 9 (P := (rT K (cc rI (c0 rI))) tier_) rfl h27) d_int (at_s at_1))) (by first | omega | (simp only [rng_length, enumL_length, List.length_map]; omega) | (simp; omega)))) (fun rates_30 erates_30 v32 Gs31 s31 h33 => ?_)
    have hra := rates_is ht erates_30
    refine b_if (S' := ((List Int))) (fun (z36 : ((List Int))) σ_ G_ cs_ => ∃ v37 : V, ∃ o39 : Option V, ∃ o40 : Option V, ∃ o41 : Option V, ∃ o42 : Option V, ∃ o43 : Option V, ∃ o44 : Option V, σ_ = [some v0_, some (.int x14), some v20, some v24, some v37, o39, o40, o41, o42, o43, o44] ∧ cs = cs_ ∧ (rL K rI) z36 G_ v37) (t_cmp op_eq (nomark _) (d_mod (d_ixL (r := rI) (D.imp (P := (rL K rI) numbers_here_18) (d_var 2 (P := (rL K rI) numbers_here_18) rfl (Mono.mono (s23.trans s31) h21)) fun _ _ => rdL_of) d_int (atI_ixg (by first | (constructor <;> omega) | exact ix_mod (by omega)))) d_int (by decide)) d_int fun _ _ _ _ _ _ hx hy _ q => c_eqI hx hy q) ?_ ?_ ?_
    · intro hc34 Gs35 s35
      have dhc34 := hc34
      try simp only [decide_eq_true_eq, decide_eq_false_iff_not, Bool.and_eq_true, Bool.and_eq_false_imp, Bool.or_eq_true, Bool.or_eq_false_iff, Bool.not_eq_true', Bool.not_eq_false', Bool.not_not, ne_eq, Int.not_lt, Int.not_le] at dhc34
      refine b_setV (r := (rL K rI)) 4 sc_law.nd (d_new (n_sorted m_sorted (D.imp (P := (rL K rI) rates_30) (d_var 4 (P := (rL K rI) rates_30) rfl (Mono.mono s35 h33)) fun _ _ => rdL_of))) (fun rates_45 erates_45 v47 Gs46 s46 h48 => ?_)
      exact b_nil (by refine ⟨_, _, _, _, _, _, _, rfl, rfl, h48⟩)
    · intro hc34 Gs35 s35
      have dhc34 := hc34
      try simp only [decide_eq_true_eq, decide_eq_false_iff_not, Bool.and_eq_true, Bool.and_eq_false_imp, Bool.or_eq_true, Bool.or_eq_false_iff, Bool.not_eq_true', Bool.not_eq_false', Bool.not_not, ne_eq, Int.not_lt, Int.not_le] at dhc34
      exact b_nil (by refine ⟨_, _, _, _, _, _, _, rfl, rfl, (Mono.mono s35 h33)⟩)
    · intro z36 _ _ _ sz36 hNz36 hmz36
      obtain ⟨v37, o39, o40, o41, o42, o43, o44, rfl, rfl, h38⟩ := hNz36
      have hr2 := rates_join z36 hra hmz36 (Or.inl rfl)
      refine b_if (S' := ((List Int))) (fun (z51 : ((List Int))) σ_ G_ cs_ => ∃ v52 : V, ∃ o54 : Option V, ∃ o55 : Option V, ∃ o56 : Option V, ∃ o57 : Option V, ∃ o58 : Option V, ∃ o59 : Option V, σ_ = [some v0_, some (.int x14), some v20, some v24, some v52, o54, o55, o56, o57, o58, o59] ∧ cs = cs_ ∧ (rL K rI) z51 G_ v52) (t_cmp op_eq (nomark _) (d_mod (d_ixL (r := rI) (D.imp (P := (rL K rI) numbers_here_18) (d_var 2 (P := (rL K rI) numbers_here_18) rfl (Mono.mono (s23.trans (s31.trans sz36)) h21)) fun _ _ => rdL_of) d_int (atI_ixg (by first | (constructor <;> omega) | exact ix_mod (by omega)))) d_int (by decide)) d_int fun _ _ _ _ _ _ hx hy _ q => c_eqI hx hy q) ?_ ?_ ?_
      · intro hc49 Gs50 s50
        have dhc49 := hc49
        try simp only [decide_eq_true_eq, decide_eq_false_iff_not, Bool.and_eq_true, Bool.and_eq_false_imp, Bool.or_eq_true, Bool.or_eq_false_iff, Bool.not_eq_true', Bool.not_eq_false', Bool.not_not, ne_eq, Int.not_lt, Int.not_le] at dhc49
        refine b_setV (r := (rL K rI)) 4 sc_law.nd (d_new (n_sortedR (pk_true) m_sorted (D.imp (P := (rL K rI) z36) (d_var 4 (P := (rL K rI) z36) rfl (Mono.mono s50 h38)) fun _ _ => rdL_of))) (fun rates_60 erates_60 v62 Gs61 s61 h63 => ?_)
        exact b_nil (by refine ⟨_, _, _, _, _, _, _, rfl, rfl, h63⟩)
      · intro hc49 Gs50 s50
        have dhc49 := hc49
        try simp only [decide_eq_true_eq, decide_eq_false_iff_not, Bool.and_eq_true, Bool.and_eq_false_imp, Bool.or_eq_true, Bool.or_eq_false_iff, Bool.not_eq_true', Bool.not_eq_false', Bool.not_not, ne_eq, Int.not_lt, Int.not_le] at dhc49
        exact b_nil (by refine ⟨_, _, _, _, _, _, _, rfl, rfl, (Mono.mono s50 h38)⟩)
      · intro z51 _ _ _ sz51 hNz51 hmz51
        obtain ⟨v52, o54, o55, o56, o57, o58, o59, rfl, rfl, h53⟩ := hNz51
        have hr3 := rates_join z51 hr2 hmz51 (Or.inr rfl)
        have hr3l := hr3.len
        refine b_setV (r := (rL K (rT K (cc rI (c0 rI))))) 3 sc_law.nd (d_new (n_lc (C := fun _ => True) (own := [("_law_k", 10)]) (xs := (rng 0 (tiers_here_22.length : Int))) (r := (rT K (cc rI (c0 rI)))) (f := (fun k_ : Int => ((ixg tiers_here_22 k_).1, (ixg z51 k_)))) rfl sc_law.nd (blkOk_by (N := N_law) (sc := defScope s_law) (by decide +kernel)) (i_rng1 m_range (d_lenL (r := (rT K (cc rI (c0 rI)))) m_len (D.imp (P := (rL K (rT K (cc rI (c0 rI)))) tiers_here_22) (d_var 3 (P := (rL K (rT K (cc rI (c0 rI)))) tiers_here_22) rfl (Mono.mono (s31.trans (sz36.trans sz51)) h25)) fun _ _ => rdL_of)) (by omega) (by omega)) (tgb_name 10 sc_law.nd) (fun _ _ => trivial) (fun _ _ _ ⟨_, _, e⟩ => by subst e; exact wipe1) (fun (k_ : Int) hx67 _ _ _ s66 ⟨c0_, ec⟩ hS _ _ _ _ _ => by subst ec; obtain ⟨v64, h65, rfl⟩ := hS; cases h65; have hmhx67 := hx67; (try simp only [rng_mem, rng_length] at hmhx67); exact (d_tup (r := (cc rI (c0 rI))) (x := ((ixg tiers_here_22 k_).1, (ixg z51 k_))) (a_cons (P := rI ((ixg tiers_here_22 k_).1)) (d_ixT (r := (cc rI (c0 rI))) (x := (ixg tiers_here_22 k_)) (n := 0) (P := rI ((ixg tiers_here_22 k_).1)) (d_ixL (r := (rT K (cc rI (c0 rI)))) (D.imp (P := (rL K (rT K (cc rI (c0 rI)))) tiers_here_22) (d_var 3 (P := (rL K (rT K (cc rI (c0 rI)))) tiers_here_22) rfl (Mono.mono (s31.trans (sz36.trans (sz51.trans s66))) h25)) fun _ _ => rdL_of) (d_var 10 (P := rI k_) rfl rfl) (atI_ixg (by first | (constructor <;> omega) | exact ix_mod (by omega)))) d_int at_z) (a_cons (P := rI (ixg z51 k_)) (d_ixL (r := rI) (D.imp (P := (rL K rI) z51) (d_var 4 (P := (rL K rI) z51) rfl (Mono.mono s66 h53)) fun _ _ => rdL_of) (d_var 10 (P := rI k_) rfl rfl) (atI_ixg (by first | (constructor <;> omega) | exact ix_mod (by omega)))) a_nil)) (tp_c tp_1))) (by first | omega | (simp only [rng_length, enumL_length, List.length_map]; omega) | (simp; omega)))) (fun tiers_here_68 etiers_here_68 v70 Gs69 s69 h71 => ?_)
        have hT := tiers2 ht hr3 etiers_here_68
        have hTl := hT.1
        refine b_setV (r := rI) 5 sc_law.nd (d_callQ (P := rI (m_law_size (ixg numbers_here_18 21) (ixg numbers_here_18 23) tiers_here_68)) ((ixg numbers_here_18 21), (ixg numbers_here_18 23), tiers_here_68) F_law_size hr (by decide) (a_cons (P := rI (ixg numbers_here_18 21)) (d_ixL (r := rI) (D.imp (P := (rL K rI) numbers_here_18) (d_var 2 (P := (rL K rI) numbers_here_18) rfl (Mono.mono (s23.trans (s31.trans (sz36.trans (sz51.trans s69)))) h21)) fun _ _ => rdL_of) d_int (atI_ixg (by first | (constructor <;> omega) | exact ix_mod (by omega)))) (a_cons (P := rI (ixg numbers_here_18 23)) (d_ixL (r := rI) (D.imp (P := (rL K rI) numbers_here_18) (d_var 2 (P := (rL K rI) numbers_here_18) rfl (Mono.mono (s23.trans (s31.trans (sz36.trans (sz51.trans s69)))) h21)) fun _ _ => rdL_of) d_int (atI_ixg (by first | (constructor <;> omega) | exact ix_mod (by omega)))) (a_cons (P := (rL K (rT K (cc rI (c0 rI)))) tiers_here_68) (d_var 3 (P := (rL K (rT K (cc rI (c0 rI)))) tiers_here_68) rfl h71) a_nil))) (fun _ _ _ h => by obtain ⟨v0, w0, rfl, h0, v1, w1, rfl, h1, v2, w2, rfl, h2, rfl⟩ := h; exact ⟨v0, v1, v2, rfl, h0, h1, h2, (by (try dsimp only); first | assumption | omega | (refine ⟨?_, ?_⟩ <;> omega) | (refine ⟨?_, ?_, ?_⟩ <;> omega) | simp_all)⟩) fun _ _ h => h) (fun one_72 eone_72 v74 Gs73 s73 h75 => ?_)
        cases h75
        refine b_setV (r := rI) 6 sc_law.nd (d_callQ (P := rI (m_law_size (ixg numbers_here_18 22) ((ixg numbers_here_18 23) / 2) tiers_here_68)) ((ixg numbers_here_18 22), ((ixg numbers_here_18 23) / 2), tiers_here_68) F_law_size hr (by decide) (a_cons (P := rI (ixg numbers_here_18 22)) (d_ixL (r := rI) (D.imp (P := (rL K rI) numbers_here_18) (d_var 2 (P := (rL K rI) numbers_here_18) rfl (Mono.mono (s23.trans (s31.trans (sz36.trans (sz51.trans (s69.trans s73))))) h21)) fun _ _ => rdL_of) d_int (atI_ixg (by first | (constructor <;> omega) | exact ix_mod (by omega)))) (a_cons (P := rI ((ixg numbers_here_18 23) / 2)) (d_fdiv (d_ixL (r := rI) (D.imp (P := (rL K rI) numbers_here_18) (d_var 2 (P := (rL K rI) numbers_here_18) rfl (Mono.mono (s23.trans (s31.trans (sz36.trans (sz51.trans (s69.trans s73))))) h21)) fun _ _ => rdL_of) d_int (atI_ixg (by first | (constructor <;> omega) | exact ix_mod (by omega)))) d_int (divW (by decide) (by decide +kernel))) (a_cons (P := (rL K (rT K (cc rI (c0 rI)))) tiers_here_68) (d_var 3 (P := (rL K (rT K (cc rI (c0 rI)))) tiers_here_68) rfl (Mono.mono s73 h71)) a_nil))) (fun _ _ _ h => by obtain ⟨v0, w0, rfl, h0, v1, w1, rfl, h1, v2, w2, rfl, h2, rfl⟩ := h; exact ⟨v0, v1, v2, rfl, h0, h1, h2, (by (try dsimp only); first | assumption | omega | (refine ⟨?_, ?_⟩ <;> omega) | (refine ⟨?_, ?_, ?_⟩ <;> omega) | simp_all)⟩) fun _ _ h => h) (fun two_76 etwo_76 v78 Gs77 s77 h79 => ?_)
        cases h79
        refine b_setV (r := rI) 7 sc_law.nd (d_add (d_callQ (P := rI (m_parts_of tiers_here_68 one_72)) (tiers_here_68, one_72) F_parts_of hr (by decide) (a_cons (P := (rL K (rT K (cc rI (c0 rI)))) tiers_here_68) (d_new (n_listL (r := (rT K (cc rI (c0 rI)))) m_list (D.imp (P := (rL K (rT K (cc rI (c0 rI)))) tiers_here_68) (d_var 3 (P := (rL K (rT K (cc rI (c0 rI)))) tiers_here_68) rfl (Mono.mono (s73.trans s77) h71)) fun _ _ => rdL_of))) (a_cons (P := rI one_72) (d_var 5 (P := rI one_72) rfl rfl) a_nil)) (fun _ _ _ h => by obtain ⟨v0, w0, rfl, h0, v1, w1, rfl, h1, rfl⟩ := h; exact ⟨v0, v1, rfl, h0, h1, (by exact hT.2)⟩) fun _ _ h => h) (d_callQ (P := rI (m_parts_of tiers_here_68 two_76)) (tiers_here_68, two_76) F_parts_of hr (by decide) (a_cons (P := (rL K (rT K (cc rI (c0 rI)))) tiers_here_68) (d_new (n_listL (r := (rT K (cc rI (c0 rI)))) m_list (D.imp (P := (rL K (rT K (cc rI (c0 rI)))) tiers_here_68) (d_var 3 (P := (rL K (rT K (cc rI (c0 rI)))) tiers_here_68) rfl (Mono.mono (s73.trans s77) h71)) fun _ _ => rdL_of))) (a_cons (P := rI two_76) (d_var 6 (P := rI two_76) rfl rfl) a_nil)) (fun _ _ _ h => by obtain ⟨v0, w0, rfl, h0, v1, w1, rfl, h1, rfl⟩ := h; exact ⟨v0, v1, rfl, h0, h1, (by exact hT.2)⟩) fun _ _ h => h)) (fun apart_80 eapart_80 v82 Gs81 s81 h83 => ?_)
        cases h83
        refine b_setV (r := rI) 8 sc_law.nd (d_callQ (P := rI (m_parts_of tiers_here_68 (one_72 + two_76))) (tiers_here_68, (one_72 + two_76)) F_parts_of hr (by decide) (a_cons (P := (rL K (rT K (cc rI (c0 rI)))) tiers_here_68) (d_new (n_listL (r := (rT K (cc rI (c0 rI)))) m_list (D.imp (P := (rL K (rT K (cc rI (c0 rI)))) tiers_here_68) (d_var 3 (P := (rL K (rT K (cc rI (c0 rI)))) tiers_here_68) rfl (Mono.mono (s73.trans (s77.trans s81)) h71)) fun _ _ => rdL_of))) (a_cons (P := rI (one_72 + two_76)) (d_add (d_var 5 (P := rI one_72) rfl rfl) (d_var 6 (P := rI two_76) rfl rfl)) a_nil)) (fun _ _ _ h => by obtain ⟨v0, w0, rfl, h0, v1, w1, rfl, h1, rfl⟩ := h; exact ⟨v0, v1, rfl, h0, h1, (by exact hT.2)⟩) fun _ _ h => h) (fun together_84 etogether_84 v86 Gs85 s85 h87 => ?_)
        cases h87
        have hmn := hr3.ok _ (minL_is (by omega)).1
        have hmx := hr3.ok _ (maxL_is (by omega)).1
        refine b_ifx (t_w (w_and (t_eqD (K := K) (r := (rL K rI)) hr (d_var 4 (P := (rL K rI) z51) rfl (Mono.mono (s69.trans (s73.trans (s77.trans (s81.trans s85)))) h53)) (d_new (n_sorted m_sorted (D.imp (P := (rL K rI) z51) (d_var 4 (P := (rL K rI) z51) rfl (Mono.mono (s69.trans (s73.trans (s77.trans (s81.trans s85)))) h53)) fun _ _ => rdL_of))) (fun _ _ => trivial) (fun _ _ => trivial)) fun hk88 => (w_and1 (t_cmp op_lt (nomark _) (d_var 8 (P := rI together_84) rfl rfl) (d_var 7 (P := rI apart_80) rfl rfl) fun _ _ _ _ _ _ hx hy _ q => c_lt hx hy q)))) ?_ ?_
        · intro hc89 Gs90 s90
          have dhc89 := hc89
          try simp only [decide_eq_true_eq, decide_eq_false_iff_not, Bool.and_eq_true, Bool.and_eq_false_imp, Bool.or_eq_true, Bool.or_eq_false_iff, Bool.not_eq_true', Bool.not_eq_false', Bool.not_not, ne_eq, Int.not_lt, Int.not_le] at dhc89
          exact b_ret (P := rB false) d_bl (fun _ _ _ h => ⟨⟨[], rfl⟩, h⟩)
        · intro hc89 Gs90 s90
          have dhc89 := hc89
          try simp only [decide_eq_true_eq, decide_eq_false_iff_not, Bool.and_eq_true, Bool.and_eq_false_imp, Bool.or_eq_true, Bool.or_eq_false_iff, Bool.not_eq_true', Bool.not_eq_false', Bool.not_not, ne_eq, Int.not_lt, Int.not_le] at dhc89
          refine b_ifx (t_w (w_and (t_eqD (K := K) (r := (rL K rI)) hr (d_var 4 (P := (rL K rI) z51) rfl (Mono.mono (s69.trans (s73.trans (s77.trans (s81.trans (s85.trans s90))))) h53)) (d_new (n_sortedR (pk_true) m_sorted (D.imp (P := (rL K rI) z51) (d_var 4 (P := (rL K rI) z51) rfl (Mono.mono (s69.trans (s73.trans (s77.trans (s81.trans (s85.trans s90))))) h53)) fun _ _ => rdL_of))) (fun _ _ => trivial) (fun _ _ => trivial)) fun hk91 => (w_and1 (t_cmp op_gt (nomark _) (d_var 8 (P := rI together_84) rfl rfl) (d_var 7 (P := rI apart_80) rfl rfl) fun _ _ _ _ _ _ hx hy _ q => c_gt hx hy q)))) ?_ ?_
          · intro hc92 Gs93 s93
            have dhc92 := hc92
            try simp only [decide_eq_true_eq, decide_eq_false_iff_not, Bool.and_eq_true, Bool.and_eq_false_imp, Bool.or_eq_true, Bool.or_eq_false_iff, Bool.not_eq_true', Bool.not_eq_false', Bool.not_not, ne_eq, Int.not_lt, Int.not_le] at dhc92
            exact b_ret (P := rB false) d_bl (fun _ _ _ h => ⟨⟨[], rfl⟩, h⟩)
          · intro hc92 Gs93 s93
            have dhc92 := hc92
            try simp only [decide_eq_true_eq, decide_eq_false_iff_not, Bool.and_eq_true, Bool.and_eq_false_imp, Bool.or_eq_true, Bool.or_eq_false_iff, Bool.not_eq_true', Bool.not_eq_false', Bool.not_not, ne_eq, Int.not_lt, Int.not_le] at dhc92
            refine b_ifx (t_cmp op_lt (nomark _) (d_callQ (P := rI (m_parts_of tiers_here_68 (if two_76 > one_72 then two_76 else one_72))) (tiers_here_68, (if two_76 > one_72 then two_76 else one_72)) F_parts_of hr (by decide) (a_cons (P := (rL K (rT K (cc rI (c0 rI)))) tiers_here_68) (d_new (n_listL (r := (rT K (cc rI (c0 rI)))) m_list (D.imp (P := (rL K (rT K (cc rI (c0 rI)))) tiers_here_68) (d_var 3 (P := (rL K (rT K (cc rI (c0 rI)))) tiers_here_68) rfl (Mono.mono (s73.trans (s77.trans (s81.trans (s85.trans (s90.trans s93))))) h71)) fun _ _ => rdL_of))) (a_cons (P := rI (if two_76 > one_72 then two_76 else one_72)) (d_max2 rfl m_max (d_var 5 (P := rI one_72) rfl rfl) (d_var 6 (P := rI two_76) rfl rfl)) a_nil)) (fun _ _ _ h => by obtain ⟨v0, w0, rfl, h0, v1, w1, rfl, h1, rfl⟩ := h; exact ⟨v0, v1, rfl, h0, h1, (by exact hT.2)⟩) fun _ _ h => h) (d_callQ (P := rI (m_parts_of tiers_here_68 (if two_76 < one_72 then two_76 else one_72))) (tiers_here_68, (if two_76 < one_72 then two_76 else one_72)) F_parts_of hr (by decide) (a_cons (P := (rL K (rT K (cc rI (c0 rI)))) tiers_here_68) (d_new (n_listL (r := (rT K (cc rI (c0 rI)))) m_list (D.imp (P := (rL K (rT K (cc rI (c0 rI)))) tiers_here_68) (d_var 3 (P := (rL K (rT K (cc rI (c0 rI)))) tiers_here_68) rfl (Mono.mono (s73.trans (s77.trans (s81.trans (s85.trans (s90.trans s93))))) h71)) fun _ _ => rdL_of))) (a_cons (P := rI (if two_76 < one_72 then two_76 else one_72)) (d_min2 rfl m_min (d_var 5 (P := rI one_72) rfl rfl) (d_var 6 (P := rI two_76) rfl rfl)) a_nil)) (fun _ _ _ h => by obtain ⟨v0, w0, rfl, h0, v1, w1, rfl, h1, rfl⟩ := h; exact ⟨v0, v1, rfl, h0, h1, (by exact hT.2)⟩) fun _ _ h => h) fun _ _ _ _ _ _ hx hy _ q => c_lt hx hy q) ?_ ?_
            · intro hc94 Gs95 s95
              have dhc94 := hc94
              try simp only [decide_eq_true_eq, decide_eq_false_iff_not, Bool.and_eq_true, Bool.and_eq_false_imp, Bool.or_eq_true, Bool.or_eq_false_iff, Bool.not_eq_true', Bool.not_eq_false', Bool.not_not, ne_eq, Int.not_lt, Int.not_le] at dhc94
              exact b_ret (P := rB false) d_bl (fun _ _ _ h => ⟨⟨[], rfl⟩, h⟩)
            · intro hc94 Gs95 s95
              have dhc94 := hc94
              try simp only [decide_eq_true_eq, decide_eq_false_iff_not, Bool.and_eq_true, Bool.and_eq_false_imp, Bool.or_eq_true, Bool.or_eq_false_iff, Bool.not_eq_true', Bool.not_eq_false', Bool.not_not, ne_eq, Int.not_lt, Int.not_le] at dhc94
              refine b_ifx (t_w (w_or (t_cmp op_lt (nomark _) (d_var 8 (P := rI together_84) rfl rfl) (d_mul (d_add (d_var 5 (P := rI one_72) rfl rfl) (d_var 6 (P := rI two_76) rfl rfl)) (d_minL rfl m_min (D.imp (P := (rL K rI) z51) (d_var 4 (P := (rL K rI) z51) rfl (Mono.mono (s69.trans (s73.trans (s77.trans (s81.trans (s85.trans (s90.trans (s93.trans s95))))))) h53)) fun _ _ => rdL_of) (by omega)) (by first | exact .inr ⟨by omega, by omega⟩ | exact .inl ⟨by omega, by omega⟩)) fun _ _ _ _ _ _ hx hy _ q => c_lt hx hy q) fun hk96 => (w_or1 (t_cmp op_gt (nomark _) (d_var 8 (P := rI together_84) rfl rfl) (d_mul (d_add (d_var 5 (P := rI one_72) rfl rfl) (d_var 6 (P := rI two_76) rfl rfl)) (d_maxL rfl m_max (D.imp (P := (rL K rI) z51) (d_var 4 (P := (rL K rI) z51) rfl (Mono.mono (s69.trans (s73.trans (s77.trans (s81.trans (s85.trans (s90.trans (s93.trans s95))))))) h53)) fun _ _ => rdL_of) (by omega)) (by first | exact .inr ⟨by omega, by omega⟩ | exact .inl ⟨by omega, by omega⟩)) fun _ _ _ _ _ _ hx hy _ q => c_gt hx hy q)))) ?_ ?_
              · intro hc97 Gs98 s98
                have dhc97 := hc97
                try simp only [decide_eq_true_eq, decide_eq_false_iff_not, Bool.and_eq_true, Bool.and_eq_false_imp, Bool.or_eq_true, Bool.or_eq_false_iff, Bool.not_eq_true', Bool.not_eq_false', Bool.not_not, ne_eq, Int.not_lt, Int.not_le] at dhc97
                exact b_ret (P := rB false) d_bl (fun _ _ _ h => ⟨⟨[], rfl⟩, h⟩)
              · intro hc97 Gs98 s98
                have dhc97 := hc97
                try simp only [decide_eq_true_eq, decide_eq_false_iff_not, Bool.and_eq_true, Bool.and_eq_false_imp, Bool.or_eq_true, Bool.or_eq_false_iff, Bool.not_eq_true', Bool.not_eq_false', Bool.not_not, ne_eq, Int.not_lt, Int.not_le] at dhc97
                exact b_nil (by refine ⟨_, _, _, _, _, _, _, _, _, _, rfl, rfl⟩)
  · intro n_ z1 _ _ _ hnz1 s100 hNz1 hfz1
    obtain ⟨o4, o5, o6, o7, o8, o9, o10, o11, o12, o13, rfl, rfl⟩ := hNz1
    try simp only [rng_length, enumL_length] at hnz1
    exact b_ret (P := rB true) d_bl (fun _ _ _ h => ⟨⟨[], rfl⟩, h⟩)
end Ck17

namespace Ck17
open PySem L2 PyProof.Rows J
theorem all_mk {l : PySem.W.OpenLaw} {w : World} {K : PySem.W.Frag} {h : Heap} {mg : Str → Option Value} {fa f1 f2 f3 f4 f5 : Addr} (X : K.In h) (G : h.Ns mainGlobals mg) (hfa : mg "law" = some (.ref fa))
    {od1 an1 od2 an2 od3 an3 od4 an4 od5 an5 : Option Addr} {sl1 sl2 sl3 sl4 sl5 : Array (Option Value)} {oc1 kV1 dc1 pm1 cd1 ct1 oc2 kV2 dc2 pm2 cd2 ct2 oc3 kV3 dc3 pm3 cd3 ct3 oc4 kV4 dc4 pm4 cd4 ct4 oc5 kV5 dc5 pm5 cd5 ct5 : Value}
    (a1 : PySem.W.nsIn K mainGlobals "_law_numbers" = some (some (.ref f1))) (l1 : K.lookup f1 = some ⟨oc1, od1, .func (PySem.W.fnOf "_law_numbers" "_law_numbers" (defArgs s_law_numbers) (defBody s_law_numbers) (defScope s_law_numbers) .none kV1 dc1 pm1 an1 cd1 ct1), sl1⟩) (c1 : PySem.W.codeIn K cd1 "_law_numbers" = true) (k1 : PySem.W.keepIn K (.ref f1) = true)
    (a2 : PySem.W.nsIn K mainGlobals "_law_tiers" = some (some (.ref f2))) (l2 : K.lookup f2 = some ⟨oc2, od2, .func (PySem.W.fnOf "_law_tiers" "_law_tiers" (defArgs s_law_tiers) (defBody s_law_tiers) (defScope s_law_tiers) .none kV2 dc2 pm2 an2 cd2 ct2), sl2⟩) (c2 : PySem.W.codeIn K cd2 "_law_tiers" = true) (k2 : PySem.W.keepIn K (.ref f2) = true)
    (a3 : PySem.W.nsIn K mainGlobals "_law_size" = some (some (.ref f3))) (l3 : K.lookup f3 = some ⟨oc3, od3, .func (PySem.W.fnOf "_law_size" "_law_size" (defArgs s_law_size) (defBody s_law_size) (defScope s_law_size) .none kV3 dc3 pm3 an3 cd3 ct3), sl3⟩) (c3 : PySem.W.codeIn K cd3 "_law_size" = true) (k3 : PySem.W.keepIn K (.ref f3) = true)
    (a4 : PySem.W.nsIn K mainGlobals "parts_of" = some (some (.ref f4))) (l4 : K.lookup f4 = some ⟨oc4, od4, .func (PySem.W.fnOf "parts_of" "parts_of" (defArgs s_parts_of) (defBody s_parts_of) (defScope s_parts_of) .none kV4 dc4 pm4 an4 cd4 ct4), sl4⟩) (c4 : PySem.W.codeIn K cd4 "parts_of" = true) (k4 : PySem.W.keepIn K (.ref f4) = true)
    (a5 : PySem.W.nsIn K mainGlobals "law" = some (some (.ref f5))) (l5 : K.lookup f5 = some ⟨oc5, od5, .func (PySem.W.fnOf "law" "law" (defArgs s_law) (defBody s_law) (defScope s_law) .none kV5 dc5 pm5 an5 cd5 ct5), sl5⟩) (c5 : PySem.W.codeIn K cd5 "law" = true) (k5 : PySem.W.keepIn K (.ref f5) = true)
    (z_enumerate : PySem.W.nsIn K mainGlobals "enumerate" = some none)
    (z_int : PySem.W.nsIn K mainGlobals "int" = some none)
    (z_len : PySem.W.nsIn K mainGlobals "len" = some none)
    (z_list : PySem.W.nsIn K mainGlobals "list" = some none)
    (z_max : PySem.W.nsIn K mainGlobals "max" = some none)
    (z_min : PySem.W.nsIn K mainGlobals "min" = some none)
    (z_range : PySem.W.nsIn K mainGlobals "range" = some none)
    (z_sorted : PySem.W.nsIn K mainGlobals "sorted" = some none)
    : ∃ fd : FuncData, (∀ (s : Shared) (v : Value), BindsTo s fd ⟨[v], []⟩ [("_law_script", v)]) ∧ ∀ base : Heap, K.In base → base.Ns mainGlobals mg → FnOk l.prog w K mg base CX0 2 fa fd ["_law_script"] (sp_law K) := by
  have e := hfa.symm.trans (PySem.W.mg_of X G a5)
  cases e
  have F1 := fun_mk (st := s_law_numbers) l1 c1 k1
  have b1 := F1.binds (ps := ["_law_cell", "_law_count"]) fun _ _ _ _ _ _ us hl => match us, hl with | [_, _], _ => rfl
  have g1 := PySem.W.mg_of X G a1
  have F2 := fun_mk (st := s_law_tiers) l2 c2 k2
  have b2 := F2.binds (ps := ["_law_numbers_here", "_law_at"]) fun _ _ _ _ _ _ us hl => match us, hl with | [_, _], _ => rfl
  have g2 := PySem.W.mg_of X G a2
  have F3 := fun_mk (st := s_law_size) l3 c3 k3
  have b3 := F3.binds (ps := ["_law_number", "_law_choice", "_law_tiers_here"]) fun _ _ _ _ _ _ us hl => match us, hl with | [_, _, _], _ => rfl
  have g3 := PySem.W.mg_of X G a3
  have F4 := fun_mk (st := s_parts_of) l4 c4 k4
  have b4 := F4.binds (ps := ["tiers", "size"]) fun _ _ _ _ _ _ us hl => match us, hl with | [_, _], _ => rfl
  have g4 := PySem.W.mg_of X G a4
  have F5 := fun_mk (st := s_law) l5 c5 k5
  have b5 := F5.binds (ps := ["_law_script"]) fun _ _ _ _ _ _ us hl => match us, hl with | [_], _ => rfl
  have g5 := PySem.W.mg_of X G a5
  have m_enumerate := PySem.W.mg_none_of X G z_enumerate
  have m_int := PySem.W.mg_none_of X G z_int
  have m_len := PySem.W.mg_none_of X G z_len
  have m_list := PySem.W.mg_none_of X G z_list
  have m_max := PySem.W.mg_none_of X G z_max
  have m_min := PySem.W.mg_none_of X G z_min
  have m_range := PySem.W.mg_none_of X G z_range
  have m_sorted := PySem.W.mg_none_of X G z_sorted
  have O_law_numbers := fun base : Heap => ok_law_numbers (P := l.prog) (w := w) (base := base) F1 b1 g1 m_int m_range
  have O_law_tiers := fun base : Heap => ok_law_tiers (P := l.prog) (w := w) (base := base) F2 b2 g2 m_range
  have O_law_size := fun base : Heap => ok_law_size (P := l.prog) (w := w) (base := base) F3 b3 g3 m_len m_max
  have O_parts_of := fun base : Heap => ok_parts_of (P := l.prog) (w := w) (base := base) F4 b4 g4 m_enumerate m_len m_min
  exact ⟨PySem.W.fnOf "law" "law" (defArgs s_law) (defBody s_law) (defScope s_law) .none kV5 dc5 pm5 an5 cd5 ct5, fun s v => .of_eq rfl, fun base _ _ => ok_law F5 b5 g5 m_len m_list m_max m_min m_range m_sorted (O_law_numbers base) (O_law_size base) (O_law_tiers base) (O_parts_of base)⟩
theorem walk {l : PySem.W.OpenLaw} {q : Program} {loose : List Str} {XP : (Str → Option Value) → Heap → Prop} {YP : World → Heap → Prop} {d : DefRec} {K : Params → PySem.W.Frag} (hn : l.most = some 63) (hdf : d.params.defaults = [])
    (hY : ∀ (w : World) (h : Heap), YP w h → (K w.params).In h)
    (F : ∀ (w : World) (mg : Str → Option Value) (fa : Addr) (h : Heap), (K w.params).In h → h.Ns mainGlobals mg → mg d.name = some (.ref fa) →
      ∃ fd : FuncData, (∀ (s : Shared) (u : Value), BindsTo s fd ⟨[u], []⟩ [("_law_script", u)]) ∧ ∀ base : Heap, (K w.params).In base → base.Ns mainGlobals mg → FnOk l.prog w (K w.params) mg base CX0 2 fa fd ["_law_script"] (sp_law (K w.params))) :
    PySem.W.WalkO q loose XP YP l.row.toRowW d [] (fun f vs => PySem.call f vs) :=
  L2.walk_of (n := 63) (k := 2) (x := "_law_script") (CX := fun _ => CX0) (sp := fun w => sp_law (K w.params)) hn (by decide) hdf ⟨rfl, by decide, by decide⟩ hY F
    (fun w H a ns hl _ hS => ⟨ns, H, [], Desc.refl H, ⟨.ref a, rfl, ⟨a, ns.map V.int, rfl, hS, Rs.of_map (fun _ => rfl) ns⟩, hl⟩, fun v _ _ _ _ hv => hv.trans (congrArg V.bl (law_true ns))⟩) fun _ _ _ _ _ z => z
end Ck17
open PySem PySem.W PyProof.Rows in
set_option maxRecDepth 100000 in
set_option maxHeartbeats 0 in
theorem PySem.Challenge.cw_corebank_k17_whole_splitting_a_balance_holds : PySem.Challenge.rw_corebank_k17_whole_splitting_a_balance.Holds := by
  w_on; o_law; k_head; (case hw => w_witness2)
  k_fill
  refine Ck17.walk (l := PySem.Challenge.rw_corebank_k17_whole_splitting_a_balance) rfl rfl (fun w h Y => PySem.W.kIn_of Y) ?F
  case F =>
    intro w mg fa h KX G hmg
    refine' Ck17.all_mk KX G hmg ?a1 ?l1 ?c1 ?k1 ?a2 ?l2 ?c2 ?k2 ?a3 ?l3 ?c3 ?k3 ?a4 ?l4 ?c4 ?k4 ?a5 ?l5 ?c5 ?k5 ?z_enumerate ?z_int ?z_len ?z_list ?z_max ?z_min ?z_range ?z_sorted
    (case a1 => k_is)
    (case l1 => k_is)
    (case c1 => k_is)
    (case k1 => k_is)
    (case a2 => k_is)
    (case l2 => k_is)
    (case c2 => k_is)
    (case k2 => k_is)
    (case a3 => k_is)
    (case l3 => k_is)
    (case c3 => k_is)
    (case k3 => k_is)
    (case a4 => k_is)
    (case l4 => k_is)
    (case c4 => k_is)
    (case k4 => k_is)
    (case a5 => k_is)
    (case l5 => k_is)
    (case c5 => k_is)
    (case k5 => k_is)
    (case z_enumerate => k_is)
    (case z_int => k_is)
    (case z_len => k_is)
    (case z_list => k_is)
    (case z_max => k_is)
    (case z_min => k_is)
    (case z_range => k_is)
    (case z_sorted => k_is)

