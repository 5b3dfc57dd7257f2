import PyProof.Rows.All
import Wide.All
import OpenK.AllK
import Wide.FinOn
import HandS.ForMost
import HandS.ForExc
import HandS.Walk
import HandS.Codes
import HandS.Wide
import HandS.IsInst
import HandS.SortInts
import HandS.SortKw
import HandS.WordsExc
import HandS.ExcOwn
import HandS.TryOnly
import HandS.HotCalls
import HandS.ExcIs
import KE.KIsAll
import HandS.TupLe
import HandS.Text
import KE.DataCmp
import HandS.TupAny
import PySem.Challenge.RW_corebank_k08_whole_adjust
set_option Elab.async false
set_option linter.all false
set_option maxRecDepth 100000
set_option maxHeartbeats 4000000
set_option Elab.async false
/-! J: a layer of our own over the hand layer. The abstract heap is split: G, what never changes any more; cs, the cells that may still change, one after another. -/
namespace J
open PySem L2

/-! ### heaps in two parts -/
abbrev Cells := List (Addr × HO)
structure Desc (G : Hp) (cs : Cells) (H : Hp) : Prop where
  same : Same G H
  nd : (cs.map Prod.fst).Nodup
  cell : ∀ c ∈ cs, H c.1 = some c.2 ∧ G c.1 = none
theorem Desc.at_ {G H : Hp} {cs : Cells} (d : Desc G cs H) {a : Addr} {o : HO} (h : (a, o) ∈ cs) : H a = some o := (d.cell _ h).1
theorem Desc.new {G H : Hp} {cs : Cells} (d : Desc G cs H) {p : Addr} (hp : H p = none) (o : HO) : Desc (upd G p o) cs (upd H p o) := by
  refine ⟨fun a u e => ?_, d.nd, fun c hc => ?_⟩
  · by_cases h : a = p
    · subst h
      rw [upd_same] at e
      rw [upd_same]
      exact e
    · rw [upd_ne h] at e
      rw [upd_ne h]
      exact d.same a u e
  · obtain ⟨h1, h2⟩ := d.cell c hc
    have ne : c.1 ≠ p := ne_of_none h1 hp
    rw [upd_ne ne, upd_ne ne]
    exact ⟨h1, h2⟩
theorem Same.fresh {G H : Hp} (s : Same G H) {p : Addr} (hp : H p = none) (o : HO) : Same G (upd G p o) := fun a u e => by
  have ne : a ≠ p := fun z => by
    subst z
    rw [s a u e] at hp
    cases hp
  rw [upd_ne ne]
  exact e
theorem Desc.newCell {G H : Hp} {cs : Cells} (d : Desc G cs H) {p : Addr} (hp : H p = none) (o : HO) : Desc G ((p, o) :: cs) (upd H p o) := by
  refine ⟨fun a u e => ?_, ?_, fun c hc => ?_⟩
  · have ne : a ≠ p := ne_of_none (d.same a u e) hp
    rw [upd_ne ne]
    exact d.same a u e
  · refine List.nodup_cons.mpr ⟨fun hm => ?_, d.nd⟩
    obtain ⟨c, hc, e⟩ := List.mem_map.mp hm
    have e2 : c.1 = p := e
    have q := (d.cell c hc).1
    rw [e2, hp] at q
    cases q
  · rcases List.mem_cons.mp hc with e | hc
    · subst e
      exact ⟨upd_same, d.same.free hp⟩
    · obtain ⟨h1, h2⟩ := d.cell c hc
      have ne : c.1 ≠ p := ne_of_none h1 hp
      rw [upd_ne ne]
      exact ⟨h1, h2⟩
theorem nd_of_set {cs : Cells} {k : Nat} {a : Addr} {o o' : HO} (h : cs[k]? = some (a, o)) : (cs.set k (a, o')).map Prod.fst = cs.map Prod.fst := by
  induction cs generalizing k with
  | nil => cases k <;> rfl
  | cons c cs ih =>
    cases k with
    | zero =>
      have e : c = (a, o) := Option.some.inj h
      subst e
      rfl
    | succ k =>
      show c.1 :: (cs.set k (a, o')).map Prod.fst = c.1 :: cs.map Prod.fst
      rw [ih (k := k) h]
theorem mem_set_cases {cs : Cells} {k : Nat} {a : Addr} {o o' : HO} (nd : (cs.map Prod.fst).Nodup) (h : cs[k]? = some (a, o)) {c : Addr × HO} (hc : c ∈ cs.set k (a, o')) : c = (a, o') ∨ (c ∈ cs ∧ c.1 ≠ a) := by
  induction cs generalizing k with
  | nil => cases k <;> cases h
  | cons d cs ih =>
    have nd1 : d.1 ∉ cs.map Prod.fst := (List.nodup_cons.mp nd).1
    have nd2 : (cs.map Prod.fst).Nodup := (List.nodup_cons.mp nd).2
    cases k with
    | zero =>
      have e : d = (a, o) := Option.some.inj h
      subst e
      rcases List.mem_cons.mp hc with e | hc
      · exact .inl e
      · refine .inr ⟨List.mem_cons_of_mem _ hc, fun z => nd1 ?_⟩
        show a ∈ cs.map Prod.fst
        rw [← z]
        exact List.mem_map.mpr ⟨c, hc, rfl⟩
    | succ k =>
      have hm : (a, o) ∈ cs := List.mem_of_getElem? (i := k) h
      rcases List.mem_cons.mp hc with e | hc
      · refine .inr ⟨List.mem_cons.mpr (.inl e), fun z => nd1 ?_⟩
        rw [e] at z
        rw [z]
        exact List.mem_map.mpr ⟨(a, o), hm, rfl⟩
      · rcases ih nd2 (k := k) h hc with e | ⟨h1, h2⟩
        · exact .inl e
        · exact .inr ⟨List.mem_cons_of_mem _ h1, h2⟩
theorem Desc.write {G H : Hp} {cs : Cells} (d : Desc G cs H) {k : Nat} {a : Addr} {o : HO} (h : cs[k]? = some (a, o)) (o' : HO) : Desc G (cs.set k (a, o')) (upd H a o') := by
  have hm : (a, o) ∈ cs := List.mem_of_getElem? h
  obtain ⟨ha, hg⟩ := d.cell _ hm
  refine ⟨fun b u e => ?_, ?_, fun c hc => ?_⟩
  · have ne : b ≠ a := fun z => by
      subst z
      rw [hg] at e
      cases e
    rw [upd_ne ne]
    exact d.same b u e
  · rw [nd_of_set h]
    exact d.nd
  · rcases mem_set_cases d.nd h hc with e | ⟨h1, h2⟩
    · subst e
      exact ⟨upd_same, hg⟩
    · rw [upd_ne h2]
      exact d.cell c h1
theorem Desc.freeze {G H : Hp} {cs : Cells} {a : Addr} {o : HO} (d : Desc G ((a, o) :: cs) H) : Same G (upd G a o) ∧ Desc (upd G a o) cs H := by
  obtain ⟨ha, hg⟩ := d.cell (a, o) List.mem_cons_self
  refine ⟨fun b u e => ?_, fun b u e => ?_, (List.nodup_cons.mp d.nd).2, fun c hc => ?_⟩
  · have ne : b ≠ a := fun z => by
      subst z
      rw [hg] at e
      cases e
    rw [upd_ne ne]
    exact e
  · by_cases z : b = a
    · subst z
      rw [upd_same] at e
      cases e
      exact ha
    · rw [upd_ne z] at e
      exact d.same b u e
  · obtain ⟨h1, h2⟩ := d.cell c (List.mem_cons_of_mem _ hc)
    have ne : c.1 ≠ a := fun z => (List.nodup_cons.mp d.nd).1 (by
      show a ∈ cs.map Prod.fst
      rw [← z]
      exact List.mem_map.mpr ⟨c, hc, rfl⟩)
    rw [upd_ne ne]
    exact ⟨h1, h2⟩
theorem Desc.forget {G H : Hp} {cs : Cells} {c : Addr × HO} (d : Desc G (c :: cs) H) : Desc G cs H :=
  ⟨d.same, (List.nodup_cons.mp d.nd).2, fun x hx => d.cell x (List.mem_cons_of_mem _ hx)⟩
theorem Desc.perm {G H : Hp} {cs cs' : Cells} (d : Desc G cs H) (p : cs.Perm cs') : Desc G cs' H :=
  ⟨d.same, (p.map Prod.fst).nodup_iff.mp d.nd, fun x hx => d.cell x (p.mem_iff.mpr hx)⟩
theorem Desc.refl (H : Hp) : Desc H [] H := ⟨Same.refl H, List.nodup_nil, fun _ h => nomatch h⟩
theorem seqT {K : PySem.W.Frag} {H H' : Hp} {a : Addr} {xs : List V} (e : Same H H') (h : SqT K H a xs) : SqT K H' a xs := by
  rcases h with (h | ⟨o, h⟩) | h
  · exact .inl (.inl (e _ _ h))
  · exact .inl (.inr ⟨o, e _ _ h⟩)
  · exact .inr h

/-! ### judgements by what the machine does -/
section
variable (X : Cx)
structure wE (e : Expr) (σ : L2.St) (H : Hp) (Q : VK) : Prop where
  run : ∀ pins s, Inv X pins σ H s → wpAny (model X.prog X.w) X.A (eval e X.env) (EP X pins σ Q) X.xe s
structure wT (e : Expr) (σ : L2.St) (H : Hp) (Q : Bool → Hp → Prop) : Prop where
  run : ∀ pins s, Inv X pins σ H s → wpAny (model X.prog X.w) X.A (isTrue e X.env (eval e X.env)) (TP X pins σ Q) X.xe s
structure wW (e : Expr) (σ : L2.St) (H : Hp) (Q : Bool → Hp → Prop) : Prop where
  run : ∀ (whole : Sem Value) pins s, Inv X pins σ H s → wpAny (model X.prog X.w) X.A (isTrue e X.env whole) (TP X pins σ Q) X.xe s
structure wA (es : List Expr) (σ : L2.St) (H : Hp) (Q : List V → Hp → Prop) : Prop where
  run : ∀ (pos : Pos) pins s, Inv X pins σ H s → wpAny (model X.prog X.w) X.A (spliced (backTo pos (starEach es X.env))) (AP X pins σ Q) X.xe s
structure wS (st : Stmt) (D : Ends) (σ : L2.St) (H : Hp) : Prop where
  run : ∀ pins s, Inv X pins σ H s → wpAny (model X.prog X.w) X.A (exec st X.env) (SP X pins D) X.xe s
structure wSs (st : List Stmt) (D : Ends) (σ : L2.St) (H : Hp) : Prop where
  run : ∀ pins s, Inv X pins σ H s → wpAny (model X.prog X.w) X.A (execs st X.env) (SP X pins D) X.xe s
theorem sE (e : Expr) : PE X e (wE X e) := ⟨fun pins s _ _ _ I h => h.run pins s I⟩
theorem sT (e : Expr) : PT X e (wT X e) := ⟨fun pins s _ _ _ I h => h.run pins s I⟩
theorem sW (e : Expr) : PW X e (wW X e) := ⟨fun whole pins s _ _ _ I h => h.run whole pins s I⟩
theorem sA (es : List Expr) : PA X es (wA X es) := ⟨fun pos pins s _ _ _ I h => h.run pos pins s I⟩
theorem sS (st : Stmt) : PS X st (wS X st) := ⟨fun pins s _ _ _ I h => h.run pins s I⟩
theorem sSs (st : List Stmt) : PSs X st (wSs X st) := ⟨fun pins s _ _ _ I h => h.run pins s I⟩
end
section
variable {X : Cx} {e : Expr} {es : List Expr} {st : Stmt} {sts : List Stmt} {σ : L2.St} {H : Hp}
theorem uE {t : TE} {Q : VK} (h : PE X e t) (q : t σ H Q) : wE X e σ H Q := ⟨fun pins s I => h.run pins s σ H Q I q⟩
theorem uT {t : TT} {Q : Bool → Hp → Prop} (h : PT X e t) (q : t σ H Q) : wT X e σ H Q := ⟨fun pins s I => h.run pins s σ H Q I q⟩
theorem uW {t : TT} {Q : Bool → Hp → Prop} (h : PW X e t) (q : t σ H Q) : wW X e σ H Q := ⟨fun whole pins s I => h.run whole pins s σ H Q I q⟩
theorem uA {t : TA} {Q : List V → Hp → Prop} (h : PA X es t) (q : t σ H Q) : wA X es σ H Q := ⟨fun pos pins s I => h.run pos pins s σ H Q I q⟩
theorem uS {t : TS} {D : Ends} (h : PS X st t) (q : t D σ H) : wS X st D σ H := ⟨fun pins s I => h.run pins s σ H D I q⟩
theorem uSs {t : TS} {D : Ends} (h : PSs X sts t) (q : t D σ H) : wSs X sts D σ H := ⟨fun pins s I => h.run pins s σ H D I q⟩
end

/-- e comes to a value that P tells of; what was frozen stays, no cell changes -/
def D (X : Cx) (e : Expr) (σ : L2.St) (G : Hp) (cs : Cells) (P : Hp → V → Prop) : Prop :=
  ∀ G1 H, Same G G1 → Desc G1 cs H → ∀ Q : VK, (∀ G2 H2 v, Same G1 G2 → Desc G2 cs H2 → P G2 v → Q v H2) → wE X e σ H Q
def T (X : Cx) (e : Expr) (σ : L2.St) (G : Hp) (cs : Cells) (b : Bool) : Prop :=
  ∀ G1 H, Same G G1 → Desc G1 cs H → ∀ Q : Bool → Hp → Prop, (∀ G2 H2, Same G1 G2 → Desc G2 cs H2 → Q b H2) → wT X e σ H Q
def TW (X : Cx) (e : Expr) (σ : L2.St) (G : Hp) (cs : Cells) (b : Bool) : Prop :=
  ∀ G1 H, Same G G1 → Desc G1 cs H → ∀ Q : Bool → Hp → Prop, (∀ G2 H2, Same G1 G2 → Desc G2 cs H2 → Q b H2) → wW X e σ H Q
def A (X : Cx) (es : List Expr) (σ : L2.St) (G : Hp) (cs : Cells) (P : Hp → List V → Prop) : Prop :=
  ∀ G1 H, Same G G1 → Desc G1 cs H → ∀ Q : List V → Hp → Prop, (∀ G2 H2 vs, Same G1 G2 → Desc G2 cs H2 → P G2 vs → Q vs H2) → wA X es σ H Q

class Mono (P : Hp → V → Prop) : Prop where
  mono : ∀ {G G' : Hp} {v : V}, Same G G' → P G v → P G' v
class MonoA (P : Hp → List V → Prop) : Prop where
  mono : ∀ {G G' : Hp} {v : List V}, Same G G' → P G v → P G' v

/-! ### what a value tells -/
def rI (i : Int) : Hp → V → Prop := fun _ v => v = .int i
def rB (b : Bool) : Hp → V → Prop := fun _ v => v = .bl b
def rS (l : List Nat) : Hp → V → Prop := fun _ v => v = .str (SX.S l)
def rN (_ : Unit) : Hp → V → Prop := fun _ v => v = .non
def rV (w : V) : Hp → V → Prop := fun _ v => v = w
def rO {α : Type} (r : α → Hp → V → Prop) : Option α → Hp → V → Prop
  | none => fun _ v => v = .non
  | some x => r x
def Rs {α : Type} (r : α → Hp → V → Prop) (G : Hp) : List α → List V → Prop := Paired fun x v => r x G v
def rL (K : PySem.W.Frag) {α : Type} (r : α → Hp → V → Prop) (xs : List α) : Hp → V → Prop := fun G v => ∃ a vs, v = .ref a ∧ SqL K G a vs ∧ Rs r G xs vs
/-- a list that may be read: frozen, or a cell -/
def rdL (K : PySem.W.Frag) (cs : Cells) {α : Type} (r : α → Hp → V → Prop) (xs : List α) : Hp → V → Prop := fun G v => ∃ a vs, v = .ref a ∧ (SqL K G a vs ∨ (a, .lst vs) ∈ cs) ∧ Rs r G xs vs
def rT (K : PySem.W.Frag) {α : Type} (r : α → Hp → List V → Prop) (x : α) : Hp → V → Prop := fun G v => ∃ a vs, v = .ref a ∧ SqT K G a vs ∧ r x G vs
/-- the places of a tuple -/
def c0 {α : Type} (r : α → Hp → V → Prop) (x : α) : Hp → List V → Prop := fun G vs => ∃ v, vs = [v] ∧ r x G v
def cc {α β : Type} (r : α → Hp → V → Prop) (r' : β → Hp → List V → Prop) (x : α × β) : Hp → List V → Prop := fun G vs => ∃ v ws, vs = v :: ws ∧ r x.1 G v ∧ r' x.2 G ws
theorem Rs.mono {α : Type} {r : α → Hp → V → Prop} [m : ∀ x, Mono (r x)] {G G' : Hp} (e : Same G G') : ∀ {xs : List α} {vs : List V}, Rs r G xs vs → Rs r G' xs vs
  | _, _, .nil => .nil
  | _, _, .cons h t => .cons ((m _).mono e h) (Rs.mono e t)
theorem Rs.length {α : Type} {r : α → Hp → V → Prop} {G : Hp} {xs : List α} {vs : List V} (h : Rs r G xs vs) : xs.length = vs.length := Paired.length h
theorem Rs.get {α : Type} {r : α → Hp → V → Prop} {G : Hp} : ∀ {xs : List α} {vs : List V} {i : Nat} {x : α}, Rs r G xs vs → xs[i]? = some x → ∃ v, vs[i]? = some v ∧ r x G v
  | _, _, _, _, .nil, e => by simp at e
  | _, _, 0, _, .cons h _, e => by
    simp at e
    subst e
    exact ⟨_, rfl, h⟩
  | _, _, i + 1, x, .cons _ t, e => by
    obtain ⟨v, h1, h2⟩ := Rs.get (i := i) (x := x) t (by simpa using e)
    exact ⟨v, by simpa using h1, h2⟩
theorem Rs.getV {α : Type} {r : α → Hp → V → Prop} {G : Hp} : ∀ {xs : List α} {vs : List V} {i : Nat} {v : V}, Rs r G xs vs → vs[i]? = some v → ∃ x, xs[i]? = some x ∧ r x G v
  | _, _, _, _, .nil, e => by simp at e
  | _, _, 0, _, .cons h _, e => by
    simp at e
    subst e
    exact ⟨_, rfl, h⟩
  | _, _, i + 1, x, .cons _ t, e => by
    obtain ⟨v, h1, h2⟩ := Rs.getV (i := i) (v := x) t (by simpa using e)
    exact ⟨v, by simpa using h1, h2⟩
theorem Rs.snoc {α : Type} {r : α → Hp → V → Prop} {G : Hp} {x : α} {v : V} (hx : r x G v) : ∀ {xs : List α} {vs : List V}, Rs r G xs vs → Rs r G (xs ++ [x]) (vs ++ [v])
  | _, _, .nil => .cons hx .nil
  | _, _, .cons h t => .cons h (Rs.snoc hx t)
theorem Rs.append {α : Type} {r : α → Hp → V → Prop} {G : Hp} {ys : List α} {ws : List V} (hy : Rs r G ys ws) : ∀ {xs : List α} {vs : List V}, Rs r G xs vs → Rs r G (xs ++ ys) (vs ++ ws)
  | _, _, .nil => hy
  | _, _, .cons h t => .cons h (Rs.append hy t)
theorem Rs.set {α : Type} {r : α → Hp → V → Prop} {G : Hp} {x : α} {v : V} (hx : r x G v) : ∀ {xs : List α} {vs : List V} (i : Nat), Rs r G xs vs → Rs r G (xs.set i x) (vs.set i v)
  | _, _, _, .nil => .nil
  | _, _, 0, .cons _ t => .cons hx t
  | _, _, i + 1, .cons h t => .cons h (Rs.set hx i t)
theorem Rs.take {α : Type} {r : α → Hp → V → Prop} {G : Hp} : ∀ {xs : List α} {vs : List V} (n : Nat), Rs r G xs vs → Rs r G (xs.take n) (vs.take n)
  | _, _, 0, _ => .nil
  | _, _, _ + 1, .nil => .nil
  | _, _, n + 1, .cons h t => .cons h (Rs.take n t)
theorem Rs.drop {α : Type} {r : α → Hp → V → Prop} {G : Hp} : ∀ {xs : List α} {vs : List V} (n : Nat), Rs r G xs vs → Rs r G (xs.drop n) (vs.drop n)
  | _, _, 0, h => h
  | _, _, _ + 1, .nil => .nil
  | _, _, n + 1, .cons _ t => Rs.drop n t
theorem Rs.map {α : Type} {r : α → Hp → V → Prop} {f : α → V} {G : Hp} (h : ∀ x v, r x G v → v = f x) : ∀ {xs : List α} {vs : List V}, Rs r G xs vs → vs = xs.map f
  | _, _, .nil => rfl
  | _, _, .cons p t => by
    rw [h _ _ p, Rs.map h t]
    rfl
theorem Rs.of_map {α : Type} {r : α → Hp → V → Prop} {f : α → V} {G : Hp} (h : ∀ x, r x G (f x)) : ∀ (xs : List α), Rs r G xs (xs.map f)
  | [] => .nil
  | x :: xs => .cons (h x) (Rs.of_map h xs)
instance (i : Int) : Mono (rI i) := ⟨fun _ h => h⟩
instance (b : Bool) : Mono (rB b) := ⟨fun _ h => h⟩
instance (l : List Nat) : Mono (rS l) := ⟨fun _ h => h⟩
instance (u : Unit) : Mono (rN u) := ⟨fun _ h => h⟩
instance (w : V) : Mono (rV w) := ⟨fun _ h => h⟩
instance {α : Type} (r : α → Hp → V → Prop) [m : ∀ x, Mono (r x)] (o : Option α) : Mono (rO r o) := by
  cases o with
  | none => exact ⟨fun _ h => h⟩
  | some x => exact m x
instance (K : PySem.W.Frag) {α : Type} (r : α → Hp → V → Prop) [m : ∀ x, Mono (r x)] (xs : List α) : Mono (rL K r xs) :=
  ⟨fun e ⟨a, vs, h1, h2, h3⟩ => ⟨a, vs, h1, e.seq h2, h3.mono e⟩⟩
instance (K : PySem.W.Frag) (cs : Cells) {α : Type} (r : α → Hp → V → Prop) [m : ∀ x, Mono (r x)] (xs : List α) : Mono (rdL K cs r xs) :=
  ⟨fun e ⟨a, vs, h1, h2, h3⟩ => ⟨a, vs, h1, h2.imp (e.seq) id, h3.mono e⟩⟩
instance (K : PySem.W.Frag) {α : Type} (r : α → Hp → List V → Prop) [m : ∀ x, MonoA (r x)] (x : α) : Mono (rT K r x) :=
  ⟨fun e ⟨a, vs, h1, h2, h3⟩ => ⟨a, vs, h1, seqT e h2, (m x).mono e h3⟩⟩
instance {α : Type} (r : α → Hp → V → Prop) [m : ∀ x, Mono (r x)] (x : α) : MonoA (c0 r x) := ⟨fun e ⟨v, h1, h2⟩ => ⟨v, h1, (m x).mono e h2⟩⟩
instance {α β : Type} (r : α → Hp → V → Prop) (r' : β → Hp → List V → Prop) [m : ∀ x, Mono (r x)] [m' : ∀ x, MonoA (r' x)] (x : α × β) : MonoA (cc r r' x) :=
  ⟨fun e ⟨v, ws, h1, h2, h3⟩ => ⟨v, ws, h1, (m x.1).mono e h2, (m' x.2).mono e h3⟩⟩
theorem rdL_of {K : PySem.W.Frag} {cs : Cells} {α : Type} {r : α → Hp → V → Prop} {xs : List α} {G : Hp} {v : V} (h : rL K r xs G v) : rdL K cs r xs G v :=
  let ⟨a, vs, h1, h2, h3⟩ := h
  ⟨a, vs, h1, .inl h2, h3⟩
theorem rdL_cell {K : PySem.W.Frag} {cs : Cells} {α : Type} {r : α → Hp → V → Prop} {xs : List α} {G : Hp} {a : Addr} {vs : List V} (h : (a, .lst vs) ∈ cs) (h3 : Rs r G xs vs) : rdL K cs r xs G (.ref a) := ⟨a, vs, rfl, .inr h, h3⟩
theorem rdL.sq {K : PySem.W.Frag} {cs : Cells} {α : Type} {r : α → Hp → V → Prop} {xs : List α} {G H : Hp} {v : V} (h : rdL K cs r xs G v) (d : Desc G cs H) : ∃ a vs, v = .ref a ∧ SqL K H a vs ∧ Rs r G xs vs := by
  obtain ⟨a, vs, h1, h2, h3⟩ := h
  refine ⟨a, vs, h1, ?_, h3⟩
  rcases h2 with h2 | h2
  · exact d.same.seq h2
  · exact SqL.of (d.at_ h2)

/-! ### expressions -/
section
variable {X : Cx} {σ : L2.St} {G : Hp} {cs : Cells} {e a b c : Expr} {es : List Expr} {P Pa Pb Pc : Hp → V → Prop} {pos p : Pos}
theorem D.imp {P' : Hp → V → Prop} (h : D X e σ G cs P) (i : ∀ G v, P G v → P' G v) : D X e σ G cs P' := fun G1 H s d Q q => h G1 H s d Q fun G2 H2 v s2 d2 p => q G2 H2 v s2 d2 (i G2 v p)
theorem D.up {G' : Hp} (h : D X e σ G cs P) (s : Same G G') : D X e σ G' cs P := fun G1 H s1 d Q q => h G1 H (s.trans s1) d Q q
theorem T.up {G' : Hp} {k : Bool} (h : T X e σ G cs k) (s : Same G G') : T X e σ G' cs k := fun G1 H s1 d Q q => h G1 H (s.trans s1) d Q q
/-- by a rule of the layer -/
theorem d_by {t : TE} (h : PE X e t) (q : ∀ G1 H, Same G G1 → Desc G1 cs H → ∀ Q : VK, (∀ G2 H2 v, Same G1 G2 → Desc G2 cs H2 → P G2 v → Q v H2) → t σ H Q) : D X e σ G cs P := fun G1 H s d Q k => uE h (q G1 H s d Q k)
theorem d_var (i : Nat) {x : Str} {v : V} [m : Mono P] (hs : σ[i]? = some (some v)) (hp : P G v) (hN : X.N[i]? = some x := by rfl) (hv : Vis X.env.scope x := by first | exact Or.inl rfl | exact Or.inr (Or.inl rfl) | exact Or.inr (Or.inr rfl))
    (hd : (x == ("__debug__" : Str)) = false := by decide) (hcd : (x == ("__classdict__" : Str)) = false := by decide) : D X (.Name x pos) σ G cs P :=
  d_by (pe_var hN hv hd hcd) fun G1 H s d Q q => ⟨v, hs, q G1 H v (Same.refl _) d (m.mono s hp)⟩
theorem d_int {i : Int} {j : Nat} : D X (.Constant (.int i) j pos) σ G cs (rI i) := d_by pe_int fun G1 H s d Q q => q G1 H _ (Same.refl _) d rfl
theorem d_bl {i : Bool} {j : Nat} : D X (.Constant (.bool i) j pos) σ G cs (rB i) := d_by pe_bl fun G1 H s d Q q => q G1 H _ (Same.refl _) d rfl
theorem d_non {j : Nat} : D X (.Constant .none j pos) σ G cs (rN ()) := d_by pe_non fun G1 H s d Q q => q G1 H _ (Same.refl _) d rfl
theorem d_str {x : Str} {l : List Nat} {j : Nat} (h : x = SX.S l) : D X (.Constant (.str x) j pos) σ G cs (rS l) := d_by pe_str fun G1 H s d Q q => q G1 H _ (Same.refl _) d (by rw [h]; rfl)
/-- a module's constant by its value -/
theorem d_glob {x : Str} {v : V} [m : Mono P] (hg : Gl X x) (h : ∃ u, X.mg x = some u ∧ RelV v u) (hp : P G v) (hd : (x == ("__debug__" : Str)) = false := by decide) : D X (.Name x pos) σ G cs P := by
  obtain ⟨u, hm, r⟩ := h
  exact d_by (pe_glob hg hm r hd) fun G1 H s d Q q => q G1 H v (Same.refl _) d (m.mono s hp)
/-- a two-place operation -/
theorem d_bin {op : Operator} {r : R2} [Mono Pa] (ho : OpR X (binaryOp op) r) (ha : D X a σ G cs Pa) (hb : D X b σ G cs Pb)
    (hr : ∀ G1 H x y, Same G G1 → Desc G1 cs H → Pa G1 x → Pb G1 y → ∀ Q : VK, (∀ G2 H2 v, Same G1 G2 → Desc G2 cs H2 → P G2 v → Q v H2) → r x y H Q) : D X (.BinOp a op b pos) σ G cs P :=
  d_by (pe_op ho (sE X a) (sE X b)) fun G1 H s d Q q => ha G1 H s d _ fun G2 H2 x s2 d2 hx => hb G2 H2 (s.trans s2) d2 _ fun G3 H3 y s3 d3 hy =>
    hr G3 H3 x y ((s.trans s2).trans s3) d3 (Mono.mono s3 hx) hy Q fun G4 H4 v s4 d4 hv => q G4 H4 v ((s2.trans s3).trans s4) d4 hv
theorem d_un {op : UnaryOp} {r : V → Hp → VK → Prop} (ho : UnR X (unaryOp op) r) (ha : D X a σ G cs Pa)
    (hr : ∀ G1 H x, Same G G1 → Desc G1 cs H → Pa G1 x → ∀ Q : VK, (∀ G2 H2 v, Same G1 G2 → Desc G2 cs H2 → P G2 v → Q v H2) → r x H Q) : D X (.UnaryOp op a pos) σ G cs P :=
  d_by (pe_un ho (sE X a)) fun G1 H s d Q q => ha G1 H s d _ fun G2 H2 x s2 d2 hx => hr G2 H2 x (s.trans s2) d2 hx Q fun G4 H4 v s4 d4 hv => q G4 H4 v (s2.trans s4) d4 hv
/-- comparisons, as values and as tests -/
theorem d_cmp {op : CmpOp} {r : R2} {k : Bool} [Mono Pa] (ho : OpR X (compareOp op) r) (hm : behindInMarks op b = false) (ha : D X a σ G cs Pa) (hb : D X b σ G cs Pb)
    (hr : ∀ G1 H x y, Same G G1 → Desc G1 cs H → Pa G1 x → Pb G1 y → ∀ Q : VK, Q (.bl k) H → r x y H Q) : D X (.Compare a [op] [b] pos) σ G cs (rB k) :=
  d_by (pe_cmpR ho (sE X a) (sE X b) hm) fun G1 H s d Q q => ha G1 H s d _ fun G2 H2 x s2 d2 hx => hb G2 H2 (s.trans s2) d2 _ fun G3 H3 y s3 d3 hy =>
    hr G3 H3 x y ((s.trans s2).trans s3) d3 (Mono.mono s3 hx) hy Q (q G3 H3 _ (s2.trans s3) d3 rfl)
theorem t_cmp {op : CmpOp} {r : R2} {k : Bool} [Mono Pa] (ho : OpR X (compareOp op) r) (hm : behindInMarks op b = false) (ha : D X a σ G cs Pa) (hb : D X b σ G cs Pb)
    (hr : ∀ G1 H x y, Same G G1 → Desc G1 cs H → Pa G1 x → Pb G1 y → ∀ Q : VK, Q (.bl k) H → r x y H Q) : T X (.Compare a [op] [b] pos) σ G cs k := fun G1 H s d Q q =>
  uT (pt_cmpR ho (sE X a) (sE X b) hm) (ha G1 H s d _ fun G2 H2 x s2 d2 hx => hb G2 H2 (s.trans s2) d2 _ fun G3 H3 y s3 d3 hy =>
    hr G3 H3 x y ((s.trans s2).trans s3) d3 (Mono.mono s3 hx) hy _ ⟨k, rfl, q G3 H3 (s2.trans s3) d3⟩)
theorem d_chain {op op' : CmpOp} {r r' : R2} {k k' : Bool} [Mono Pa] [Mono Pb] (ho : OpR X (compareOp op) r) (ho' : OpR X (compareOp op') r') (ha : D X a σ G cs Pa) (hb : D X b σ G cs Pb) (hc : D X c σ G cs Pc)
    (hr : ∀ G1 H x y, Same G G1 → Desc G1 cs H → Pa G1 x → Pb G1 y → ∀ Q : VK, Q (.bl k) H → r x y H Q) (hr' : ∀ G1 H x y, Same G G1 → Desc G1 cs H → Pb G1 x → Pc G1 y → ∀ Q : VK, Q (.bl k') H → r' x y H Q)
    (hm : lastMarks [op, op'] [b, c] = false := by with_unfolding_all rfl) : D X (.Compare a [op, op'] [b, c] pos) σ G cs (rB (k && k')) :=
  d_by (pe_chain ho ho' (sE X a) (sE X b) (sE X c) hm) fun G1 H s d Q q => ha G1 H s d _ fun G2 H2 x s2 d2 hx => hb G2 H2 (s.trans s2) d2 _ fun G3 H3 y s3 d3 hy => by
    refine hr G3 H3 x y ((s.trans s2).trans s3) d3 (Mono.mono s3 hx) hy _ ⟨k, rfl, ?_⟩
    cases k with
    | false => exact q G3 H3 _ (s2.trans s3) d3 rfl
    | true => exact hc G3 H3 ((s.trans s2).trans s3) d3 _ fun G4 H4 z s4 d4 hz => hr' G4 H4 y z (((s.trans s2).trans s3).trans s4) d4 (Mono.mono s4 hy) hz Q (q G4 H4 _ ((s2.trans s3).trans s4) d4 rfl)
theorem t_chain {op op' : CmpOp} {r r' : R2} {k k' : Bool} [Mono Pa] [Mono Pb] (ho : OpR X (compareOp op) r) (ho' : OpR X (compareOp op') r') (ha : D X a σ G cs Pa) (hb : D X b σ G cs Pb) (hc : D X c σ G cs Pc)
    (hr : ∀ G1 H x y, Same G G1 → Desc G1 cs H → Pa G1 x → Pb G1 y → ∀ Q : VK, Q (.bl k) H → r x y H Q) (hr' : ∀ G1 H x y, Same G G1 → Desc G1 cs H → Pb G1 x → Pc G1 y → ∀ Q : VK, Q (.bl k') H → r' x y H Q)
    (hm : lastMarks [op, op'] [b, c] = false := by with_unfolding_all rfl) : T X (.Compare a [op, op'] [b, c] pos) σ G cs (k && k') := fun G1 H s d Q q =>
  uT (pt_chain ho ho' (sE X a) (sE X b) (sE X c) hm) (ha G1 H s d _ fun G2 H2 x s2 d2 hx => hb G2 H2 (s.trans s2) d2 _ fun G3 H3 y s3 d3 hy => by
    refine hr G3 H3 x y ((s.trans s2).trans s3) d3 (Mono.mono s3 hx) hy _ ⟨k, rfl, ?_⟩
    cases k with
    | false => exact ⟨false, rfl, q G3 H3 (s2.trans s3) d3⟩
    | true => exact hc G3 H3 ((s.trans s2).trans s3) d3 _ fun G4 H4 z s4 d4 hz => hr' G4 H4 y z (((s.trans s2).trans s3).trans s4) d4 (Mono.mono s4 hy) hz _ ⟨k', rfl, q G4 H4 ((s2.trans s3).trans s4) d4⟩)
/-- and, or, not; as values, as tests -/
theorem t_val {k : Bool} (h : D X e σ G cs (rB k)) (he : ∀ whole, isTrue e X.env whole = (do let v ← whole; standAt e.pos; holding [v] (truthy v)) := by intro _; rfl) : T X e σ G cs k := fun G1 H s d Q q =>
  uT (pt_val (sE X e) he) (h G1 H s d _ fun G2 H2 v s2 d2 hv => ⟨k, hv, q G2 H2 s2 d2⟩)
theorem t_not {k : Bool} (h : T X a σ G cs k) : T X (.UnaryOp .Not a pos) σ G cs (!k) := fun G1 H s d Q q => uT (pt_not (sT X a)) (h G1 H s d _ fun G2 H2 s2 d2 => q G2 H2 s2 d2)
theorem t_w {k : Bool} (h : TW X e σ G cs k) : T X e σ G cs k := fun G1 H s d Q q => uT (PW.pt (sW X e)) (h G1 H s d Q q)
theorem w_and1 {k : Bool} (h : T X a σ G cs k) : TW X (.BoolOp .And [a] pos) σ G cs k := fun G1 H s d Q q => uW (pw_and1 (sT X a)) (h G1 H s d Q q)
theorem w_or1 {k : Bool} (h : T X a σ G cs k) : TW X (.BoolOp .Or [a] pos) σ G cs k := fun G1 H s d Q q => uW (pw_or1 (sT X a)) (h G1 H s d Q q)
theorem w_and {rest : List Expr} {k k' : Bool} (h : T X a σ G cs k) (h' : k = true → TW X (.BoolOp .And (b :: rest) pos) σ G cs k') : TW X (.BoolOp .And (a :: b :: rest) pos) σ G cs (k && k') := fun G1 H s d Q q =>
  uW (pw_and (sT X a) (sW X _)) (h G1 H s d _ fun G2 H2 s2 d2 => by
    cases k with
    | false => exact iteF (q G2 H2 s2 d2)
    | true => exact iteT (h' rfl G2 H2 (s.trans s2) d2 Q fun G3 H3 s3 d3 => q G3 H3 (s2.trans s3) d3))
theorem w_or {rest : List Expr} {k k' : Bool} (h : T X a σ G cs k) (h' : k = false → TW X (.BoolOp .Or (b :: rest) pos) σ G cs k') : TW X (.BoolOp .Or (a :: b :: rest) pos) σ G cs (k || k') := fun G1 H s d Q q =>
  uW (pw_or (sT X a) (sW X _)) (h G1 H s d _ fun G2 H2 s2 d2 => by
    cases k with
    | true => exact iteT (q G2 H2 s2 d2)
    | false => exact iteF (h' rfl G2 H2 (s.trans s2) d2 Q fun G3 H3 s3 d3 => q G3 H3 (s2.trans s3) d3))
theorem d_one {op : BoolOp} (h : D X a σ G cs P) : D X (.BoolOp op [a] pos) σ G cs P := fun G1 H s d Q q => uE (pe_one (sE X a)) (h G1 H s d Q q)
theorem d_and {rest : List Expr} {k k' : Bool} (h : D X a σ G cs (rB k)) (h' : k = true → D X (.BoolOp .And (b :: rest) pos) σ G cs (rB k')) : D X (.BoolOp .And (a :: b :: rest) pos) σ G cs (rB (k && k')) :=
  d_by (pe_and (sE X a) (sE X _)) fun G1 H s d Q q => h G1 H s d _ fun G2 H2 v s2 d2 hv => ⟨k, hv, by
    cases k with
    | false => exact iteF (q G2 H2 _ s2 d2 rfl)
    | true => exact iteT (h' rfl G2 H2 (s.trans s2) d2 Q fun G3 H3 w s3 d3 hw => q G3 H3 w (s2.trans s3) d3 hw)⟩
theorem d_or {rest : List Expr} {k k' : Bool} (h : D X a σ G cs (rB k)) (h' : k = false → D X (.BoolOp .Or (b :: rest) pos) σ G cs (rB k')) : D X (.BoolOp .Or (a :: b :: rest) pos) σ G cs (rB (k || k')) :=
  d_by (pe_or (sE X a) (sE X _)) fun G1 H s d Q q => h G1 H s d _ fun G2 H2 v s2 d2 hv => ⟨k, hv, by
    cases k with
    | true => exact iteT (q G2 H2 _ s2 d2 rfl)
    | false => exact iteF (h' rfl G2 H2 (s.trans s2) d2 Q fun G3 H3 w s3 d3 hw => q G3 H3 w (s2.trans s3) d3 hw)⟩
theorem d_not {k : Bool} (h : D X a σ G cs (rB k)) : D X (.UnaryOp .Not a pos) σ G cs (rB (!k)) :=
  d_by (pe_not (sE X a)) fun G1 H s d Q q => h G1 H s d _ fun G2 H2 v s2 d2 hv => ⟨k, hv, q G2 H2 _ s2 d2 rfl⟩
theorem d_if {α : Type} {k : Bool} {r : α → Hp → V → Prop} {x y : α} (hc : T X c σ G cs k) (ha : k = true → D X a σ G cs (r x)) (hb : k = false → D X b σ G cs (r y)) : D X (.IfExp c a b pos) σ G cs (r (if k = true then x else y)) :=
  d_by (pe_ifExp (sT X c) (sE X a) (sE X b)) fun G1 H s d Q q => hc G1 H s d _ fun G2 H2 s2 d2 => by
    cases k with
    | true => exact iteT (ha rfl G2 H2 (s.trans s2) d2 Q fun G3 H3 w s3 d3 hw => q G3 H3 w (s2.trans s3) d3 hw)
    | false => exact iteF (hb rfl G2 H2 (s.trans s2) d2 Q fun G3 H3 w s3 d3 hw => q G3 H3 w (s2.trans s3) d3 hw)
/-! arguments -/
def aN : Hp → List V → Prop := fun _ vs => vs = []
def aC (P : Hp → V → Prop) (Ps : Hp → List V → Prop) : Hp → List V → Prop := fun G vs => ∃ v ws, vs = v :: ws ∧ P G v ∧ Ps G ws
theorem a_nil : A X [] σ G cs aN := fun G1 H s d Q q => uA pa_nil (q G1 H _ (Same.refl _) d rfl)
def noStar : Expr → Bool
  | .Starred _ _ => false
  | _ => true
theorem star_plain {e : Expr} {es : List Expr} {env : Env} (h : noStar e = true) : starEach (e :: es) env = (false, eval e env) :: starEach es env := by
  cases e <;> first | rfl | cases h
theorem a_cons {Ps : Hp → List V → Prop} [Mono P] (h : D X e σ G cs P) (hs : A X es σ G cs Ps) (hst : starEach (e :: es) X.env = (false, eval e X.env) :: starEach es X.env := by exact star_plain rfl) : A X (e :: es) σ G cs (aC P Ps) := fun G1 H s d Q q =>
  uA (pa_cons (sE X e) (sA X es) hst) (h G1 H s d _ fun G2 H2 v s2 d2 hv => hs G2 H2 (s.trans s2) d2 _ fun G3 H3 ws s3 d3 hw => q G3 H3 _ (s2.trans s3) d3 ⟨v, ws, rfl, Mono.mono s3 hv, hw⟩)
theorem d_callB {x : Str} {id : String} {r : List V → Hp → VK → Prop} {Ps : Hp → List V → Prop} (hc : CallR X (.builtin id) r) (hm : X.mg x = none) (ha : A X (e :: es) σ G cs Ps)
    (hr : ∀ G1 H vs, Same G G1 → Desc G1 cs H → Ps G1 vs → ∀ Q : VK, (∀ G2 H2 v, Same G1 G2 → Desc G2 cs H2 → P G2 v → Q v H2) → r vs H Q)
    (hg : Gl X x := by rfl) (hv : bootBuiltins x = some (.builtin id) := by decide +kernel) (hn : x ≠ "__name__" := by decide) (hd : (x == ("__debug__" : Str)) = false := by decide)
    (he : starEach (e :: es) X.env = (false, eval e X.env) :: starEach es X.env := by exact star_plain rfl) (hpl : (backTo pos (starEach es X.env)).any (·.1) = false := by rfl) : D X (.Call (.Name x p) (e :: es) [] pos) σ G cs P :=
  d_by (pe_callB hc hg hm hv (sA X _) (hn := hn) (hdb := hd) (he := he) (hpl := hpl)) fun G1 H s d Q q => ha G1 H s d _ fun G2 H2 vs s2 d2 hvs => hr G2 H2 vs (s.trans s2) d2 hvs Q fun G3 H3 v s3 d3 h3 => q G3 H3 v (s2.trans s3) d3 h3
theorem d_callTy {x : Str} {id : String} {r : List V → Hp → VK → Prop} {Ps : Hp → List V → Prop} (hc : CallR X (.type id) r) (hm : X.mg x = none) (ha : A X (e :: es) σ G cs Ps)
    (hr : ∀ G1 H vs, Same G G1 → Desc G1 cs H → Ps G1 vs → ∀ Q : VK, (∀ G2 H2 v, Same G1 G2 → Desc G2 cs H2 → P G2 v → Q v H2) → r vs H Q)
    (hg : Gl X x := by rfl) (hv : bootBuiltins x = some (.type id) := by decide +kernel) (hn : x ≠ "__name__" := by decide) (hd : (x == ("__debug__" : Str)) = false := by decide)
    (he : starEach (e :: es) X.env = (false, eval e X.env) :: starEach es X.env := by exact star_plain rfl) (hpl : (backTo pos (starEach es X.env)).any (·.1) = false := by rfl) : D X (.Call (.Name x p) (e :: es) [] pos) σ G cs P :=
  d_by (pe_callTy hc hg hm hv (sA X _) (hn := hn) (hdb := hd) (he := he) (hpl := hpl)) fun G1 H s d Q q => ha G1 H s d _ fun G2 H2 vs s2 d2 hvs => hr G2 H2 vs (s.trans s2) d2 hvs Q fun G3 H3 v s3 d3 h3 => q G3 H3 v (s2.trans s3) d3 h3
end
end J

namespace J
open PySem L2

/-! ### what a block comes to -/
/-- ε errors, S the state behind the block, L the state of the loop around, R what is handed back -/
inductive Out (ε S L R : Type) where
  | nx (s : S) | bk (l : L) | ct (l : L) | rt (r : R) | er (k : ε)
namespace Out
variable {ε S S' L R : Type}
def bind (m : Out ε S L R) (k : S → Out ε S' L R) : Out ε S' L R := match m with
  | .nx s => k s
  | .bk l => .bk l
  | .ct l => .ct l
  | .rt r => .rt r
  | .er e => .er e
@[simp] theorem bind_nx (s : S) (k : S → Out ε S' L R) : (Out.nx s : Out ε S L R).bind k = k s := rfl
@[simp] theorem bind_bk (l : L) (k : S → Out ε S' L R) : (Out.bk l : Out ε S L R).bind k = .bk l := rfl
@[simp] theorem bind_ct (l : L) (k : S → Out ε S' L R) : (Out.ct l : Out ε S L R).bind k = .ct l := rfl
@[simp] theorem bind_rt (r : R) (k : S → Out ε S' L R) : (Out.rt r : Out ε S L R).bind k = .rt r := rfl
@[simp] theorem bind_er (e : ε) (k : S → Out ε S' L R) : (Out.er e : Out ε S L R).bind k = .er e := rfl
/-- the value of a body that hands back, and raises nothing -/
def val [Inhabited R] (m : Out Empty Unit Empty R) : R := match m with
  | .nx _ => default
  | .bk l => l.elim
  | .ct l => l.elim
  | .rt r => r
  | .er e => e.elim
@[simp] theorem val_rt [Inhabited R] (r : R) : (Out.rt r : Out Empty Unit Empty R).val = r := rfl
/-- of one that may raise -/
def res [Inhabited R] (m : Out ε Unit Empty R) : Except ε R := match m with
  | .nx _ => .ok default
  | .bk l => l.elim
  | .ct l => l.elim
  | .rt r => .ok r
  | .er e => .error e
@[simp] theorem res_rt [Inhabited R] (r : R) : (Out.rt r : Out ε Unit Empty R).res = .ok r := rfl
@[simp] theorem res_er [Inhabited R] (e : ε) : (Out.er e : Out ε Unit Empty R).res = .error e := rfl
@[simp] theorem res_nx [Inhabited R] (u : Unit) : (Out.nx u : Out ε Unit Empty R).res = .ok default := rfl
end Out
/-- a loop: f is a turn -/
def forL {ε S L R α : Type} (f : S → α → Out ε S S R) : S → List α → Out ε S L R
  | s, [] => .nx s
  | s, x :: xs => match f s x with
    | .nx s' => forL f s' xs
    | .ct s' => forL f s' xs
    | .bk s' => .nx s'
    | .rt r => .rt r
    | .er e => .er e
/-- a while: at most n turns -/
def whileN {ε S L R : Type} (c : S → Bool) (f : S → Out ε S S R) : Nat → S → Out ε S L R
  | 0, s => .nx s
  | n + 1, s => if c s = true then (match f s with
    | .nx s' => whileN c f n s'
    | .ct s' => whileN c f n s'
    | .bk s' => .nx s'
    | .rt r => .rt r
    | .er e => .er e) else .nx s

structure Po (ε S L R : Type) where
  nx : S → L2.St → Hp → Cells → Prop
  lp : L → L2.St → Hp → Cells → Prop
  rt : R → Hp → Cells → V → Prop
  er : ε → L2.St → Hp → Cells → Prop
/-- what is wanted behind, by the outcome -/
def Wish {ε S L R : Type} (W : ε → L2.St → Hp → Prop) (G : Hp) (Φ : Po ε S L R) (E : Ends) (m : Out ε S L R) : Prop := match m with
  | .nx s => ∀ σ2 G2 cs2 H2, Same G G2 → Desc G2 cs2 H2 → Φ.nx s σ2 G2 cs2 → E.nx σ2 H2
  | .bk l => ∀ σ2 G2 cs2 H2, Same G G2 → Desc G2 cs2 H2 → Φ.lp l σ2 G2 cs2 → E.bk σ2 H2
  | .ct l => ∀ σ2 G2 cs2 H2, Same G G2 → Desc G2 cs2 H2 → Φ.lp l σ2 G2 cs2 → E.ct σ2 H2
  | .rt r => ∀ v G2 cs2 H2, Same G G2 → Desc G2 cs2 H2 → Φ.rt r G2 cs2 v → E.rt v H2
  | .er k => ∀ σ2 G2 cs2 H2, Same G G2 → Desc G2 cs2 H2 → Φ.er k σ2 G2 cs2 → W k σ2 H2
theorem Wish.up {ε S L R : Type} {W : ε → L2.St → Hp → Prop} {G G' : Hp} {Φ : Po ε S L R} {E : Ends} {m : Out ε S L R} (h : Wish W G Φ E m) (s : Same G G') : Wish W G' Φ E m := by
  cases m with
  | nx x => exact fun σ2 G2 cs2 H2 s2 d p => h σ2 G2 cs2 H2 (s.trans s2) d p
  | bk x => exact fun σ2 G2 cs2 H2 s2 d p => h σ2 G2 cs2 H2 (s.trans s2) d p
  | ct x => exact fun σ2 G2 cs2 H2 s2 d p => h σ2 G2 cs2 H2 (s.trans s2) d p
  | rt x => exact fun σ2 G2 cs2 H2 s2 d p => h σ2 G2 cs2 H2 (s.trans s2) d p
  | er x => exact fun σ2 G2 cs2 H2 s2 d p => h σ2 G2 cs2 H2 (s.trans s2) d p
/-- the block comes to m -/
def B {ε S L R : Type} (X : Cx) (W : ε → L2.St → Hp → Prop) (sts : List Stmt) (σ : L2.St) (G : Hp) (cs : Cells) (Φ : Po ε S L R) (m : Out ε S L R) : Prop :=
  ∀ H, Desc G cs H → ∀ E : Ends, Wish W G Φ E m → wSs X sts E σ H

section
variable {ε S L R : Type} {X : Cx} {W : ε → L2.St → Hp → Prop} {σ : L2.St} {G : Hp} {cs : Cells} {Φ : Po ε S L R} {m : Out ε S L R} {st : Stmt} {rest body : List Stmt} {e : Expr} {P : Hp → V → Prop} {pos p : Pos}
theorem b_nil {s : S} (h : Φ.nx s σ G cs) : B X W [] σ G cs Φ (.nx s) := fun H d E w => uSs pss_nil (w σ G cs H (Same.refl _) d h)
/-- a statement by a rule, then the rest -/
theorem b_cons {t : TS} (h : PS X st t) (q : ∀ H, Desc G cs H → ∀ E : Ends, Wish W G Φ E m → t { E with nx := wSs X rest E } σ H) : B X W (st :: rest) σ G cs Φ m := fun H d E w => uSs (pss_cons h (sSs X rest)) (q H d E w)
theorem b_pass (h : B X W rest σ G cs Φ m) : B X W (.Pass pos :: rest) σ G cs Φ m := b_cons ps_pass fun H d E w => h H d E w
theorem b_set (i : Nat) {x : Str} (hN : X.N.Nodup) (he : D X e σ G cs P) (k : ∀ v G1, Same G G1 → P G1 v → B X W rest (σ.set i (some v)) G1 cs Φ m) (hi : X.N[i]? = some x := by rfl) (hx : Loc X.env.scope x := by first | exact Or.inl rfl | exact Or.inr rfl)
    (hs : swapsWith e (some (.Name x p)) pos.line X.env = pure false := by rfl) (hf : X.fn x = true ∨ X.env.scope.names.lookup x = some .local := by first | exact .inl rfl | exact .inr rfl) : B X W (.Assign [.Name x p] e pos :: rest) σ G cs Φ m :=
  b_cons (ps_set hN hi hx (sE X e) hs hf) fun H d E w => he G H (Same.refl _) d _ fun G2 H2 v s2 d2 hv => k v G2 s2 hv H2 d2 E (w.up s2)
theorem b_ret {r : R} (he : D X e σ G cs P) (k : ∀ v G1, Same G G1 → P G1 v → Φ.rt r G1 cs v) : B X W (.Return (some e) pos :: rest) σ G cs Φ (.rt r) :=
  b_cons (ps_ret (sE X e)) fun H d E w => he G H (Same.refl _) d _ fun G2 H2 v s2 d2 hv => w v G2 cs H2 s2 d2 (k v G2 s2 hv)
theorem b_retN {r : R} (k : Φ.rt r G cs .non) : B X W (.Return none pos :: rest) σ G cs Φ (.rt r) := b_cons ps_retN fun H d E w => w .non G cs H (Same.refl _) d k
theorem b_break {l : L} (k : Φ.lp l σ G cs) : B X W (.Break pos :: rest) σ G cs Φ (.bk l) := b_cons ps_break fun H d E w => w σ G cs H (Same.refl _) d k
theorem b_cont {l : L} (k : Φ.lp l σ G cs) : B X W (.Continue pos :: rest) σ G cs Φ (.ct l) := b_cons ps_continue fun H d E w => w σ G cs H (Same.refl _) d k
/-- an if, every way through it goes on in the rest or leaves -/
theorem b_if {S' : Type} {c : Expr} {a b : List Stmt} {k : Bool} (Mid : S' → L2.St → Hp → Cells → Prop) {ma mb : Out ε S' L R} {g : S' → Out ε S L R} (hc : T X c σ G cs k)
    (ha : k = true → ∀ G1, Same G G1 → B X W a σ G1 cs { nx := Mid, lp := Φ.lp, rt := Φ.rt, er := Φ.er } ma) (hb : k = false → ∀ G1, Same G G1 → B X W b σ G1 cs { nx := Mid, lp := Φ.lp, rt := Φ.rt, er := Φ.er } mb)
    (hr : ∀ s σ2 G2 cs2, Same G G2 → Mid s σ2 G2 cs2 → (if k = true then ma else mb) = .nx s → B X W rest σ2 G2 cs2 Φ (g s)) : B X W (.If c a b pos :: rest) σ G cs Φ ((if k = true then ma else mb).bind g) :=
  b_cons (ps_if (sT X c) (sSs X a) (sSs X b)) fun H d E w => hc G H (Same.refl _) d _ fun G2 H2 s2 d2 => by
    have go : ∀ {sts : List Stmt} {mm : Out ε S' L R}, B X W sts σ G2 cs { nx := Mid, lp := Φ.lp, rt := Φ.rt, er := Φ.er } mm → Wish W G Φ E (mm.bind g) → (∀ s σ2 G3 cs2, Same G G3 → Mid s σ2 G3 cs2 → mm = .nx s → B X W rest σ2 G3 cs2 Φ (g s)) → wSs X sts { E with nx := wSs X rest E } σ H2 := fun {sts mm} hB w hr => by
      refine hB H2 d2 _ ?_
      cases mm with
      | nx s => exact fun σ3 G3 cs3 H3 s3 d3 p => hr s σ3 G3 cs3 (s2.trans s3) p rfl H3 d3 E (Wish.up (G := G) (show Wish W G Φ E (g s) from w) (s2.trans s3))
      | bk l => exact fun σ3 G3 cs3 H3 s3 d3 p => w σ3 G3 cs3 H3 (s2.trans s3) d3 p
      | ct l => exact fun σ3 G3 cs3 H3 s3 d3 p => w σ3 G3 cs3 H3 (s2.trans s3) d3 p
      | rt r => exact fun v G3 cs3 H3 s3 d3 p => w v G3 cs3 H3 (s2.trans s3) d3 p
      | er x => exact fun σ3 G3 cs3 H3 s3 d3 p => w σ3 G3 cs3 H3 (s2.trans s3) d3 p
    cases k with
    | true => exact iteT (go (ha rfl G2 s2) w hr)
    | false => exact iteF (go (hb rfl G2 s2) w hr)
/-- an if whose first way always leaves, no else -/
theorem b_ifx {c : Expr} {a : List Stmt} {k : Bool} {ma mr : Out ε S L R} (hc : T X c σ G cs k)
    (ha : k = true → ∀ G1, Same G G1 → B X W a σ G1 cs { nx := fun _ _ _ _ => False, lp := Φ.lp, rt := Φ.rt, er := Φ.er } ma)
    (hr : k = false → ∀ G1, Same G G1 → B X W rest σ G1 cs Φ mr) : B X W (.If c a [] pos :: rest) σ G cs Φ (if k = true then ma else mr) :=
  b_cons (ps_if (sT X c) (sSs X a) pss_nil) fun H d E w => hc G H (Same.refl _) d _ fun G2 H2 s2 d2 => by
    cases k with
    | true =>
      have w' : Wish W G Φ E ma := w
      refine iteT (ha rfl G2 s2 H2 d2 _ ?_)
      cases ma with
      | nx s => exact fun σ3 G3 cs3 H3 s3 d3 p => p.elim
      | bk l => exact fun σ3 G3 cs3 H3 s3 d3 p => w' σ3 G3 cs3 H3 (s2.trans s3) d3 p
      | ct l => exact fun σ3 G3 cs3 H3 s3 d3 p => w' σ3 G3 cs3 H3 (s2.trans s3) d3 p
      | rt r => exact fun v G3 cs3 H3 s3 d3 p => w' v G3 cs3 H3 (s2.trans s3) d3 p
      | er x => exact fun σ3 G3 cs3 H3 s3 d3 p => w' σ3 G3 cs3 H3 (s2.trans s3) d3 p
    | false => exact iteF (hr rfl G2 s2 H2 d2 E (Wish.up (show Wish W G Φ E mr from w) s2))
/-- an if at the block's end, its two ways -/
theorem b_ifl {c : Expr} {a b : List Stmt} {k : Bool} {ma mb : Out ε S L R} (hc : T X c σ G cs k)
    (ha : k = true → ∀ G1, Same G G1 → B X W a σ G1 cs Φ ma) (hb : k = false → ∀ G1, Same G G1 → B X W b σ G1 cs Φ mb) : B X W [.If c a b pos] σ G cs Φ (if k = true then ma else mb) := fun H d E w =>
  uSs (pss_one (ps_if (sT X c) (sSs X a) (sSs X b))) (hc G H (Same.refl _) d _ fun G2 H2 s2 d2 => by
    cases k with
    | true => exact iteT (ha rfl G2 s2 H2 d2 E (Wish.up (show Wish W G Φ E ma from w) s2))
    | false => exact iteF (hb rfl G2 s2 H2 d2 E (Wish.up (show Wish W G Φ E mb from w) s2)))
theorem B.up {G' : Hp} (h : B X W rest σ G' cs Φ m) (s : ∀ H, Desc G cs H → Same G G' ∧ Desc G' cs H) : B X W rest σ G cs Φ m := fun H d E w => h H (s H d).2 E (w.up (s H d).1)
/-- a value's being is dropped -/
theorem b_expr (he : D X e σ G cs P) (k : ∀ v G1, Same G G1 → P G1 v → B X W rest σ G1 cs Φ m) (hs : swapsWith e none pos.line X.env = pure false := by rfl) : B X W (.Expr e pos :: rest) σ G cs Φ m :=
  b_cons (ps_expr (sE X e) hs) fun H d E w => he G H (Same.refl _) d _ fun G2 H2 v s2 d2 hv => k v G2 s2 hv H2 d2 E (w.up s2)

/-! ### loops -/
structure WalkD {α : Type} (J : It) (xs : List α) (G : Hp) (C : Cells → Prop) (P : α → Hp → V → Prop) : Prop where
  goes : ∀ i G1 H cs, i < xs.length → Same G G1 → C cs → Desc G1 cs H → J.go i H
  stops : ∀ G1 H cs, Same G G1 → C cs → Desc G1 cs H → J.stop xs.length H
  yields : ∀ i x G1 H cs v H', xs[i]? = some x → Same G G1 → C cs → Desc G1 cs H → J.yld i H v H' → ∃ G', Same G1 G' ∧ Desc G' cs H' ∧ P x G' v
/-- what is walked -/
def I {α : Type} (X : Cx) (tg iter : Expr) (σ : L2.St) (G : Hp) (cs : Cells) (C : Cells → Prop) (xs : List α) (P : α → Hp → V → Prop) : Prop :=
  ∃ wi, PI X tg iter wi ∧ ∀ G1 H, Same G G1 → Desc G1 cs H → ∀ Rr : It → Hp → Prop, (∀ J G2 H2, Same G1 G2 → Desc G2 cs H2 → WalkD J xs G2 C P → Rr J H2) → wi σ H Rr
/-- a target -/
def Tg {α : Type} (X : Cx) (tg : Expr) (P : α → Hp → V → Prop) (Sx : α → Hp → L2.St → L2.St → Prop) : Prop :=
  ∃ g, PG X tg g ∧ ∀ x v G cs H σ, P x G v → Desc G cs H → ∀ Q : L2.St → Hp → Prop, (∀ σ', Sx x G σ σ' → Q σ' H) → g v σ H Q
/-- the states that a loop comes through -/
inductive Reach {α : Type} (f : S → α → Out ε S S R) (s0 : S) : List α → S → Prop where
  | nil : Reach f s0 [] s0
  | nx {pre : List α} {s s' : S} {x : α} : Reach f s0 pre s → f s x = .nx s' → Reach f s0 (pre ++ [x]) s'
  | ct {pre : List α} {s s' : S} {x : α} : Reach f s0 pre s → f s x = .ct s' → Reach f s0 (pre ++ [x]) s'
theorem forL_reach {L : Type} {α : Type} {f : S → α → Out ε S S R} {s0 : S} {pre : List α} {s : S} (h : Reach f s0 pre s) : ∀ (post : List α), (forL f s0 (pre ++ post) : Out ε S L R) = forL f s post := by
  induction h with
  | nil => intro post; rfl
  | @nx pre s s' x h e ih =>
    intro post
    rw [List.append_assoc, ih]
    show (match f s x with | .nx s' => forL f s' post | .ct s' => forL f s' post | .bk s' => .nx s' | .rt r => .rt r | .er e => .er e : Out ε S L R) = _
    rw [e]
  | @ct pre s s' x h e ih =>
    intro post
    rw [List.append_assoc, ih]
    show (match f s x with | .nx s' => forL f s' post | .ct s' => forL f s' post | .bk s' => .nx s' | .rt r => .rt r | .er e => .er e : Out ε S L R) = _
    rw [e]
theorem forL_cons {L : Type} {α : Type} {f : S → α → Out ε S S R} {s : S} {x : α} {xs : List α} : (forL f s (x :: xs) : Out ε S L R) = (match f s x with | .nx s' => forL f s' xs | .ct s' => forL f s' xs | .bk s' => .nx s' | .rt r => .rt r | .er e => .er e) := rfl
/-- a for: N tells the slots, the frozen part and the cells by the turns done and the state; f is a turn -/
theorem b_for {α S1 : Type} {tg iter : Expr} {C : Cells → Prop} {xs : List α} {Pi : α → Hp → V → Prop} {Sx : α → Hp → L2.St → L2.St → Prop} {s0 : S1} {f : S1 → α → Out ε S1 S1 R} {g : S1 → Out ε S L R}
    (N : Nat → S1 → L2.St → Hp → Cells → Prop) (hi : I X tg iter σ G cs C xs Pi) (ht : Tg X tg Pi Sx) (hcalm : X.calm = true) (hp : PassesOwn (model X.prog X.w) X.A X.env X.xe)
    (h0 : ∀ G1, Same G G1 → N 0 s0 σ G1 cs) (hC : ∀ n s σ1 G1 cs1, N n s σ1 G1 cs1 → C cs1)
    (hb : ∀ pre x post s σ1 G0 G1 cs1 σ2, xs = pre ++ x :: post → Reach f s0 pre s → Same G G0 → N pre.length s σ1 G0 cs1 → Same G0 G1 → Sx x G1 σ1 σ2 →
      B X W body σ2 G1 cs1 { nx := N (pre.length + 1), lp := N (pre.length + 1), rt := Φ.rt, er := Φ.er } (f s x))
    (hr : ∀ n s σ1 G1 cs1, n ≤ xs.length → Same G G1 → N n s σ1 G1 cs1 → (forL f s0 xs : Out ε S1 L R) = .nx s → B X W rest σ1 G1 cs1 Φ (g s))
    (hs : ∀ x, foldedSetIterable iter X.env x = pure x := by intro _; rfl) : B X W (.For tg iter body [] pos :: rest) σ G cs Φ ((forL f s0 xs).bind g) := by
  obtain ⟨wi, hpi, hw⟩ := hi
  obtain ⟨gt, hpg, hgt⟩ := ht
  refine b_cons (ps_for hp hcalm hpi hpg (sSs X body) hs) fun H d E w => ?_
  refine hw G H (Same.refl _) d _ fun J G2 H2 s2 d2 wk => ?_
  let Pv : Nat → L2.St → Hp → Prop := fun i σ1 H1 => ∃ s G1 cs1, i ≤ xs.length ∧ Reach f s0 (xs.take i) s ∧ Same G2 G1 ∧ Desc G1 cs1 H1 ∧ N i s σ1 G1 cs1
  refine ⟨fun i n σ1 H1 => n = xs.length - i ∧ Pv i σ1 H1, ⟨xs.length, rfl, s0, G2, cs, Nat.zero_le _, .nil, Same.refl _, d2, h0 G2 s2⟩, ?_⟩
  rintro i n σ1 H1 ⟨rfl, s, G1, cs1, hi, hre, s1, d1, hN⟩
  have w0 : Wish W G Φ E ((forL f s (xs.drop i)).bind g) := by
    have q := forL_reach (L := L) hre (xs.drop i)
    rw [List.take_append_drop] at q
    rw [← q]
    exact w
  by_cases hlt : i < xs.length
  · refine .inr ⟨wk.goes i G1 H1 cs1 hlt s1 (hC _ _ _ _ _ hN) d1, Pv (i + 1), fun σ' H' p' => ⟨_, by omega, rfl, p'⟩, fun v H3 y => ?_⟩
    have hx : xs[i]? = some xs[i] := by simp [hlt]
    obtain ⟨G3, s3, d3, pv⟩ := wk.yields i xs[i] G1 H1 cs1 v H3 hx s1 (hC _ _ _ _ _ hN) d1 y
    refine hgt xs[i] v G3 cs1 H3 σ1 pv d3 _ fun σ' hS => ?_
    have ed : xs = xs.take i ++ xs[i] :: xs.drop (i + 1) := by
      rw [← List.drop_eq_getElem_cons hlt, List.take_append_drop]
    have et : xs.take (i + 1) = xs.take i ++ [xs[i]] := by simp
    have el : (xs.take i).length = i := by rw [List.length_take]; omega
    have hb' := hb (xs.take i) xs[i] (xs.drop (i + 1)) s σ1 G1 G3 cs1 σ' ed hre (s2.trans s1) (by rw [el]; exact hN) s3 hS
    rw [el] at hb'
    refine hb' H3 d3 _ ?_
    have w1 : Wish W G Φ E ((forL f s (xs[i] :: xs.drop (i + 1))).bind g) := by
      rw [List.drop_eq_getElem_cons hlt] at w0
      exact w0
    rw [forL_cons] at w1
    have sG : Same G G3 := (s2.trans s1).trans s3
    cases hm : f s xs[i] with
    | nx s' => exact fun σ4 G4 cs4 H4 s4 d4 p4 => ⟨s', G4, cs4, hlt, by rw [et]; exact .nx hre hm, (s1.trans s3).trans s4, d4, p4⟩
    | ct s' => exact fun σ4 G4 cs4 H4 s4 d4 p4 => ⟨s', G4, cs4, hlt, by rw [et]; exact .ct hre hm, (s1.trans s3).trans s4, d4, p4⟩
    | bk s' =>
      rw [hm] at w1
      refine fun σ4 G4 cs4 H4 s4 d4 p4 => hr (i + 1) s' σ4 G4 cs4 hlt (sG.trans s4) p4 ?_ H4 d4 E (Wish.up (show Wish W G Φ E (g s') from w1) (sG.trans s4))
      rw [ed, forL_reach hre, forL_cons, hm]
    | rt r =>
      rw [hm] at w1
      exact fun v4 G4 cs4 H4 s4 d4 p4 => w1 v4 G4 cs4 H4 (sG.trans s4) d4 p4
    | er k =>
      rw [hm] at w1
      exact fun σ4 G4 cs4 H4 s4 d4 p4 => w1 σ4 G4 cs4 H4 (sG.trans s4) d4 p4
  · have e : i = xs.length := by omega
    subst e
    rw [List.drop_length] at w0
    rw [List.take_length] at hre
    refine .inl ⟨wk.stops G1 H1 cs1 s1 (hC _ _ _ _ _ hN) d1, hr _ s σ1 G1 cs1 (Nat.le_refl _) (s2.trans s1) hN ?_ H1 d1 E (Wish.up (show Wish W G Φ E (g s) from w0) (s2.trans s1))⟩
    have q := forL_reach (L := L) hre ([] : List α)
    rw [List.append_nil] at q
    exact q
/-- a name for a value -/
def letV {α β : Type} (x : α) (f : α → β) : β := f x
theorem b_setV {α : Type} {r : α → Hp → V → Prop} {y : α} {f : α → Out ε S L R} (i : Nat) {x : Str} (hN : X.N.Nodup) (he : D X e σ G cs (r y)) (k : ∀ z, z = y → ∀ v G1, Same G G1 → r z G1 v → B X W rest (σ.set i (some v)) G1 cs Φ (f z)) (hi : X.N[i]? = some x := by rfl) (hx : Loc X.env.scope x := by first | exact Or.inl rfl | exact Or.inr rfl)
    (hs : swapsWith e (some (.Name x p)) pos.line X.env = pure false := by rfl) (hf : X.fn x = true ∨ X.env.scope.names.lookup x = some .local := by first | exact .inl rfl | exact .inr rfl) : B X W (.Assign [.Name x p] e pos :: rest) σ G cs Φ (letV y f) :=
  b_set i hN he (fun v G1 s1 h => k y rfl v G1 s1 h) hi hx hs hf
end
end J

namespace J
open PySem L2
section
variable {X : Cx} {σ : L2.St} {G : Hp} {cs : Cells} {e a b c : Expr} {es : List Expr} {P Pa Pb Pc : Hp → V → Prop} {pos p : Pos} {i j k : Int}

/-! ### whole numbers -/
theorem d_add (ha : D X a σ G cs (rI i)) (hb : D X b σ G cs (rI j)) : D X (.BinOp a .Add b pos) σ G cs (rI (i + j)) := d_bin op_add ha hb fun G1 H x y s d hx hy Q q => ⟨i, j, hx, hy, q G1 H _ (Same.refl _) d rfl⟩
theorem d_sub (ha : D X a σ G cs (rI i)) (hb : D X b σ G cs (rI j)) : D X (.BinOp a .Sub b pos) σ G cs (rI (i - j)) := d_bin op_sub ha hb fun G1 H x y s d hx hy Q q => ⟨i, j, hx, hy, q G1 H _ (Same.refl _) d rfl⟩
theorem d_mul (ha : D X a σ G cs (rI i)) (hb : D X b σ G cs (rI j)) (h : CMul i j) : D X (.BinOp a .Mult b pos) σ G cs (rI (i * j)) := d_bin op_mul ha hb fun G1 H x y s d hx hy Q q => ⟨i, j, hx, hy, h, q G1 H _ (Same.refl _) d rfl⟩
theorem d_mulW (ha : D X a σ G cs (rI i)) (hb : D X b σ G cs (rI j)) (h : CMulW i j) : D X (.BinOp a .Mult b pos) σ G cs (rI (i * j)) := d_bin op_mulW ha hb fun G1 H x y s d hx hy Q q => ⟨i, j, hx, hy, h, q G1 H _ (Same.refl _) d rfl⟩
theorem d_fdiv (ha : D X a σ G cs (rI i)) (hb : D X b σ G cs (rI j)) (h : CDivW i j) : D X (.BinOp a .FloorDiv b pos) σ G cs (rI (i / j)) := d_bin op_fdivW ha hb fun G1 H x y s d hx hy Q q => ⟨i, j, hx, hy, h, q G1 H _ (Same.refl _) d rfl⟩
theorem d_mod (ha : D X a σ G cs (rI i)) (hb : D X b σ G cs (rI j)) (h : 0 < j) : D X (.BinOp a .Mod b pos) σ G cs (rI (i % j)) := d_bin op_mod ha hb fun G1 H x y s d hx hy Q q => ⟨i, j, hx, hy, h, q G1 H _ (Same.refl _) d rfl⟩
theorem d_pow (ha : D X a σ G cs (rI i)) (hb : D X b σ G cs (rI j)) (h : CPow i j) {z : Int} (hz : i ^ j.toNat = z) : D X (.BinOp a .Pow b pos) σ G cs (rI z) := d_bin op_pow ha hb fun G1 H x y s d hx hy Q q => ⟨i, j, hx, hy, h, q G1 H _ (Same.refl _) d (by subst hz; rfl)⟩
theorem d_neg (ha : D X a σ G cs (rI i)) : D X (.UnaryOp .USub a pos) σ G cs (rI (-i)) := d_un un_neg ha fun G1 H x s d hx Q q => ⟨i, hx, q G1 H _ (Same.refl _) d rfl⟩
theorem divW {i j : Int} (h : 0 < j) (hb : j.natAbs < 2 ^ 8999) : CDivW i j := wide_div (b := 8999) h hb (by decide) (by decide)
/-! what the operators' readings ask, by the operands -/
section
variable {G1 H : Hp} {x y : V} {Q : VK}
theorem c_lt (hx : rI i G1 x) (hy : rI j G1 y) (q : Q (.bl (decide (i < j))) H) : rI0 (fun i j => .bl (decide (i < j))) x y H Q := ⟨i, j, hx, hy, q⟩
theorem c_le (hx : rI i G1 x) (hy : rI j G1 y) (q : Q (.bl (decide (i ≤ j))) H) : rI0 (fun i j => .bl (decide (i ≤ j))) x y H Q := ⟨i, j, hx, hy, q⟩
theorem c_gt (hx : rI i G1 x) (hy : rI j G1 y) (q : Q (.bl (decide (j < i))) H) : rI0 (fun i j => .bl (decide (j < i))) x y H Q := ⟨i, j, hx, hy, q⟩
theorem c_ge (hx : rI i G1 x) (hy : rI j G1 y) (q : Q (.bl (decide (j ≤ i))) H) : rI0 (fun i j => .bl (decide (j ≤ i))) x y H Q := ⟨i, j, hx, hy, q⟩
theorem c_eqI (hx : rI i G1 x) (hy : rI j G1 y) (q : Q (.bl (decide (i = j))) H) : rEq x y H Q := by
  cases hx; cases hy
  refine ⟨rfl, ?_⟩
  have e : decide (V.int i = V.int j) = decide (i = j) := decide_eq_decide.mpr ⟨fun h => V.int.inj h, fun h => by rw [h]⟩
  rw [e]
  exact q
theorem c_neI (hx : rI i G1 x) (hy : rI j G1 y) (q : Q (.bl (!decide (i = j))) H) : rNe x y H Q := by
  cases hx; cases hy
  refine ⟨rfl, ?_⟩
  have e : decide (V.int i = V.int j) = decide (i = j) := decide_eq_decide.mpr ⟨fun h => V.int.inj h, fun h => by rw [h]⟩
  rw [e]
  exact q
theorem c_eqB {i j : Bool} (hx : rB i G1 x) (hy : rB j G1 y) (q : Q (.bl (decide (i = j))) H) : rEq x y H Q := by
  cases hx; cases hy
  refine ⟨rfl, ?_⟩
  have e : decide (V.bl i = V.bl j) = decide (i = j) := decide_eq_decide.mpr ⟨fun h => V.bl.inj h, fun h => by rw [h]⟩
  rw [e]
  exact q
theorem c_neB {i j : Bool} (hx : rB i G1 x) (hy : rB j G1 y) (q : Q (.bl (!decide (i = j))) H) : rNe x y H Q := by
  cases hx; cases hy
  refine ⟨rfl, ?_⟩
  have e : decide (V.bl i = V.bl j) = decide (i = j) := decide_eq_decide.mpr ⟨fun h => V.bl.inj h, fun h => by rw [h]⟩
  rw [e]
  exact q
theorem str_eq {i j : List Nat} : decide (V.str (SX.S i) = V.str (SX.S j)) = decide (i = j) := decide_eq_decide.mpr ⟨fun h => SX.S_inj (V.str.inj h), fun h => by rw [h]⟩
theorem c_eqS {i j : List Nat} (hx : rS i G1 x) (hy : rS j G1 y) (q : Q (.bl (decide (i = j))) H) : rEq x y H Q := by
  cases hx; cases hy
  refine ⟨rfl, ?_⟩
  rw [str_eq]
  exact q
theorem c_neS {i j : List Nat} (hx : rS i G1 x) (hy : rS j G1 y) (q : Q (.bl (!decide (i = j))) H) : rNe x y H Q := by
  cases hx; cases hy
  refine ⟨rfl, ?_⟩
  rw [str_eq]
  exact q
theorem c_inS {l : List Nat} {n : Nat} (hx : rS [n] G1 x) (hy : rS l G1 y) (q : Q (.bl (decide (n ∈ l))) H) : ∃ (c : Nat) (z : Str), x = .str ⟨#[c]⟩ ∧ y = .str z ∧ Q (.bl (decide (c ∈ z.cps.toList))) H := ⟨n, SX.S l, hx, hy, q⟩
theorem c_ninS {l : List Nat} {n : Nat} (hx : rS [n] G1 x) (hy : rS l G1 y) (q : Q (.bl (!decide (n ∈ l))) H) : ∃ (c : Nat) (z : Str), x = .str ⟨#[c]⟩ ∧ y = .str z ∧ Q (.bl (!decide (c ∈ z.cps.toList))) H := ⟨n, SX.S l, hx, hy, q⟩
end
/-- a value that is never None -/
class NotNon {α : Type} (r : α → Hp → V → Prop) : Prop where
  nn : ∀ {x G v}, r x G v → v ≠ .non
instance : NotNon rI := ⟨fun h z => by cases h; cases z⟩
instance : NotNon rB := ⟨fun h z => by cases h; cases z⟩
instance : NotNon rS := ⟨fun h z => by cases h; cases z⟩
instance (K : PySem.W.Frag) {α : Type} (r : α → Hp → V → Prop) : NotNon (rL K r) := ⟨fun h z => by obtain ⟨_, _, e, _⟩ := h; rw [e] at z; cases z⟩
instance (K : PySem.W.Frag) {α : Type} (r : α → Hp → List V → Prop) : NotNon (rT K r) := ⟨fun h z => by obtain ⟨_, _, e, _⟩ := h; rw [e] at z; cases z⟩
theorem is_non {α : Type} {r : α → Hp → V → Prop} [NotNon r] {o : Option α} {G : Hp} {v : V} (h : rO r o G v) : decide (v = .non) = o.isNone := by
  cases o with
  | none =>
    have e : v = .non := h
    rw [e]
    rfl
  | some x => exact decide_eq_false (NotNon.nn (r := r) (x := x) h)
theorem d_isN {α : Type} {r : α → Hp → V → Prop} [NotNon r] [∀ x, Mono (r x)] {o : Option α} {jj : Nat} {p' : Pos} (ha : D X a σ G cs (rO r o)) : D X (.Compare a [.Is] [.Constant .none jj p'] pos) σ G cs (rB o.isNone) :=
  d_cmp op_isN (nomark _) ha d_non fun G1 H x y s d hx hy Q q => ⟨hy, by rw [is_non hx]; exact q⟩
theorem t_isN {α : Type} {r : α → Hp → V → Prop} [NotNon r] [∀ x, Mono (r x)] {o : Option α} {jj : Nat} {p' : Pos} (ha : D X a σ G cs (rO r o)) : T X (.Compare a [.Is] [.Constant .none jj p'] pos) σ G cs o.isNone :=
  t_cmp op_isN (nomark _) ha d_non fun G1 H x y s d hx hy Q q => ⟨hy, by rw [is_non hx]; exact q⟩
theorem d_notN {α : Type} {r : α → Hp → V → Prop} [NotNon r] [∀ x, Mono (r x)] {o : Option α} {jj : Nat} {p' : Pos} (ha : D X a σ G cs (rO r o)) : D X (.Compare a [.IsNot] [.Constant .none jj p'] pos) σ G cs (rB (!o.isNone)) :=
  d_cmp op_notN (nomark _) ha d_non fun G1 H x y s d hx hy Q q => ⟨hy, by rw [is_non hx]; exact q⟩
theorem t_notN {α : Type} {r : α → Hp → V → Prop} [NotNon r] [∀ x, Mono (r x)] {o : Option α} {jj : Nat} {p' : Pos} (ha : D X a σ G cs (rO r o)) : T X (.Compare a [.IsNot] [.Constant .none jj p'] pos) σ G cs (!o.isNone) :=
  t_cmp op_notN (nomark _) ha d_non fun G1 H x y s d hx hy Q q => ⟨hy, by rw [is_non hx]; exact q⟩
/-- a value that may be None, known to be there -/
theorem d_some {α : Type} {r : α → Hp → V → Prop} {x : α} (h : D X e σ G cs (rO r (some x))) : D X e σ G cs (r x) := h
theorem d_toO {α : Type} {r : α → Hp → V → Prop} {x : α} (h : D X e σ G cs (r x)) : D X e σ G cs (rO r (some x)) := h
theorem d_toN {α : Type} {r : α → Hp → V → Prop} (h : D X e σ G cs (rN ())) : D X e σ G cs (rO r none) := h

/-! ### texts -/
theorem d_cat {l m : List Nat} (ha : D X a σ G cs (rS l)) (hb : D X b σ G cs (rS m)) (h : l.length + m.length ≤ sizeLine) : D X (.BinOp a .Add b pos) σ G cs (rS (l ++ m)) :=
  d_bin op_add_str ha hb fun G1 H x y s d hx hy Q q => ⟨SX.S l, SX.S m, hx, hy, by rw [SX.S_len, SX.S_len]; exact h, by rw [SX.S_cat]; exact q G1 H _ (Same.refl _) d rfl⟩
theorem d_ixS {l : List Nat} {n : Nat} (ha : D X a σ G cs (rS l)) (hb : D X b σ G cs (rI i)) (hl : l.length ≤ sizeLine) (h : atI l i = some n) (hs : PlainIx b := by exact fun _ _ => rfl) : D X (.Subscript a b pos) σ G cs (rS [n]) :=
  d_by (pe_ix ix_str (sE X a) (sE X b) hs) fun G1 H s d Q q => ha G1 H s d _ fun G2 H2 x s2 d2 hx => hb G2 H2 (s.trans s2) d2 _ fun G3 H3 y s3 d3 hy =>
    ⟨SX.S l, i, n, hx, hy, by rw [SX.S_len]; exact hl, h, q G3 H3 _ (s2.trans s3) d3 rfl⟩

/-! ### lists, tuples: read -/
theorem atI_rs {α : Type} {r : α → Hp → V → Prop} {xs : List α} {vs : List V} {x : α} (h : Rs r G xs vs) (hx : atI xs i = some x) : ∃ v, atI vs i = some v ∧ r x G v := by
  unfold atI at hx ⊢
  rw [← h.length]
  cases e : ixN xs.length i with
  | none =>
    rw [e] at hx
    cases hx
  | some k =>
    rw [e] at hx
    exact Rs.get h hx
theorem atI_lt {α : Type} {xs : List α} (h0 : 0 ≤ i) (h1 : i < (xs.length : Int)) [Inhabited α] : atI xs i = some (xs.getD i.toNat default) := by
  obtain ⟨n, rfl⟩ := Int.eq_ofNat_of_zero_le h0
  have hn : n < xs.length := by omega
  exact atI_nat (by simp [hn])
theorem atI_neg {α : Type} {xs : List α} {n : Nat} (h0 : 0 < n) (h1 : n ≤ xs.length) [Inhabited α] : atI xs (-(n : Int)) = some (xs.getD (xs.length - n) default) := by
  have hl : xs.length - n < xs.length := by omega
  have e : ixN xs.length (-(n : Int)) = some (xs.length - n) := by
    unfold ixN
    rw [if_neg (by omega), if_pos (by omega)]
    exact congrArg some (by omega)
  unfold atI
  rw [e]
  simp [hl]
theorem d_ixL {α : Type} {r : α → Hp → V → Prop} [∀ x, Mono (r x)] {xs : List α} {x : α} (ha : D X a σ G cs (rdL X.K cs r xs)) (hb : D X b σ G cs (rI i)) (hx : atI xs i = some x) (hs : PlainIx b := by exact fun _ _ => rfl) :
    D X (.Subscript a b pos) σ G cs (r x) :=
  d_by (pe_ix ix_list (sE X a) (sE X b) hs) fun G1 H s d Q q => ha G1 H s d _ fun G2 H2 u s2 d2 hu => hb G2 H2 (s.trans s2) d2 _ fun G3 H3 y s3 d3 hy => by
    obtain ⟨l, vs, e, hl, hr⟩ := (Mono.mono s3 hu).sq d3
    obtain ⟨v, hv, hp⟩ := atI_rs hr hx
    exact ⟨l, vs, i, v, e, hy, hl, hv, q G3 H3 v (s2.trans s3) d3 hp⟩
/-- the n-th place of a tuple -/
def At (R : Hp → List V → Prop) (n : Nat) (P : Hp → V → Prop) : Prop := ∀ G vs, R G vs → ∃ v, vs[n]? = some v ∧ P G v
theorem at_1 {α : Type} {r : α → Hp → V → Prop} {x : α} : At (c0 r x) 0 (r x) := fun G vs ⟨v, e, h⟩ => ⟨v, by rw [e]; rfl, h⟩
theorem at_z {α β : Type} {r : α → Hp → V → Prop} {r' : β → Hp → List V → Prop} {x : α × β} : At (cc r r' x) 0 (r x.1) := fun G vs ⟨v, ws, e, h, _⟩ => ⟨v, by rw [e]; rfl, h⟩
theorem at_s {α β : Type} {r : α → Hp → V → Prop} {r' : β → Hp → List V → Prop} {x : α × β} {n : Nat} (h : At (r' x.2) n P) : At (cc r r' x) (n + 1) P := fun G vs ⟨v, ws, e, _, h'⟩ => by
  obtain ⟨u, h1, h2⟩ := h G ws h'
  exact ⟨u, by rw [e]; exact h1, h2⟩
theorem d_ixT {α : Type} {r : α → Hp → List V → Prop} [∀ x, MonoA (r x)] {x : α} {n : Nat} (ha : D X a σ G cs (rT X.K r x)) (hb : D X b σ G cs (rI (n : Int))) (hat : At (r x) n P) (hs : PlainIx b := by exact fun _ _ => rfl) :
    D X (.Subscript a b pos) σ G cs P :=
  d_by (pe_ix ix_tup (sE X a) (sE X b) hs) fun G1 H s d Q q => ha G1 H s d _ fun G2 H2 u s2 d2 hu => hb G2 H2 (s.trans s2) d2 _ fun G3 H3 y s3 d3 hy => by
    obtain ⟨l, vs, e, hl, hr⟩ := Mono.mono s3 hu
    obtain ⟨v, hv, hp⟩ := hat G3 vs hr
    exact ⟨l, vs, (n : Int), v, e, hy, seqT d3.same hl, atI_nat hv, q G3 H3 v (s2.trans s3) d3 hp⟩
theorem d_lenL {α : Type} {r : α → Hp → V → Prop} {xs : List α} {x : Str} [∀ x, Mono (r x)] (hm : X.mg x = none) (ha : D X a σ G cs (rdL X.K cs r xs)) (hg : Gl X x := by rfl) (hv : bootBuiltins x = some (.builtin "len") := by first | exact PySem.boot_len | decide +kernel) (hn : x ≠ "__name__" := by decide) (hd : (x == ("__debug__" : Str)) = false := by decide)
    (he : starEach [a] X.env = (false, eval a X.env) :: starEach [] X.env := by rfl) (hpl : (backTo pos (starEach [] X.env)).any (·.1) = false := by rfl) : D X (.Call (.Name x p) [a] [] pos) σ G cs (rI (xs.length : Int)) :=
  d_callB call_len hm (a_cons ha a_nil he) (fun G1 H vs s d hvs Q q => by
    obtain ⟨v, ws, e1, h1, h2⟩ := hvs
    cases h2
    obtain ⟨l, us, e, hl, hr⟩ := h1.sq d
    subst e
    exact ⟨_, xs.length, e1, .inl ⟨us, hl, hr.length⟩, q G1 H _ (Same.refl _) d rfl⟩) hg hv hn hd he hpl
theorem d_lenS {l : List Nat} {x : Str} (hm : X.mg x = none) (ha : D X a σ G cs (rS l)) (hl : l.length ≤ sizeLine) (hg : Gl X x := by rfl) (hv : bootBuiltins x = some (.builtin "len") := by first | exact PySem.boot_len | decide +kernel) (hn : x ≠ "__name__" := by decide) (hd : (x == ("__debug__" : Str)) = false := by decide)
    (he : starEach [a] X.env = (false, eval a X.env) :: starEach [] X.env := by rfl) (hpl : (backTo pos (starEach [] X.env)).any (·.1) = false := by rfl) : D X (.Call (.Name x p) [a] [] pos) σ G cs (rI (l.length : Int)) :=
  d_callB call_len hm (a_cons ha a_nil he) (fun G1 H vs s d hvs Q q => by
    obtain ⟨v, ws, e1, h1, h2⟩ := hvs
    cases h2
    cases h1
    exact ⟨_, l.length, e1, ⟨by rw [SX.S_len]; exact hl, (SX.S_len l).symm⟩, q G1 H _ (Same.refl _) d rfl⟩) hg hv hn hd he hpl
theorem d_int1 {x : Str} (hm : X.mg x = none) (ha : D X a σ G cs (rI i)) (hg : Gl X x := by rfl) (hv : bootBuiltins x = some (.type "int") := by decide +kernel) (hn : x ≠ "__name__" := by decide) (hd : (x == ("__debug__" : Str)) = false := by decide)
    (he : starEach [a] X.env = (false, eval a X.env) :: starEach [] X.env := by rfl) (hpl : (backTo pos (starEach [] X.env)).any (·.1) = false := by rfl) : D X (.Call (.Name x p) [a] [] pos) σ G cs (rI i) :=
  d_callTy call_int1 hm (a_cons ha a_nil he) (fun G1 H vs s d hvs Q q => by
    obtain ⟨v, ws, e1, h1, h2⟩ := hvs
    cases h2
    cases h1
    exact .inl ⟨i, e1, q G1 H _ (Same.refl _) d rfl⟩) hg hv hn hd he hpl
theorem d_abs {x : Str} (hm : X.mg x = none) (ha : D X a σ G cs (rI i)) (hg : Gl X x := by rfl) (hv : bootBuiltins x = some (.builtin "abs") := by decide +kernel) (hn : x ≠ "__name__" := by decide) (hd : (x == ("__debug__" : Str)) = false := by decide)
    (he : starEach [a] X.env = (false, eval a X.env) :: starEach [] X.env := by rfl) (hpl : (backTo pos (starEach [] X.env)).any (·.1) = false := by rfl) : D X (.Call (.Name x p) [a] [] pos) σ G cs (rI (if i < 0 then -i else i)) :=
  d_callB call_abs hm (a_cons ha a_nil he) (fun G1 H vs s d hvs Q q => by
    obtain ⟨v, ws, e1, h1, h2⟩ := hvs
    cases h2
    cases h1
    exact ⟨i, e1, q G1 H _ (Same.refl _) d rfl⟩) hg hv hn hd he hpl
theorem d_max2 {x : Str} (hc : X.calm = true) (hm : X.mg x = none) (ha : D X a σ G cs (rI i)) (hb : D X b σ G cs (rI j)) (hg : Gl X x := by rfl) (hv : bootBuiltins x = some (.builtin "max") := by decide +kernel) (hn : x ≠ "__name__" := by decide) (hd : (x == ("__debug__" : Str)) = false := by decide)
    (he : starEach [a, b] X.env = (false, eval a X.env) :: starEach [b] X.env := by rfl) (he2 : starEach [b] X.env = (false, eval b X.env) :: starEach [] X.env := by rfl) (hpl : (backTo pos (starEach [b] X.env)).any (·.1) = false := by rfl) : D X (.Call (.Name x p) [a, b] [] pos) σ G cs (rI (if j > i then j else i)) :=
  d_callB (call_max2 hc) hm (a_cons ha (a_cons hb a_nil he2) he) (fun G1 H vs s d hvs Q q => by
    obtain ⟨v, ws, e1, h1, v2, ws2, e2, h2, h3⟩ := hvs
    cases h3
    cases h1
    cases h2
    subst e2
    exact ⟨i, j, e1, q G1 H _ (Same.refl _) d rfl⟩) hg hv hn hd he hpl
theorem d_min2 {x : Str} (hc : X.calm = true) (hm : X.mg x = none) (ha : D X a σ G cs (rI i)) (hb : D X b σ G cs (rI j)) (hg : Gl X x := by rfl) (hv : bootBuiltins x = some (.builtin "min") := by decide +kernel) (hn : x ≠ "__name__" := by decide) (hd : (x == ("__debug__" : Str)) = false := by decide)
    (he : starEach [a, b] X.env = (false, eval a X.env) :: starEach [b] X.env := by rfl) (he2 : starEach [b] X.env = (false, eval b X.env) :: starEach [] X.env := by rfl) (hpl : (backTo pos (starEach [b] X.env)).any (·.1) = false := by rfl) : D X (.Call (.Name x p) [a, b] [] pos) σ G cs (rI (if j < i then j else i)) :=
  d_callB (call_min2 hc) hm (a_cons ha (a_cons hb a_nil he2) he) (fun G1 H vs s d hvs Q q => by
    obtain ⟨v, ws, e1, h1, v2, ws2, e2, h2, h3⟩ := hvs
    cases h3
    cases h1
    cases h2
    subst e2
    exact ⟨i, j, e1, q G1 H _ (Same.refl _) d rfl⟩) hg hv hn hd he hpl
theorem rs_int {xs : List Int} {vs : List V} (h : Rs rI G xs vs) : vs = xs.map V.int := h.map fun _ _ e => e
theorem rs_bl {xs : List Bool} {vs : List V} (h : Rs rB G xs vs) : vs = xs.map V.bl := h.map fun _ _ e => e
theorem d_sum {xs : List Int} {x : Str} (hc : X.calm = true) (hm : X.mg x = none) (ha : D X a σ G cs (rdL X.K cs rI xs)) (hg : Gl X x := by rfl) (hv : bootBuiltins x = some (.builtin "sum") := by decide +kernel) (hn : x ≠ "__name__" := by decide) (hd : (x == ("__debug__" : Str)) = false := by decide)
    (he : starEach [a] X.env = (false, eval a X.env) :: starEach [] X.env := by rfl) (hpl : (backTo pos (starEach [] X.env)).any (·.1) = false := by rfl) : D X (.Call (.Name x p) [a] [] pos) σ G cs (rI xs.sum) :=
  d_callB (cr_sum hc) hm (a_cons ha a_nil he) (fun G1 H vs s d hvs Q q => by
    obtain ⟨v, ws, e1, h1, h2⟩ := hvs
    cases h2
    obtain ⟨l, us, e, hl, hr⟩ := h1.sq d
    subst e
    have hu := rs_int hr
    subst hu
    exact ⟨l, xs, e1, hl, q G1 H _ (Same.refl _) d rfl⟩) hg hv hn hd he hpl
/-- the greatest, the least of a list -/
def maxL (xs : List Int) : Int := xs.foldl max (xs.headD 0)
def minL (xs : List Int) : Int := xs.foldl min (xs.headD 0)
theorem foldl_max : ∀ (xs : List Int) (z : Int), (xs.foldl max z = z ∨ xs.foldl max z ∈ xs) ∧ z ≤ xs.foldl max z ∧ ∀ y ∈ xs, y ≤ xs.foldl max z
  | [], z => ⟨.inl rfl, Int.le_refl _, fun _ h => nomatch h⟩
  | x :: xs, z => by
    obtain ⟨h1, h2, h3⟩ := foldl_max xs (max z x)
    show ((x :: xs).foldl max z = z ∨ (x :: xs).foldl max z ∈ x :: xs) ∧ z ≤ (x :: xs).foldl max z ∧ ∀ y ∈ x :: xs, y ≤ (x :: xs).foldl max z
    rw [List.foldl_cons]
    refine ⟨?_, by omega, fun y hy => ?_⟩
    · rcases h1 with h1 | h1
      · rw [h1]
        by_cases c : z ≤ x
        · right
          rw [Int.max_eq_right c]
          exact List.mem_cons_self
        · left
          exact Int.max_eq_left (by omega)
      · right
        exact List.mem_cons_of_mem _ h1
    · rcases List.mem_cons.mp hy with e | hy
      · subst e
        omega
      · exact h3 y hy
theorem foldl_min : ∀ (xs : List Int) (z : Int), (xs.foldl min z = z ∨ xs.foldl min z ∈ xs) ∧ xs.foldl min z ≤ z ∧ ∀ y ∈ xs, xs.foldl min z ≤ y
  | [], z => ⟨.inl rfl, Int.le_refl _, fun _ h => nomatch h⟩
  | x :: xs, z => by
    obtain ⟨h1, h2, h3⟩ := foldl_min xs (min z x)
    show ((x :: xs).foldl min z = z ∨ (x :: xs).foldl min z ∈ x :: xs) ∧ (x :: xs).foldl min z ≤ z ∧ ∀ y ∈ x :: xs, (x :: xs).foldl min z ≤ y
    rw [List.foldl_cons]
    refine ⟨?_, by omega, fun y hy => ?_⟩
    · rcases h1 with h1 | h1
      · rw [h1]
        by_cases c : z ≤ x
        · left
          exact Int.min_eq_left c
        · right
          rw [Int.min_eq_right (by omega)]
          exact List.mem_cons_self
      · right
        exact List.mem_cons_of_mem _ h1
    · rcases List.mem_cons.mp hy with e | hy
      · subst e
        omega
      · exact h3 y hy
theorem maxL_is {xs : List Int} (h : 0 < xs.length) : maxL xs ∈ xs ∧ ∀ y ∈ xs, y ≤ maxL xs := by
  cases xs with
  | nil => exact absurd h (Nat.lt_irrefl _)
  | cons x xs =>
    obtain ⟨h1, h2, h3⟩ := foldl_max (x :: xs) x
    refine ⟨?_, h3⟩
    rcases h1 with h1 | h1
    · show (x :: xs).foldl max x ∈ x :: xs
      rw [h1]
      exact List.mem_cons_self
    · exact h1
theorem minL_is {xs : List Int} (h : 0 < xs.length) : minL xs ∈ xs ∧ ∀ y ∈ xs, minL xs ≤ y := by
  cases xs with
  | nil => exact absurd h (Nat.lt_irrefl _)
  | cons x xs =>
    obtain ⟨h1, h2, h3⟩ := foldl_min (x :: xs) x
    refine ⟨?_, h3⟩
    rcases h1 with h1 | h1
    · show (x :: xs).foldl min x ∈ x :: xs
      rw [h1]
      exact List.mem_cons_self
    · exact h1
theorem d_maxL {xs : List Int} {x : Str} (hc : X.calm = true) (hm : X.mg x = none) (ha : D X a σ G cs (rdL X.K cs rI xs)) (h0 : 0 < xs.length) (hg : Gl X x := by rfl) (hv : bootBuiltins x = some (.builtin "max") := by decide +kernel) (hn : x ≠ "__name__" := by decide) (hd : (x == ("__debug__" : Str)) = false := by decide)
    (he : starEach [a] X.env = (false, eval a X.env) :: starEach [] X.env := by rfl) (hpl : (backTo pos (starEach [] X.env)).any (·.1) = false := by rfl) : D X (.Call (.Name x p) [a] [] pos) σ G cs (rI (maxL xs)) :=
  d_callB (cr_max hc) hm (a_cons ha a_nil he) (fun G1 H vs s d hvs Q q => by
    obtain ⟨v, ws, e1, h1, h2⟩ := hvs
    cases h2
    obtain ⟨l, us, e, hl, hr⟩ := h1.sq d
    subst e
    have hu := rs_int hr
    subst hu
    refine ⟨l, xs, e1, hl, h0, fun m hm hle => q G1 H _ (Same.refl _) d ?_⟩
    obtain ⟨k1, k2⟩ := maxL_is h0
    have e3 : m = maxL xs := Int.le_antisymm (k2 m hm) (hle _ k1)
    rw [e3]
    rfl) hg hv hn hd he hpl
theorem d_minL {xs : List Int} {x : Str} (hc : X.calm = true) (hm : X.mg x = none) (ha : D X a σ G cs (rdL X.K cs rI xs)) (h0 : 0 < xs.length) (hg : Gl X x := by rfl) (hv : bootBuiltins x = some (.builtin "min") := by decide +kernel) (hn : x ≠ "__name__" := by decide) (hd : (x == ("__debug__" : Str)) = false := by decide)
    (he : starEach [a] X.env = (false, eval a X.env) :: starEach [] X.env := by rfl) (hpl : (backTo pos (starEach [] X.env)).any (·.1) = false := by rfl) : D X (.Call (.Name x p) [a] [] pos) σ G cs (rI (minL xs)) :=
  d_callB (cr_min hc) hm (a_cons ha a_nil he) (fun G1 H vs s d hvs Q q => by
    obtain ⟨v, ws, e1, h1, h2⟩ := hvs
    cases h2
    obtain ⟨l, us, e, hl, hr⟩ := h1.sq d
    subst e
    have hu := rs_int hr
    subst hu
    refine ⟨l, xs, e1, hl, h0, fun m hm hle => q G1 H _ (Same.refl _) d ?_⟩
    obtain ⟨k1, k2⟩ := minL_is h0
    have e3 : m = minL xs := Int.le_antisymm (hle _ k1) (k2 m hm)
    rw [e3]
    rfl) hg hv hn hd he hpl

/-! ### made: tuples, lists -/
/-- the arguments as a tuple's places; n of them -/
def Tp (n : Nat) (Ps R : Hp → List V → Prop) : Prop := ∀ G vs, Ps G vs → R G vs ∧ vs.length = n
theorem tp_1 {α : Type} {r : α → Hp → V → Prop} {x : α} : Tp 1 (aC (r x) aN) (c0 r x) := fun G vs ⟨v, ws, e, h, h2⟩ => by
  cases h2
  exact ⟨⟨v, e, h⟩, by rw [e]; rfl⟩
theorem tp_c {α β : Type} {r : α → Hp → V → Prop} {r' : β → Hp → List V → Prop} {x : α} {y : β} {n : Nat} {Ps : Hp → List V → Prop} (h : Tp n Ps (r' y)) : Tp (n + 1) (aC (r x) Ps) (cc r r' (x, y)) := fun G vs ⟨v, ws, e, h1, h2⟩ => by
  obtain ⟨k1, k2⟩ := h G ws h2
  exact ⟨⟨v, ws, e, h1, k1⟩, by rw [e, List.length_cons, k2]⟩
theorem sl_small {n : Nat} (h : n ≤ 16777216) : n ≤ sizeLine := by rw [sizeLine_eq]; exact h
theorem d_tup {α : Type} {r : α → Hp → List V → Prop} {x : α} {Ps : Hp → List V → Prop} {n kk : Nat} [∀ x, MonoA (r x)] (h : A X es σ G cs Ps) (ht : Tp n Ps (r x)) (hn : n ≤ 16777216 := by decide) : D X (.Tuple es kk pos) σ G cs (rT X.K r x) :=
  d_by (pe_tup (sA X es)) fun G1 H s d Q q => h G1 H s d _ fun G2 H2 vs s2 d2 hvs => by
    obtain ⟨k1, k2⟩ := ht G2 vs hvs
    refine ⟨by rw [k2]; exact sl_small hn, fun l hl => ?_⟩
    have sf : Same G2 (upd G2 l (.tup vs)) := Same.fresh d2.same hl _
    exact q _ _ _ (s2.trans sf) (d2.new hl _) ⟨l, vs, rfl, SqT.of upd_same, MonoA.mono sf k1⟩
/-- the arguments as a list's items -/
def Ls {α : Type} (r : α → Hp → V → Prop) (Ps : Hp → List V → Prop) (xs : List α) : Prop := ∀ G vs, Ps G vs → Rs r G xs vs
theorem ls_n {α : Type} {r : α → Hp → V → Prop} : Ls r aN [] := fun G vs h => by cases h; exact .nil
theorem ls_c {α : Type} {r : α → Hp → V → Prop} {x : α} {xs : List α} {Ps : Hp → List V → Prop} (h : Ls r Ps xs) : Ls r (aC (r x) Ps) (x :: xs) := fun G vs ⟨v, ws, e, h1, h2⟩ => by
  rw [e]
  exact .cons h1 (h G ws h2)
/-- a new list, not yet frozen -/
def N (X : Cx) (e : Expr) (σ : L2.St) (G : Hp) (cs : Cells) {α : Type} (r : α → Hp → V → Prop) (xs : List α) : Prop :=
  ∀ G1 H, Same G G1 → Desc G1 cs H → ∀ Q : VK, (∀ G2 H2 l vs, Same G1 G2 → Desc G2 ((l, .lst vs) :: cs) H2 → Rs r G2 xs vs → Q (.ref l) H2) → wE X e σ H Q
theorem d_new {α : Type} {r : α → Hp → V → Prop} [∀ x, Mono (r x)] {xs : List α} (h : N X e σ G cs r xs) : D X e σ G cs (rL X.K r xs) := fun G1 H s d Q q =>
  h G1 H s d Q fun G2 H2 l vs s2 d2 hr => by
    obtain ⟨f1, f2⟩ := d2.freeze
    exact q _ _ _ (s2.trans f1) f2 ⟨l, vs, rfl, SqL.of upd_same, hr.mono f1⟩
theorem n_lst {α : Type} {r : α → Hp → V → Prop} {xs : List α} {Ps : Hp → List V → Prop} (h : A X es σ G cs Ps) (hl : Ls r Ps xs) (hn : xs.length ≤ 16777216 := by first | decide | simp | (simp; omega)) : N X (.List es pos) σ G cs r xs := fun G1 H s d Q q =>
  uE (pe_lst (sA X es)) (h G1 H s d _ fun G2 H2 vs s2 d2 hvs => by
    have hr := hl G2 vs hvs
    exact ⟨by rw [← hr.length]; exact sl_small hn, fun l hl => q G2 _ l vs s2 (d2.newCell hl _) hr⟩)
/-- list(xs) of a list -/
theorem n_listL {α : Type} {r : α → Hp → V → Prop} [∀ x, Mono (r x)] {xs : List α} {x : Str} (hm : X.mg x = none) (ha : D X a σ G cs (rdL X.K cs r xs)) (hg : Gl X x := by rfl) (hv : bootBuiltins x = some (.type "list") := by decide +kernel) (hn : x ≠ "__name__" := by decide) (hd : (x == ("__debug__" : Str)) = false := by decide)
    (he : starEach [a] X.env = (false, eval a X.env) :: starEach [] X.env := by rfl) (hpl : (backTo pos (starEach [] X.env)).any (·.1) = false := by rfl) : N X (.Call (.Name x p) [a] [] pos) σ G cs r xs := fun G1 H s d Q q =>
  uE (pe_callTy call_list_of hg hm hv (sA X [a]) (hn := hn) (hdb := hd) (he := he) (hpl := hpl)) (a_cons ha a_nil he G1 H s d _ fun G2 H2 vs s2 d2 hvs => by
    obtain ⟨v, ws, e1, h1, h2⟩ := hvs
    cases h2
    obtain ⟨l, us, e, hl, hr⟩ := h1.sq d2
    subst e
    exact ⟨l, us, e1, .inl hl, fun l' hl' => q G2 _ l' us s2 (d2.newCell hl' _) hr⟩)
end

section
variable {ε S L R : Type} {X : Cx} {W : ε → L2.St → Hp → Prop} {σ : L2.St} {G : Hp} {cs : Cells} {Φ : Po ε S L R} {m : Out ε S L R} {st : Stmt} {rest body : List Stmt} {e o : Expr} {P : Hp → V → Prop} {pos p : Pos}
/-- name = a new list that will change -/
theorem b_setN {α : Type} {r : α → Hp → V → Prop} {xs : List α} (i : Nat) {x : Str} (hN : X.N.Nodup) (he : N X e σ G cs r xs) (k : ∀ l vs G1, Same G G1 → Rs r G1 xs vs → B X W rest (σ.set i (some (.ref l))) G1 ((l, .lst vs) :: cs) Φ m) (hi : X.N[i]? = some x := by rfl) (hx : Loc X.env.scope x := by first | exact Or.inl rfl | exact Or.inr rfl)
    (hs : swapsWith e (some (.Name x p)) pos.line X.env = pure false := by rfl) (hf : X.fn x = true ∨ X.env.scope.names.lookup x = some .local := by first | exact .inl rfl | exact .inr rfl) : B X W (.Assign [.Name x p] e pos :: rest) σ G cs Φ m :=
  b_cons (ps_set hN hi hx (sE X e) hs hf) fun H d E w => he G H (Same.refl _) d _ fun G2 H2 l vs s2 d2 hr => k l vs G2 s2 hr H2 d2 E (w.up s2)
/-- xs.append(e), xs the cell at k -/
theorem b_app (k : Nat) {l : Addr} {vs : List V} {apos cpos : Pos} (hk : cs[k]? = some (l, .lst vs)) (ho : D X o σ G cs (rV (.ref l))) (he : D X e σ G cs P) (hz : vs.length < sizeLine)
    (q : ∀ v G1, Same G G1 → P G1 v → B X W rest σ G1 (cs.set k (l, .lst (vs ++ [v]))) Φ m) (hs : swapsWith (.Call (.Attribute o "append" apos) [e] [] cpos) none pos.line X.env = pure false := by rfl)
    (hbase : attributeBase o "append" X.env (eval o X.env) = eval o X.env := by rfl)
    (hfew : ((backTo cpos (starEach [e] X.env)).all (fun x => !x.1) && (backToKw cpos (keywordEach [] X.env)).all (fun x => x.1.isSome) && decide ([e].length + ([] : List Keyword).length + (if ([] : List Keyword).isEmpty then 0 else 1) < 30)) = true := by rfl)
    (hline : (apos.endLine == cpos.line) = true := by rfl) (hst : starEach [e] X.env = (false, eval e X.env) :: starEach [] X.env := by rfl) (hplain : (backTo cpos (starEach [] X.env)).any (·.1) = false := by rfl) :
    B X W (.Expr (.Call (.Attribute o "append" apos) [e] [] cpos) pos :: rest) σ G cs Φ m :=
  b_cons (ps_expr (pe_bm PySem.F.plainAttrs_list PySem.F.slot_list_append PySem.F.type_list_append mt_append (sE X o) (pa_cons (sE X e) pa_nil hst) hbase hfew hline hst hplain) hs) fun H d E w =>
    ho G H (Same.refl _) d _ fun G2 H2 u s2 d2 hu => by
      have eu : u = .ref l := hu
      subst eu
      refine ⟨.inl ⟨rfl, vs, SqL.of (d2.at_ (List.mem_of_getElem? hk))⟩, he G2 H2 s2 d2 _ fun G3 H3 v s3 d3 hv => ?_⟩
      exact ⟨l, vs, v, rfl, rfl, d3.at_ (List.mem_of_getElem? hk), hz, q v G3 (s2.trans s3) hv _ (d3.write hk _) E (w.up (s2.trans s3))⟩
theorem perm_at {cs : Cells} {k : Nat} {c : Addr × HO} (h : cs[k]? = some c) : cs.Perm (c :: cs.eraseIdx k) := by
  induction cs generalizing k with
  | nil => cases k <;> cases h
  | cons x cs ih =>
    cases k with
    | zero =>
      have e : x = c := Option.some.inj h
      subst e
      exact List.Perm.refl _
    | succ k => exact ((ih (k := k) h).cons x).trans (List.Perm.swap ..)
/-- the cell at k changes no more -/
theorem b_freeze (k : Nat) {l : Addr} {u : HO} (hk : cs[k]? = some (l, u)) (h : Same G (upd G l u) → (upd G l u) l = some u → B X W rest σ (upd G l u) (cs.eraseIdx k) Φ m) : B X W rest σ G cs Φ m := fun H d E w => by
  obtain ⟨f1, f2⟩ := (d.perm (perm_at hk)).freeze
  exact h f1 upd_same H f2 E (w.up f1)
end
end J

namespace J
open PySem L2 PyProof.Rows

/-! ### what is walked -/
/-- lo, lo + 1, .. below hi -/
def rng (lo hi : Int) : List Int := (List.range (hi - lo).toNat).map fun k : Nat => lo + (k : Int)
theorem rng_length (lo hi : Int) : (rng lo hi).length = (hi - lo).toNat := by simp [rng]
theorem rng_get {lo hi : Int} {i : Nat} (h : i < (hi - lo).toNat) : (rng lo hi)[i]? = some (lo + (i : Int)) := by simp [rng, h]
theorem rng_mem {lo hi x : Int} : x ∈ rng lo hi ↔ lo ≤ x ∧ x < hi := by
  unfold rng
  rw [List.mem_map]
  constructor
  · rintro ⟨k, hk, rfl⟩
    have := List.mem_range.mp hk
    omega
  · rintro ⟨h1, h2⟩
    exact ⟨(x - lo).toNat, List.mem_range.mpr (by omega), by omega⟩
/-- the items with their places -/
def enumL {α : Type} (xs : List α) : List (Int × α) := xs.zipIdx.map fun p => ((p.2 : Int), p.1)
theorem enumL_length {α : Type} (xs : List α) : (enumL xs).length = xs.length := by simp [enumL]
theorem enumL_get {α : Type} {xs : List α} {i : Nat} {x : α} (h : xs[i]? = some x) : (enumL xs)[i]? = some ((i : Int), x) := by simp [enumL, h]
theorem enumL_getE {α : Type} {xs : List α} {i : Nat} {p : Int × α} (h : (enumL xs)[i]? = some p) : p.1 = (i : Int) ∧ xs[i]? = some p.2 := by
  have hl : i < (enumL xs).length := (List.getElem?_eq_some_iff.mp h).1
  rw [enumL_length] at hl
  have e := enumL_get (xs := xs) (i := i) (x := xs[i]) (by simp [hl])
  rw [h] at e
  cases e
  exact ⟨rfl, by simp [hl]⟩
def rU (K : PySem.W.Frag) {α : Type} (r : α → Hp → V → Prop) (xs : List α) : Hp → V → Prop := fun G v => ∃ a vs, v = .ref a ∧ SqT K G a vs ∧ Rs r G xs vs
instance (K : PySem.W.Frag) {α : Type} (r : α → Hp → V → Prop) [m : ∀ x, Mono (r x)] (xs : List α) : Mono (rU K r xs) :=
  ⟨fun e ⟨a, vs, h1, h2, h3⟩ => ⟨a, vs, h1, seqT e h2, h3.mono e⟩⟩
section
variable {X : Cx} {σ : L2.St} {G : Hp} {cs : Cells} {e a b tg iter : Expr} {es : List Expr} {pos p : Pos} {α : Type} {r : α → Hp → V → Prop} {xs : List α}
theorem wd_list {l : Addr} {vs : List V} {C : Cells → Prop} [m : ∀ x, Mono (r x)] (hr : Rs r G xs vs) (hC : ∀ G1 H cs, Same G G1 → C cs → Desc G1 cs H → SqL X.K H l vs) : WalkD (Itl X.K l) xs G C r :=
  ⟨fun i G1 H cs hi s c d => walk_list.goes i H (by rw [← hr.length]; exact hi) (hC G1 H cs s c d), fun G1 H cs s c d => by
    have q := walk_list.stops H (hC G1 H cs s c d)
    rw [← hr.length] at q
    exact q, fun i x G1 H cs v H' hx s c d y => by
    have hi : i < xs.length := (List.getElem?_eq_some_iff.mp hx).1
    obtain ⟨e, hv⟩ := walk_list.yields i H v H' (by rw [← hr.length]; exact hi) (hC G1 H cs s c d) y
    obtain ⟨x', h1, h2⟩ := hr.getV hv
    rw [hx] at h1
    cases h1
    subst e
    exact ⟨G1, Same.refl _, d, (m x).mono s h2⟩⟩
theorem i_listF [∀ x, Mono (r x)] (h : D X iter σ G cs (rL X.K r xs)) : I X tg iter σ G cs (fun _ => True) xs r :=
  ⟨_, pi_list (sE X iter), fun G1 H s d Rr k => h G1 H s d _ fun G2 H2 v s2 d2 hv => by
    obtain ⟨l, vs, e, hl, hr⟩ := hv
    exact ⟨l, e, ⟨vs, d2.same.seq hl⟩, k _ G2 H2 s2 d2 (wd_list hr fun G3 H3 cs3 s3 _ d3 => d3.same.seq (s3.seq hl))⟩⟩
theorem i_listC {l : Addr} {vs : List V} [∀ x, Mono (r x)] (h : D X iter σ G cs (rV (.ref l))) (hm : (l, .lst vs) ∈ cs) (hr : Rs r G xs vs) : I X tg iter σ G cs (fun cs' => (l, .lst vs) ∈ cs') xs r :=
  ⟨_, pi_list (sE X iter), fun G1 H s d Rr k => h G1 H s d _ fun G2 H2 v s2 d2 hv =>
    ⟨l, hv, ⟨vs, SqL.of (d2.at_ hm)⟩, k _ G2 H2 s2 d2 (wd_list (hr.mono (s.trans s2)) fun G3 H3 cs3 s3 c3 d3 => SqL.of (d3.at_ c3))⟩⟩
theorem i_tupU [m : ∀ x, Mono (r x)] (h : D X iter σ G cs (rU X.K r xs)) : I X tg iter σ G cs (fun _ => True) xs r :=
  ⟨_, pi_tup (sE X iter), fun G1 H s d Rr k => h G1 H s d _ fun G2 H2 v s2 d2 hv => by
    obtain ⟨l, vs, e, hl, hr⟩ := hv
    refine ⟨l, e, ⟨vs, seqT d2.same hl⟩, k _ G2 H2 s2 d2 ⟨fun i G3 H3 cs3 hi s3 _ d3 => walk_tup.goes i H3 (by rw [← hr.length]; exact hi) (seqT d3.same (seqT s3 hl)), fun G3 H3 cs3 s3 _ d3 => ?_, fun i x G3 H3 cs3 v H' hx s3 _ d3 y => ?_⟩⟩
    · have q := walk_tup.stops H3 (seqT d3.same (seqT s3 hl))
      rw [← hr.length] at q
      exact q
    · have hi : i < xs.length := (List.getElem?_eq_some_iff.mp hx).1
      obtain ⟨e, hv⟩ := walk_tup.yields i H3 v H' (by rw [← hr.length]; exact hi) (seqT d3.same (seqT s3 hl)) y
      obtain ⟨x', h1, h2⟩ := hr.getV hv
      rw [hx] at h1
      cases h1
      subst e
      exact ⟨G3, Same.refl _, d3, (m x).mono s3 h2⟩⟩
theorem wd_rng {lo hi : Int} {C : Cells → Prop} : WalkD (Itr lo (hi - lo).toNat) (rng lo hi) G C rI :=
  ⟨fun i G1 H cs h s c d => by
    rw [rng_length] at h
    exact h, fun G1 H cs s c d => by
    show (hi - lo).toNat ≤ (rng lo hi).length
    rw [rng_length]
    exact Nat.le_refl _, fun i x G1 H cs v H' hx s c d y => by
    have h : i < (rng lo hi).length := (List.getElem?_eq_some_iff.mp hx).1
    rw [rng_length] at h
    rw [rng_get h] at hx
    cases hx
    obtain ⟨e1, e2⟩ := y
    subst e1
    exact ⟨G1, Same.refl _, d, e2⟩⟩
theorem i_rng1 {j : Int} (hm : X.mg "range" = none) (ha : D X a σ G cs (rI j)) (h1 : -(2 ^ 62) ≤ j) (h2 : j < 2 ^ 62) (hg : Gl X "range" := by rfl) (hs : starEach [a] X.env = [(false, eval a X.env)] := by rfl) (hst : starEach [a] X.env = (false, eval a X.env) :: starEach [] X.env := by rfl) :
    I X tg (.Call (.Name "range" p) [a] [] pos) σ G cs (fun _ => True) (rng 0 j) rI :=
  ⟨_, pi_range1 hg hm (sA X [a]) hs, fun G1 H s d Rr k => a_cons ha a_nil hst G1 H s d _ fun G2 H2 vs s2 d2 hvs => by
    obtain ⟨v, ws, e1, k1, k2⟩ := hvs
    cases k2
    cases k1
    refine ⟨j, e1, h1, h2, k _ G2 H2 s2 d2 ?_⟩
    have q := wd_rng (G := G2) (lo := 0) (hi := j) (C := fun _ => True)
    rw [Int.sub_zero] at q
    exact q⟩
theorem i_rng2 {i j : Int} (hm : X.mg "range" = none) (ha : D X a σ G cs (rI i)) (hb : D X b σ G cs (rI j)) (h : -(2 ^ 62) ≤ i ∧ i < 2 ^ 62 ∧ -(2 ^ 62) ≤ j ∧ j < 2 ^ 62) (hg : Gl X "range" := by rfl) (hs : starEach [a, b] X.env = [(false, eval a X.env), (false, eval b X.env)] := by rfl) (hs2 : starEach [b] X.env = [(false, eval b X.env)] := by rfl)
    (hst : starEach [a, b] X.env = (false, eval a X.env) :: starEach [b] X.env := by rfl) (hst2 : starEach [b] X.env = (false, eval b X.env) :: starEach [] X.env := by rfl) : I X tg (.Call (.Name "range" p) [a, b] [] pos) σ G cs (fun _ => True) (rng i j) rI :=
  ⟨_, pi_range2 hg hm (sA X [a, b]) hs hs2, fun G1 H s d Rr k => a_cons ha (a_cons hb a_nil hst2) hst G1 H s d _ fun G2 H2 vs s2 d2 hvs => by
    obtain ⟨v, ws, e1, k1, v2, ws2, e2, k2, k3⟩ := hvs
    cases k3
    cases k1
    cases k2
    subst e2
    exact ⟨i, j, e1, h, k _ G2 H2 s2 d2 wd_rng⟩⟩
def rC (c : Nat) : Hp → V → Prop := rS [c]
instance (c : Nat) : Mono (rC c) := ⟨fun _ h => h⟩
theorem i_str {l : List Nat} (h : D X iter σ G cs (rS l)) : I X tg iter σ G cs (fun _ => True) l rC :=
  ⟨_, pi_str (sE X iter), fun G1 H s d Rr k => h G1 H s d _ fun G2 H2 v s2 d2 hv => by
    refine ⟨SX.S l, hv, k _ G2 H2 s2 d2 ⟨fun i G3 H3 cs3 hi s3 _ d3 => ?_, fun G3 H3 cs3 s3 _ d3 => ?_, fun i x G3 H3 cs3 v H' hx s3 _ d3 y => ?_⟩⟩
    · show i < (SX.S l).cps.size
      simpa using hi
    · show (SX.S l).cps.size ≤ l.length
      simp
    · obtain ⟨e, c, h1, h2⟩ := y
      subst e
      have h3 : l[i]? = some c := by simpa using h1
      rw [hx] at h3
      cases h3
      exact ⟨G3, Same.refl _, d3, h2⟩⟩
theorem wd_enum {l : Addr} {vs : List V} {C : Cells → Prop} [m : ∀ x, Mono (r x)] (hr : Rs r G xs vs) (hC : ∀ G1 H cs, Same G G1 → C cs → Desc G1 cs H → SqL X.K H l vs) : WalkD (Ite X.K l) (enumL xs) G C (rT X.K (cc rI (c0 r))) :=
  ⟨fun i G1 H cs hi s c d => walk_enum.goes i H (by rw [enumL_length] at hi; rw [← hr.length]; exact hi) (hC G1 H cs s c d), fun G1 H cs s c d => by
    have q := walk_enum.stops H (hC G1 H cs s c d)
    rw [← hr.length] at q
    rw [enumL_length]
    exact q, fun i x G1 H cs v H' hx s c d y => by
    obtain ⟨e1, e2⟩ := enumL_getE hx
    have hi : i < xs.length := (List.getElem?_eq_some_iff.mp e2).1
    obtain ⟨t, u, w, h1, h2, h3, h4, h5⟩ := walk_enum.yields i H v H' (by rw [← hr.length]; exact hi) (hC G1 H cs s c d) y
    obtain ⟨x', k1, k2⟩ := hr.getV h5
    rw [e2] at k1
    cases k1
    cases h4
    subst h3
    have sf : Same G1 (upd G1 t (.tup [.int (i : Nat), w])) := Same.fresh d.same h2 _
    refine ⟨_, sf, d.new h2 _, t, [.int (i : Nat), w], h1, SqT.of upd_same, .int (i : Nat), [w], rfl, ?_, w, rfl, (m x.2).mono (s.trans sf) k2⟩
    show V.int _ = V.int _
    rw [e1]⟩
theorem i_enumF {elts : List Expr} {kk : Nat} {tpos : Pos} [∀ x, Mono (r x)] (hm : X.mg "enumerate" = none) (h : D X a σ G cs (rL X.K r xs)) (hg : Gl X "enumerate" := by rfl) (hs : starEach [a] X.env = [(false, eval a X.env)] := by rfl) (hst : starEach [a] X.env = (false, eval a X.env) :: starEach [] X.env := by rfl) :
    I X (.Tuple elts kk tpos) (.Call (.Name "enumerate" p) [a] [] pos) σ G cs (fun _ => True) (enumL xs) (rT X.K (cc rI (c0 r))) :=
  ⟨_, pi_enum hg hm (sA X [a]) hs, fun G1 H s d Rr k => a_cons h a_nil hst G1 H s d _ fun G2 H2 vs s2 d2 hvs => by
    obtain ⟨v, ws, e1, k1, k2⟩ := hvs
    cases k2
    obtain ⟨l, us, e, hl, hr⟩ := k1
    subst e
    exact ⟨l, us, e1, d2.same.seq hl, k _ G2 H2 s2 d2 (wd_enum hr fun G3 H3 cs3 s3 _ d3 => d3.same.seq (s3.seq hl))⟩⟩

/-! ### targets -/
def sxN (i : Nat) {α : Type} (r : α → Hp → V → Prop) : α → Hp → L2.St → L2.St → Prop := fun x G σ σ' => ∃ v, r x G v ∧ σ' = σ.set i (some v)
theorem tg_name (i : Nat) {x : Str} (hN : X.N.Nodup) (hi : X.N[i]? = some x := by rfl) (hx : Loc X.env.scope x := by first | exact Or.inl rfl | exact Or.inr rfl) (hf : X.fn x = true ∨ X.env.scope.names.lookup x = some .local := by first | exact .inl rfl | exact .inr rfl) : Tg X (.Name x pos) r (sxN i r) :=
  ⟨_, pg_name hN hi hx hf, fun x v G cs H σ h d Q q => q _ ⟨v, h, rfl⟩⟩
def Tgs {α : Type} (X : Cx) (ts : List Expr) (R : α → Hp → List V → Prop) (n : Nat) (Sx : α → Hp → L2.St → L2.St → Prop) : Prop :=
  ∃ g, PGs X ts g ∧ ∀ x vs G cs H σ, R x G vs → Desc G cs H → vs.length = n ∧ ∀ Q : L2.St → Hp → Prop, (∀ σ', Sx x G σ σ' → Q σ' H) → g vs σ H Q
theorem tgs_1 {S1 : α → Hp → L2.St → L2.St → Prop} (h : Tg X e r S1) (hs : (assignEach [e] X.env).map (·.2) = assign e X.env :: (assignEach [] X.env).map (·.2) := by rfl) : Tgs X [e] (c0 r) 1 S1 := by
  obtain ⟨g, h1, h2⟩ := h
  refine ⟨_, pgs_cons (hs := hs) h1 pgs_nil, fun x vs G cs H σ hr d => ?_⟩
  obtain ⟨v, rfl, hv⟩ := hr
  exact ⟨rfl, fun Q q => ⟨v, [], rfl, h2 x v G cs H σ hv d _ fun σ' hs => ⟨rfl, q σ' hs⟩⟩⟩
theorem tgs_c {β : Type} {r' : β → Hp → List V → Prop} {n : Nat} {S1 : α → Hp → L2.St → L2.St → Prop} {S2 : β → Hp → L2.St → L2.St → Prop} (h : Tg X e r S1) (h' : Tgs X es r' n S2) (hs : (assignEach (e :: es) X.env).map (·.2) = assign e X.env :: (assignEach es X.env).map (·.2) := by rfl) :
    Tgs X (e :: es) (cc r r') (n + 1) (fun x G σ σ' => ∃ σ1, S1 x.1 G σ σ1 ∧ S2 x.2 G σ1 σ') := by
  obtain ⟨g, h1, h2⟩ := h
  obtain ⟨g', h3, h4⟩ := h'
  refine ⟨_, pgs_cons (hs := hs) h1 h3, fun x vs G cs H σ hr d => ?_⟩
  obtain ⟨v, ws, rfl, hv, hw⟩ := hr
  refine ⟨by rw [List.length_cons, (h4 x.2 ws G cs H σ hw d).1], fun Q q => ⟨v, ws, rfl, h2 x.1 v G cs H σ hv d _ fun σ1 hs => (h4 x.2 ws G cs H σ1 hw d).2 Q fun σ' hs' => q σ' ⟨σ1, hs, hs'⟩⟩⟩
theorem tg_tup {R : α → Hp → List V → Prop} {n kk : Nat} {Sx : α → Hp → L2.St → L2.St → Prop} (hc : X.calm = true) (h : Tgs X es R n Sx) (hn : (assignEach es X.env).length = n := by rfl) (hst : (assignEach es X.env).findIdx? (·.1) = none := by rfl) : Tg X (.Tuple es kk pos) (rT X.K R) Sx := by
  obtain ⟨g, h1, h2⟩ := h
  refine ⟨_, pg_tup hc h1 hn hst, fun x v G cs H σ hr d Q q => ?_⟩
  obtain ⟨l, vs, e, hl, hR⟩ := hr
  obtain ⟨k1, k2⟩ := h2 x vs G cs H σ hR d
  exact ⟨l, vs, e, seqT d.same hl, k1, k2 Q q⟩
end
section
variable {ε S L R : Type} {X : Cx} {W : ε → L2.St → Hp → Prop} {σ : L2.St} {G : Hp} {cs : Cells} {Φ : Po ε S L R} {m : Out ε S L R} {st : Stmt} {rest body : List Stmt} {e o tg : Expr} {P : Hp → V → Prop} {pos p : Pos}
/-- a target of any form = e -/
theorem b_asg {α : Type} {r : α → Hp → V → Prop} {x : α} {Sx : α → Hp → L2.St → L2.St → Prop} (he : D X e σ G cs (r x)) (ht : Tg X tg r Sx) (k : ∀ σ' G1, Same G G1 → Sx x G1 σ σ' → B X W rest σ' G1 cs Φ m)
    (hs : swapsWithSole [tg] e pos.line X.env = pure false := by rfl) (hw : swappedStores [tg] e X.env = pure none := by rfl) (h1 : (assignEach [tg] X.env).map (·.2) = [assign tg X.env] := by rfl) : B X W (.Assign [tg] e pos :: rest) σ G cs Φ m := by
  obtain ⟨g, hg, h2⟩ := ht
  exact b_cons (ps_asg (sE X e) hg hs hw (h1 := h1)) fun H d E w => he G H (Same.refl _) d _ fun G2 H2 v s2 d2 hv => h2 x v G2 cs H2 σ hv d2 _ fun σ' hS => k σ' G2 s2 hS H2 d2 E (w.up s2)
theorem b_augAdd (i : Nat) {x : Str} {p' : Pos} {z y : Int} (hN : X.N.Nodup) (hz : σ[i]? = some (some (.int z))) (he : D X e σ G cs (rI y)) (k : ∀ G1, Same G G1 → B X W rest (σ.set i (some (.int (z + y)))) G1 cs Φ m) (hi : X.N[i]? = some x := by rfl) (hx : Loc X.env.scope x := by first | exact Or.inl rfl | exact Or.inr rfl)
    (hf : X.fn x = true ∨ X.env.scope.names.lookup x = some .local := by first | exact .inl rfl | exact .inr rfl) : B X W (.AugAssign (.Name x p') .Add e pos :: rest) σ G cs Φ m :=
  b_cons (ps_aug hN hi hx (sE X e) ip_add hf) fun H d E w => ⟨_, hz, he G H (Same.refl _) d _ fun G2 H2 v s2 d2 hv => ⟨z, y, rfl, hv, k G2 s2 H2 d2 E (w.up s2)⟩⟩
theorem b_augSub (i : Nat) {x : Str} {p' : Pos} {z y : Int} (hN : X.N.Nodup) (hz : σ[i]? = some (some (.int z))) (he : D X e σ G cs (rI y)) (k : ∀ G1, Same G G1 → B X W rest (σ.set i (some (.int (z - y)))) G1 cs Φ m) (hi : X.N[i]? = some x := by rfl) (hx : Loc X.env.scope x := by first | exact Or.inl rfl | exact Or.inr rfl)
    (hf : X.fn x = true ∨ X.env.scope.names.lookup x = some .local := by first | exact .inl rfl | exact .inr rfl) : B X W (.AugAssign (.Name x p') .Sub e pos :: rest) σ G cs Φ m :=
  b_cons (ps_aug hN hi hx (sE X e) ip_sub hf) fun H d E w => ⟨_, hz, he G H (Same.refl _) d _ fun G2 H2 v s2 d2 hv => ⟨z, y, rfl, hv, k G2 s2 H2 d2 E (w.up s2)⟩⟩
end

/-! ### sorted -/
def srt (xs : List Int) : List Int := xs.mergeSort fun a b => decide (a ≤ b)
def srtR (xs : List Int) : List Int := xs.mergeSort fun a b => decide (b ≤ a)
theorem perm_eq {le : Int → Int → Prop} (anti : ∀ a b, le a b → le b a → a = b) : ∀ {xs ys : List Int}, xs.Perm ys → xs.Pairwise le → ys.Pairwise le → xs = ys
  | [], ys, p, _, _ => (List.nil_perm.mp p).symm
  | x :: xs, [], p, _, _ => absurd (List.perm_nil.mp p) (by simp)
  | x :: xs, y :: ys, p, h1, h2 => by
    have hx : x ∈ y :: ys := p.mem_iff.mp List.mem_cons_self
    have hy : y ∈ x :: xs := p.mem_iff.mpr List.mem_cons_self
    have e : x = y := by
      rcases List.mem_cons.mp hx with e | hx
      · exact e
      · rcases List.mem_cons.mp hy with e | hy
        · exact e.symm
        · exact anti _ _ ((List.pairwise_cons.mp h1).1 y hy) ((List.pairwise_cons.mp h2).1 x hx)
    subst e
    rw [perm_eq anti (List.perm_cons x |>.mp p) (List.pairwise_cons.mp h1).2 (List.pairwise_cons.mp h2).2]
theorem srt_is {xs ys : List Int} (p : ys.Perm xs) (h : ys.Pairwise (· ≤ ·)) : ys = srt xs := by
  refine perm_eq (le := fun a b => a ≤ b) (fun a b => Int.le_antisymm) (p.trans (List.mergeSort_perm xs _).symm) h ?_
  have q := List.pairwise_mergeSort (le := fun a b : Int => decide (a ≤ b)) (fun a b c h1 h2 => by simp at *; omega) (fun a b => by simp; omega) xs
  exact q.imp fun h => of_decide_eq_true h
theorem srtR_is {xs ys : List Int} (p : ys.Perm xs) (h : ys.Pairwise (· ≥ ·)) : ys = srtR xs := by
  refine perm_eq (le := fun a b => b ≤ a) (fun a b h1 h2 => Int.le_antisymm h2 h1) (p.trans (List.mergeSort_perm xs _).symm) h ?_
  have q := List.pairwise_mergeSort (le := fun a b : Int => decide (b ≤ a)) (fun a b c h1 h2 => by simp at *; omega) (fun a b => by simp; omega) xs
  exact q.imp fun h => of_decide_eq_true h
section
variable {X : Cx} {σ : L2.St} {G : Hp} {cs : Cells} {a : Expr} {pos p : Pos} {xs : List Int}
theorem n_sorted (hm : X.mg "sorted" = none) (ha : D X a σ G cs (rdL X.K cs rI xs)) (hg : Gl X "sorted" := by rfl) (hv : bootBuiltins "sorted" = some (.builtin "sorted") := by decide +kernel)
    (he : starEach [a] X.env = (false, eval a X.env) :: starEach [] X.env := by rfl) (hpl : (backTo pos (starEach [] X.env)).any (·.1) = false := by rfl) : N X (.Call (.Name "sorted" p) [a] [] pos) σ G cs rI (srt xs) := fun G1 H s d Q q =>
  uE (pe_callB cr_sortedI hg hm hv (sA X [a]) (he := he) (hpl := hpl)) (a_cons ha a_nil he G1 H s d _ fun G2 H2 vs s2 d2 hvs => by
    obtain ⟨v, ws, e1, h1, h2⟩ := hvs
    cases h2
    obtain ⟨l, us, e, hl, hr⟩ := h1.sq d2
    subst e
    have hu := rs_int hr
    subst hu
    refine ⟨l, xs, e1, hl, fun ys l' hp hs hl' => q G2 _ l' _ s2 (d2.newCell hl' _) ?_⟩
    rw [srt_is hp hs]
    exact Rs.of_map (fun _ => rfl) _)
theorem n_sortedR {kn : Option Str} {jj : Nat} {p2 p3 : Pos} (hk : PK X [⟨kn, .Constant (.bool true) jj p2, p3⟩] (fun _ H Q => Q [.bl true] H)) (hm : X.mg "sorted" = none) (ha : D X a σ G cs (rdL X.K cs rI xs)) (hg : Gl X "sorted" := by rfl) (hv : bootBuiltins "sorted" = some (.builtin "sorted") := by decide +kernel)
    (he : backTo pos (starEach [a] X.env) = (false, eval a X.env) :: backTo pos (starEach [] X.env) := by rfl) (hst : starEach [a] X.env = (false, eval a X.env) :: starEach [] X.env := by rfl) (hpl : (backTo pos (starEach [a] X.env)).any (·.1) = false := by rfl)
    (hall : (backToKw pos (keywordEach [⟨kn, .Constant (.bool true) jj p2, p3⟩] X.env)).all (·.1.isSome) = true := by rfl) (hnone : (backToKw pos (keywordEach [⟨kn, .Constant (.bool true) jj p2, p3⟩] X.env)).any (·.1.isNone) = false := by rfl)
    (hks : (backToKw pos (keywordEach [⟨kn, .Constant (.bool true) jj p2, p3⟩] X.env)).filterMap (·.1) = [Str.ofString "reverse"] := by rfl) :
    N X (.Call (.Name "sorted" p) [a] [⟨kn, .Constant (.bool true) jj p2, p3⟩] pos) σ G cs rI (srtR xs) := fun G1 H s d Q q =>
  uE (pe_callBK (ks := [Str.ofString "reverse"]) (cr_sortedRev (b := true)) hg hm hv (sA X [a]) hk (he := he) (hpl := hpl) (hall := hall) (hnone := hnone) (hks := hks)) (a_cons ha a_nil hst G1 H s d _ fun G2 H2 vs s2 d2 hvs => by
    obtain ⟨v, ws, e1, h1, h2⟩ := hvs
    cases h2
    obtain ⟨l, us, e, hl, hr⟩ := h1.sq d2
    subst e
    have hu := rs_int hr
    subst hu
    refine ⟨l, xs, e1, rfl, hl, fun ys l' hp hs hl' => q G2 _ l' _ s2 (d2.newCell hl' _) ?_⟩
    have hs' : ys.Pairwise (· ≥ ·) := hs
    rw [srtR_is hp hs']
    exact Rs.of_map (fun _ => rfl) _)
end

/-! ### comprehensions -/
def Xb (X : Cx) (scope : Scope) (s : Shared) (H : Hp) (C : Addr) (cl : List (Str × Addr)) (fp : List Addr) : Cx := X.blk s H scope (compEnvC scope cl C X.env) fp
section
variable {X : Cx} {σ : L2.St} {G : Hp} {cs : Cells} {elt tg iter : Expr} {ifs : List Expr} {pos : Pos} {scope : Scope} {own : List (Str × Nat)} {α β : Type} {xs : List α} {Pi : α → Hp → V → Prop} {r : β → Hp → V → Prop} {f : α → β} {q : α → Bool}
/-- a target within a comprehension's block -/
def TgB (X : Cx) (scope : Scope) (tg : Expr) (P : α → Hp → V → Prop) (Sx : α → Hp → L2.St → L2.St → Prop) : Prop :=
  ∃ g, (∀ s H C cl fp, PG (X.blk s H scope (compEnvC scope cl C X.env) fp) tg g) ∧ ∀ x v G cs H σ, P x G v → Desc G cs H → ∀ Q : L2.St → Hp → Prop, (∀ σ', Sx x G σ σ' → Q σ' H) → g v σ H Q
theorem tgb_name (i : Nat) {x : Str} (hN : X.N.Nodup) (hi : X.N[i]? = some x := by rfl) (hx : scope.names.lookup x = some .local := by rfl) : TgB X scope (.Name x pos) Pi (sxN i Pi) :=
  ⟨_, fun s H C cl fp => by
    have k : (X.blk s H scope (compEnvC scope cl C X.env) fp).env.scope.names.lookup x = some .local := by
      first
      | exact lookup_relabel_local hx
      | (show (relabel scope X.env).names.lookup x = some .local
         unfold relabel
         exact lookup_relabel_local hx)
    exact pg_name (X := X.blk s H scope (compEnvC scope cl C X.env) fp) hN hi (.inl k) (.inr k), fun x v G cs H σ h d Q q => q _ ⟨v, h, rfl⟩⟩
/-- [elt for tg in iter if ..]: f of the items that q lets through -/
theorem lc_go {wi : TI} {g : TG} {tt : TT} {te : TE} {Sx : α → Hp → L2.St → L2.St → Prop} {C : Cells → Prop} {vs : List Nat} {H : Hp}
    (hw : ∀ Rr : It → Hp → Prop, (∀ J G2 H2, Same G G2 → Desc G2 cs H2 → WalkD J xs G2 C Pi → Rr J H2) → wi σ H Rr) (hg : ∀ x v G cs H σ, Pi x G v → Desc G cs H → ∀ Q : L2.St → Hp → Prop, (∀ σ', Sx x G σ σ' → Q σ' H) → g v σ H Q)
    (hC : ∀ l us, C ((l, .lst us) :: cs)) (hwipe : ∀ x G1 σ', Sx x G1 (wipe σ vs) σ' → wipe σ' vs = wipe σ vs) [∀ y, Mono (r y)]
    (ht : ∀ x, x ∈ xs → ∀ G1 cs1 σ', Same G G1 → (∃ c, cs1 = c :: cs) → Sx x G1 (wipe σ vs) σ' → ∀ G2 H2, Same G1 G2 → Desc G2 cs1 H2 → ∀ Q : Bool → Hp → Prop, (∀ G3 H3, Same G2 G3 → Desc G3 cs1 H3 → Q (q x) H3) → tt σ' H2 Q)
    (he : ∀ x, x ∈ xs → q x = true → ∀ G1 cs1 σ', Same G G1 → (∃ c, cs1 = c :: cs) → Sx x G1 (wipe σ vs) σ' → ∀ G2 H2, Same G1 G2 → Desc G2 cs1 H2 → ∀ Q : VK, (∀ G3 H3 v, Same G2 G3 → Desc G3 cs1 H3 → r (f x) G3 v → Q v H3) → te σ' H2 Q)
    (hsz : xs.length ≤ 16777215) {Q : VK} (hQ : ∀ G2 H2 l us, Same G G2 → Desc G2 ((l, .lst us) :: cs) H2 → Rs r G2 ((xs.filter q).map f) us → Q (.ref l) H2) : tLc wi g tt te vs σ H Q := by
  refine hw _ fun J G2 H2 s2 d2 wk => fun l hl => ?_
  have hlen : ∀ i, ((xs.take i).filter q).length ≤ i := fun i => Nat.le_trans (List.length_filter_le _ _) (by rw [List.length_take]; omega)
  let Pv : Nat → Hp → Prop := fun i H1 => ∃ G1 us, i ≤ xs.length ∧ Same G2 G1 ∧ Desc G1 ((l, .lst us) :: cs) H1 ∧ Rs r G1 (((xs.take i).filter q).map f) us
  refine ⟨fun i n H1 => n = xs.length - i ∧ Pv i H1, ⟨xs.length, rfl, G2, [], Nat.zero_le _, Same.refl _, d2.newCell hl _, .nil⟩, ?_⟩
  rintro i n H1 ⟨rfl, G1, us, hi, s1, d1, hr⟩
  by_cases hlt : i < xs.length
  · refine .inr ⟨wk.goes i G1 H1 _ hlt s1 (hC _ _) d1, Pv (i + 1), fun H' p' => ⟨_, by omega, rfl, p'⟩, fun v H3 y => ?_⟩
    have hx : xs[i]? = some xs[i] := by simp [hlt]
    have hm : xs[i] ∈ xs := List.getElem_mem hlt
    obtain ⟨G3, s3, d3, pv⟩ := wk.yields i xs[i] G1 H1 _ v H3 hx s1 (hC _ _) d1 y
    have et : xs.take (i + 1) = xs.take i ++ [xs[i]] := by simp
    refine hg xs[i] v G3 _ H3 _ pv d3 _ fun σ' hS => ⟨hwipe _ _ _ hS, ?_⟩
    refine ht xs[i] hm G3 _ σ' ((s2.trans s1).trans s3) ⟨_, rfl⟩ hS G3 H3 (Same.refl _) d3 _ fun G4 H4 s4 d4 => ?_
    cases hq : q xs[i] with
    | true =>
      refine iteT (he xs[i] hm hq G3 _ σ' ((s2.trans s1).trans s3) ⟨_, rfl⟩ hS G4 H4 s4 d4 _ fun G5 H5 w s5 d5 hw => ⟨us, d5.at_ List.mem_cons_self, ?_, G5, us ++ [w], hlt, ((s1.trans s3).trans s4).trans s5, d5.write (k := 0) rfl _, ?_⟩)
      · rw [← hr.length, List.length_map]
        have := hlen i
        rw [sizeLine_eq]
        omega
      · rw [et, List.filter_append, List.map_append, List.filter_cons_of_pos hq]
        exact Rs.snoc hw (hr.mono ((s3.trans s4).trans s5))
    | false =>
      refine iteF ⟨G4, us, hlt, (s1.trans s3).trans s4, d4, ?_⟩
      rw [et, List.filter_append, List.filter_cons_of_neg (by rw [hq]; decide), List.filter_nil, List.append_nil]
      exact hr.mono (s3.trans s4)
  · have e : i = xs.length := by omega
    subst e
    rw [List.take_length] at hr
    exact .inl ⟨wk.stops G1 H1 _ s1 (hC _ _) d1, hQ G1 H1 l us (s2.trans s1) d1 hr⟩
def teB (X : Cx) (scope : Scope) (e : Expr) : TE := fun σ H Q => ∀ s H0 C cl fp, wE (X.blk s H0 scope (compEnvC scope cl C X.env) fp) e σ H Q
def ttB (X : Cx) (scope : Scope) (e : Expr) : TT := fun σ H Q => ∀ s H0 C cl fp, wT (X.blk s H0 scope (compEnvC scope cl C X.env) fp) e σ H Q
/-- without a test -/
theorem n_lc {Sx : α → Hp → L2.St → L2.St → Prop} {C : Cells → Prop} (hcalm : X.calm = true) (hN : X.N.Nodup) (ok : BlkOk X.N X.env.scope scope own) (hi : I X tg iter σ G cs C xs Pi) (ht : TgB X scope tg Pi Sx)
    (hC : ∀ l us, C ((l, .lst us) :: cs)) (hwipe : ∀ x G1 σ', Sx x G1 (wipe σ (own.map (·.2))) σ' → wipe σ' (own.map (·.2)) = wipe σ (own.map (·.2))) [∀ y, Mono (r y)]
    (he : ∀ x, x ∈ xs → ∀ G1 cs1 σ', Same G G1 → (∃ c, cs1 = c :: cs) → Sx x G1 (wipe σ (own.map (·.2))) σ' → ∀ s H0 C cl fp, D (X.blk s H0 scope (compEnvC scope cl C X.env) fp) elt σ' G1 cs1 (r (f x)))
    (hsz : xs.length ≤ 16777215) (hs : ∀ x, foldedSetIterable iter X.env x = pure x := by intro _; rfl) : N X (.ListComp elt [⟨tg, iter, [], 0⟩] scope pos) σ G cs r (xs.map f) := by
  obtain ⟨wi, hpi, hw⟩ := hi
  obtain ⟨g, hpg, hgt⟩ := ht
  intro G1 H s d Q q
  refine uE (pe_lc (te := teB X scope elt) hcalm hN hpi ok hpg (fun _ _ _ _ _ => pts_nil) (fun s H0 C cl fp => ⟨fun pins s1 σ H Q I h => (h s H0 C cl fp).run pins s1 I⟩) hs) ?_
  refine lc_go (Sx := Sx) (C := C) (r := r) (f := f) (q := fun _ => true) (hw G1 H s d) hgt hC hwipe (fun x hx G2 cs1 σ' s2 hc hS G3 H3 s3 d3 Q q => q G3 H3 (Same.refl _) d3)
    (fun x hx _ G2 cs1 σ' s2 hc hS G3 H3 s3 d3 Q q s4 H4 C4 cl4 fp4 => he x hx G2 cs1 σ' (s.trans s2) hc hS s4 H4 C4 cl4 fp4 G3 H3 s3 d3 Q q) hsz fun G2 H2 l us s2 d2 hr => q G2 H2 l us s2 d2 ?_
  have e : xs.filter (fun _ => true) = xs := by simp
  rw [e] at hr
  exact hr
/-- with one test -/
theorem n_lcIf {cnd : Expr} {Sx : α → Hp → L2.St → L2.St → Prop} {C : Cells → Prop} (hcalm : X.calm = true) (hN : X.N.Nodup) (ok : BlkOk X.N X.env.scope scope own) (hi : I X tg iter σ G cs C xs Pi) (ht : TgB X scope tg Pi Sx)
    (hC : ∀ l us, C ((l, .lst us) :: cs)) (hwipe : ∀ x G1 σ', Sx x G1 (wipe σ (own.map (·.2))) σ' → wipe σ' (own.map (·.2)) = wipe σ (own.map (·.2))) [∀ y, Mono (r y)]
    (hq : ∀ x, x ∈ xs → ∀ G1 cs1 σ', Same G G1 → (∃ c, cs1 = c :: cs) → Sx x G1 (wipe σ (own.map (·.2))) σ' → ∀ s H0 C cl fp, T (X.blk s H0 scope (compEnvC scope cl C X.env) fp) cnd σ' G1 cs1 (q x))
    (he : ∀ x, x ∈ xs → q x = true → ∀ G1 cs1 σ', Same G G1 → (∃ c, cs1 = c :: cs) → Sx x G1 (wipe σ (own.map (·.2))) σ' → ∀ s H0 C cl fp, D (X.blk s H0 scope (compEnvC scope cl C X.env) fp) elt σ' G1 cs1 (r (f x)))
    (hsz : xs.length ≤ 16777215) (hs : ∀ x, foldedSetIterable iter X.env x = pure x := by intro _; rfl) : N X (.ListComp elt [⟨tg, iter, [cnd], 0⟩] scope pos) σ G cs r ((xs.filter q).map f) := by
  obtain ⟨wi, hpi, hw⟩ := hi
  obtain ⟨g, hpg, hgt⟩ := ht
  intro G1 H s d Q k
  refine uE (pe_lc (te := teB X scope elt) (tt := ttB X scope cnd) hcalm hN hpi ok hpg (fun s H0 C cl fp => pts_one ⟨fun pins s1 σ H Q I h => (h s H0 C cl fp).run pins s1 I⟩) (fun s H0 C cl fp => ⟨fun pins s1 σ H Q I h => (h s H0 C cl fp).run pins s1 I⟩) hs) ?_
  exact lc_go (Sx := Sx) (C := C) (r := r) (f := f) (q := q) (hw G1 H s d) hgt hC hwipe (fun x hx G2 cs1 σ' s2 hc hS G3 H3 s3 d3 Q q s4 H4 C4 cl4 fp4 => hq x hx G2 cs1 σ' (s.trans s2) hc hS s4 H4 C4 cl4 fp4 G3 H3 s3 d3 Q q)
    (fun x hx hx2 G2 cs1 σ' s2 hc hS G3 H3 s3 d3 Q q s4 H4 C4 cl4 fp4 => he x hx hx2 G2 cs1 σ' (s.trans s2) hc hS s4 H4 C4 cl4 fp4 G3 H3 s3 d3 Q q) hsz fun G2 H2 l us s2 d2 hr => k G2 H2 l us s2 d2 hr
end
section
variable {ε S L R : Type} {X : Cx} {W : ε → L2.St → Hp → Prop} {σ : L2.St} {G : Hp} {cs : Cells} {Φ : Po ε S L R} {m : Out ε S L R} {rest : List Stmt} {elt tg iter : Expr} {pos spos : Pos} {scope : Scope} {own : List (Str × Nat)} {α β : Type} {xs : List α} {Pi : α → Hp → V → Prop} {r : β → Hp → V → Prop} {f : α → β} {q : α → Bool}
/-- y = [..], a statement of its own -/
theorem b_setLc (i : Nat) {y : Str} {py : Pos} {Sx : α → Hp → L2.St → L2.St → Prop} {C : Cells → Prop} (hcalm : X.calm = true) (hN : X.N.Nodup) (hyl : X.env.scope.names.lookup y = some .local) (hsw : swapsWith (.ListComp elt [⟨tg, iter, [], 0⟩] scope pos) (some (.Name y py)) spos.line X.env = pure true)
    (ok : BlkOk X.N X.env.scope scope own) (hi : I X tg iter σ G cs C xs Pi) (ht : TgB X scope tg Pi Sx)
    (hC : ∀ l us, C ((l, .lst us) :: cs)) (hwipe : ∀ x G1 σ', Sx x G1 (wipe σ (own.map (·.2))) σ' → wipe σ' (own.map (·.2)) = wipe σ (own.map (·.2))) [∀ y, Mono (r y)]
    (he : ∀ x, x ∈ xs → ∀ G1 cs1 σ', Same G G1 → (∃ c, cs1 = c :: cs) → Sx x G1 (wipe σ (own.map (·.2))) σ' → ∀ s H0 C cl fp, D (X.blk s H0 scope (compEnvC scope cl C X.env) fp) elt σ' G1 cs1 (r (f x)))
    (hsz : xs.length ≤ 16777215) (k : ∀ l vs G1, Same G G1 → Rs r G1 (xs.map f) vs → B X W rest (σ.set i (some (.ref l))) G1 ((l, .lst vs) :: cs) Φ m) (hy : X.N[i]? = some y := by rfl) (hs : ∀ x, foldedSetIterable iter X.env x = pure x := by intro _; rfl) :
    B X W (.Assign [.Name y py] (.ListComp elt [⟨tg, iter, [], 0⟩] scope pos) spos :: rest) σ G cs Φ m := by
  obtain ⟨wi, hpi, hw⟩ := hi
  obtain ⟨g, hpg, hgt⟩ := ht
  refine b_cons (ps_setLc (te := teB X scope elt) hcalm hN hy hyl hsw hpi ok hpg (fun _ _ _ _ _ => pts_nil) (fun s H0 C cl fp => ⟨fun pins s1 σ H Q I h => (h s H0 C cl fp).run pins s1 I⟩) hs) fun H d E w => ?_
  refine lc_go (Sx := Sx) (C := C) (r := r) (f := f) (q := fun _ => true) (hw G H (Same.refl _) d) hgt hC hwipe (fun x hx G2 cs1 σ' s2 hc hS G3 H3 s3 d3 Q q => q G3 H3 (Same.refl _) d3)
    (fun x hx _ G2 cs1 σ' s2 hc hS G3 H3 s3 d3 Q q s4 H4 C4 cl4 fp4 => he x hx G2 cs1 σ' s2 hc hS s4 H4 C4 cl4 fp4 G3 H3 s3 d3 Q q) hsz fun G2 H2 l us s2 d2 hr => k l us G2 s2 ?_ H2 d2 E (w.up s2)
  have e : xs.filter (fun _ => true) = xs := by simp
  rw [e] at hr
  exact hr
theorem b_setLcIf (i : Nat) {y : Str} {py : Pos} {cnd : Expr} {Sx : α → Hp → L2.St → L2.St → Prop} {C : Cells → Prop} (hcalm : X.calm = true) (hN : X.N.Nodup) (hyl : X.env.scope.names.lookup y = some .local) (hsw : swapsWith (.ListComp elt [⟨tg, iter, [cnd], 0⟩] scope pos) (some (.Name y py)) spos.line X.env = pure true)
    (ok : BlkOk X.N X.env.scope scope own) (hi : I X tg iter σ G cs C xs Pi) (ht : TgB X scope tg Pi Sx)
    (hC : ∀ l us, C ((l, .lst us) :: cs)) (hwipe : ∀ x G1 σ', Sx x G1 (wipe σ (own.map (·.2))) σ' → wipe σ' (own.map (·.2)) = wipe σ (own.map (·.2))) [∀ y, Mono (r y)]
    (hq : ∀ x, x ∈ xs → ∀ G1 cs1 σ', Same G G1 → (∃ c, cs1 = c :: cs) → Sx x G1 (wipe σ (own.map (·.2))) σ' → ∀ s H0 C cl fp, T (X.blk s H0 scope (compEnvC scope cl C X.env) fp) cnd σ' G1 cs1 (q x))
    (he : ∀ x, x ∈ xs → q x = true → ∀ G1 cs1 σ', Same G G1 → (∃ c, cs1 = c :: cs) → Sx x G1 (wipe σ (own.map (·.2))) σ' → ∀ s H0 C cl fp, D (X.blk s H0 scope (compEnvC scope cl C X.env) fp) elt σ' G1 cs1 (r (f x)))
    (hsz : xs.length ≤ 16777215) (k : ∀ l vs G1, Same G G1 → Rs r G1 ((xs.filter q).map f) vs → B X W rest (σ.set i (some (.ref l))) G1 ((l, .lst vs) :: cs) Φ m) (hy : X.N[i]? = some y := by rfl) (hs : ∀ x, foldedSetIterable iter X.env x = pure x := by intro _; rfl) :
    B X W (.Assign [.Name y py] (.ListComp elt [⟨tg, iter, [cnd], 0⟩] scope pos) spos :: rest) σ G cs Φ m := by
  obtain ⟨wi, hpi, hw⟩ := hi
  obtain ⟨g, hpg, hgt⟩ := ht
  refine b_cons (ps_setLc (te := teB X scope elt) (tt := ttB X scope cnd) hcalm hN hy hyl hsw hpi ok hpg (fun s H0 C cl fp => pts_one ⟨fun pins s1 σ H Q I h => (h s H0 C cl fp).run pins s1 I⟩) (fun s H0 C cl fp => ⟨fun pins s1 σ H Q I h => (h s H0 C cl fp).run pins s1 I⟩) hs) fun H d E w => ?_
  exact lc_go (Sx := Sx) (C := C) (r := r) (f := f) (q := q) (hw G H (Same.refl _) d) hgt hC hwipe (fun x hx G2 cs1 σ' s2 hc hS G3 H3 s3 d3 Q q s4 H4 C4 cl4 fp4 => hq x hx G2 cs1 σ' s2 hc hS s4 H4 C4 cl4 fp4 G3 H3 s3 d3 Q q)
    (fun x hx hx2 G2 cs1 σ' s2 hc hS G3 H3 s3 d3 Q q s4 H4 C4 cl4 fp4 => he x hx hx2 G2 cs1 σ' s2 hc hS s4 H4 C4 cl4 fp4 G3 H3 s3 d3 Q q) hsz fun G2 H2 l us s2 d2 hr => k l us G2 s2 hr H2 d2 E (w.up s2)
end

/-! ### defs -/
theorem Desc.drop {G H : Hp} {loc cs : Cells} (d : Desc G (loc ++ cs) H) : Desc G cs H := by
  induction loc with
  | nil => exact d
  | cons c loc ih => exact ih d.forget
/-- the promise of a def that raises nothing: i what it is given, pre how it lies, m what it gives, r how that lies -/
def SpP {I O : Type} (pre : I → Hp → List V → Prop) (r : I → O → Hp → V → Prop) (m : I → O) : Sp := fun vs H Q _ => ∃ (i : I) (G : Hp) (cs : Cells), Desc G cs H ∧ pre i G vs ∧ ∀ v G2 H2, Same G G2 → Desc G2 cs H2 → r i (m i) G2 v → Q v H2
/-- .. of one that may raise -/
def SpE {ε I O : Type} (cE : ε → Value) (pre : I → Hp → List V → Prop) (r : I → O → Hp → V → Prop) (m : I → Except ε O) : Sp := fun vs H Q E => ∃ (i : I) (G : Hp) (cs : Cells), Desc G cs H ∧ pre i G vs ∧
  (match m i with
    | .ok o => ∀ v G2 H2, Same G G2 → Desc G2 cs H2 → r i o G2 v → Q v H2
    | .error k => ∀ G2 H2, Same G G2 → Desc G2 cs H2 → E (cE k) none H2)
structure Fn0 (P : Program) (w : World) (K : PySem.W.Frag) (mg : Str → Option Value) (base : Heap) (CX : CXT) (k : Nat) (x : Str) (n : Nat) (sp : Sp) : Prop where
  ex : ∃ (f : Addr) (fd : FuncData) (ps : List Str), FnOk P w K mg base CX k f fd ps sp ∧ mg x = some (.ref f) ∧ PySem.W.keepIn K (.ref f) = true ∧ Binds K fd ps [] ∧ ps.length = n
/-- what is wanted at a def's end -/
def PoF {ε O : Type} [Inhabited O] (cs : Cells) (r : O → Hp → V → Prop) : Po ε Unit Empty O :=
  { nx := fun _ _ G2 cs2 => (∃ loc, cs2 = loc ++ cs) ∧ r default G2 .non, lp := fun l => l.elim, rt := fun o G2 cs2 v => (∃ loc, cs2 = loc ++ cs) ∧ r o G2 v, er := fun _ _ _ cs2 => ∃ loc, cs2 = loc ++ cs }
section
variable {P : Program} {w : World} {K : PySem.W.Frag} {mg : Str → Option Value} {base : Heap}
theorem fn_ok {I O : Type} [Inhabited O] {x : Str} {st : Stmt} {f : Addr} {fd : FuncData} {N ps : List Str} {k : Nat} {pre : I → Hp → List V → Prop} {r : I → O → Hp → V → Prop} (F : Fun K x x st f fd) (S : FnScope N ps (defScope st))
    (body : I → Out Empty Unit Empty O) (len : ∀ i G vs, pre i G vs → vs.length = ps.length)
    (h : ∀ (cdv : Value) (A : Around) (outer : List Env) (s : Shared) (H : Hp) (E : XK) (i : I) (G : Hp) (cs : Cells) (vs : List V), Room k (A.deeper (envOfC x (defScope st) s.heap.objs.size f cdv)) → pre i G vs →
      B (cxOf CX0 P w K mg base N x (defScope st) f cdv A outer s H E).nox (fun e _ _ => e.elim) (defBody st) (start N vs) G cs (PoF cs (r i)) (body i)) :
    FnOk P w K mg base CX0 (k + 1) f fd ps (SpP pre r fun i => (body i).val) := by
  refine F.ok S (fun vs H Q E hs => ?_) (fun cdv A outer s H vs Q E hr hs => ?_)
  · obtain ⟨i, G, cs, _, hp, _⟩ := hs
    exact len i G vs hp
  · obtain ⟨i, G, cs, d, hp, q⟩ := hs
    refine ⟨_, sSs _ (defBody st), h cdv A outer s H E i G cs vs hr hp H d _ ?_⟩
    cases hb : body i with
    | nx u =>
      rintro σ2 G2 cs2 H2 s2 d2 ⟨⟨loc, rfl⟩, hr2⟩
      refine q _ G2 H2 s2 d2.drop ?_
      dsimp only
      rw [hb]
      exact hr2
    | bk l => exact l.elim
    | ct l => exact l.elim
    | rt o =>
      rintro v G2 cs2 H2 s2 d2 ⟨⟨loc, rfl⟩, hr2⟩
      refine q _ G2 H2 s2 d2.drop ?_
      dsimp only
      rw [hb]
      exact hr2
    | er e => exact e.elim
theorem fn_mk {I O : Type} [Inhabited O] {x : Str} {st : Stmt} {f : Addr} {fd : FuncData} {N ps : List Str} {k : Nat} {pre : I → Hp → List V → Prop} {r : I → O → Hp → V → Prop} (F : Fun K x x st f fd) (S : FnScope N ps (defScope st)) (b : Binds K fd ps []) (hmg : mg x = some (.ref f))
    (body : I → Out Empty Unit Empty O) (len : ∀ i G vs, pre i G vs → vs.length = ps.length)
    (h : ∀ (cdv : Value) (A : Around) (outer : List Env) (s : Shared) (H : Hp) (E : XK) (i : I) (G : Hp) (cs : Cells) (vs : List V), Room k (A.deeper (envOfC x (defScope st) s.heap.objs.size f cdv)) → pre i G vs →
      B (cxOf CX0 P w K mg base N x (defScope st) f cdv A outer s H E).nox (fun e _ _ => e.elim) (defBody st) (start N vs) G cs (PoF cs (r i)) (body i)) :
    Fn0 P w K mg base CX0 (k + 1) x ps.length (SpP pre r fun i => (body i).val) :=
  ⟨f, fd, ps, fn_ok F S body len h, hmg, F.kp, b, rfl⟩
theorem fn_okE {ε I O : Type} [Inhabited O] {cE : ε → Value} {x : Str} {st : Stmt} {f : Addr} {fd : FuncData} {N ps : List Str} {k : Nat} {pre : I → Hp → List V → Prop} {r : I → O → Hp → V → Prop} (F : Fun K x x st f fd) (S : FnScope N ps (defScope st))
    (body : I → Out ε Unit Empty O) (len : ∀ i G vs, pre i G vs → vs.length = ps.length)
    (h : ∀ (cdv : Value) (A : Around) (outer : List Env) (s : Shared) (H : Hp) (E : XK) (i : I) (G : Hp) (cs : Cells) (vs : List V), Room k (A.deeper (envOfC x (defScope st) s.heap.objs.size f cdv)) → pre i G vs →
      B (cxOf (L2.CX P w) P w K mg base N x (defScope st) f cdv A outer s H E) (fun e _ H => E (cE e) none H) (defBody st) (start N vs) G cs (PoF cs (r i)) (body i)) :
    FnOk P w K mg base (L2.CX P w) (k + 1) f fd ps (SpE cE pre r fun i => (body i).res) := by
  refine F.okX S (fun vs H Q E hs => ?_) (fun cdv A outer s H vs Q E hr hs => ?_)
  · obtain ⟨i, G, cs, _, hp, _⟩ := hs
    exact len i G vs hp
  · obtain ⟨i, G, cs, d, hp, q⟩ := hs
    refine ⟨_, sSs _ (defBody st), h cdv A outer s H E i G cs vs hr hp H d _ ?_⟩
    cases hb : body i with
    | nx u =>
      dsimp only at q
      rw [hb] at q
      rintro σ2 G2 cs2 H2 s2 d2 ⟨⟨loc, rfl⟩, hr2⟩
      exact q _ G2 H2 s2 d2.drop hr2
    | bk l => exact l.elim
    | ct l => exact l.elim
    | rt o =>
      dsimp only at q
      rw [hb] at q
      rintro v G2 cs2 H2 s2 d2 ⟨⟨loc, rfl⟩, hr2⟩
      exact q _ G2 H2 s2 d2.drop hr2
    | er e =>
      dsimp only at q
      rw [hb] at q
      rintro σ2 G2 cs2 H2 s2 d2 ⟨loc, rfl⟩
      exact q G2 H2 s2 d2.drop
theorem fn_mkE {ε I O : Type} [Inhabited O] {cE : ε → Value} {x : Str} {st : Stmt} {f : Addr} {fd : FuncData} {N ps : List Str} {k : Nat} {pre : I → Hp → List V → Prop} {r : I → O → Hp → V → Prop} (F : Fun K x x st f fd) (S : FnScope N ps (defScope st)) (b : Binds K fd ps []) (hmg : mg x = some (.ref f))
    (body : I → Out ε Unit Empty O) (len : ∀ i G vs, pre i G vs → vs.length = ps.length)
    (h : ∀ (cdv : Value) (A : Around) (outer : List Env) (s : Shared) (H : Hp) (E : XK) (i : I) (G : Hp) (cs : Cells) (vs : List V), Room k (A.deeper (envOfC x (defScope st) s.heap.objs.size f cdv)) → pre i G vs →
      B (cxOf (L2.CX P w) P w K mg base N x (defScope st) f cdv A outer s H E) (fun e _ H => E (cE e) none H) (defBody st) (start N vs) G cs (PoF cs (r i)) (body i)) :
    Fn0 P w K mg base (L2.CX P w) (k + 1) x ps.length (SpE cE pre r fun i => (body i).res) :=
  ⟨f, fd, ps, fn_okE F S body len h, hmg, F.kp, b, rfl⟩
end
section
variable {X : Cx} {σ : L2.St} {G : Hp} {cs : Cells} {e : Expr} {es : List Expr} {pos p : Pos}
/-- a call of a def that raises nothing -/
theorem d_call {I O : Type} {pre : I → Hp → List V → Prop} {r : I → O → Hp → V → Prop} {m : I → O} {k j n : Nat} {x : Str} {Ps : Hp → List V → Prop} (i : I) (F : Fn0 X.prog X.w X.K X.mg X.base CX0 k x n (SpP pre r m)) (hr : Room j X.A) (hk : k ≤ j)
    (ha : A X (e :: es) σ G cs Ps) (hp : ∀ G1 vs, Same G G1 → Ps G1 vs → pre i G1 vs) (hg : Gl X x := by rfl) (hd : (x == ("__debug__" : Str)) = false := by decide)
    (he : starEach (e :: es) X.env = (false, eval e X.env) :: starEach es X.env := by exact star_plain rfl) (hpl : (backTo pos (starEach es X.env)).any (·.1) = false := by rfl) : D X (.Call (.Name x p) (e :: es) [] pos) σ G cs (r i (m i)) := by
  obtain ⟨f, fd, ps, F, hm, kp, b, _⟩ := F.ex
  refine d_by (pe_call F (hr.mono hk) hg hm kp b .nil pass0 (sA X _) (hdb := hd) (he := he) (hpl := hpl)) fun G1 H s d Q q => ha G1 H s d _ fun G2 H2 vs s2 d2 hvs => ?_
  refine ⟨i, G2, cs, d2, ?_, fun v G3 H3 s3 d3 hv => q G3 H3 v (s2.trans s3) d3 hv⟩
  rw [List.append_nil]
  exact hp G2 vs (s.trans s2) hvs
theorem d_callQ {I O : Type} {pre : I → Hp → List V → Prop} {r : I → O → Hp → V → Prop} {m : I → O} {k j n : Nat} {x : Str} {Ps : Hp → List V → Prop} {P : Hp → V → Prop} (i : I) (F : Fn0 X.prog X.w X.K X.mg X.base CX0 k x n (SpP pre r m)) (hr : Room j X.A) (hk : k ≤ j)
    (ha : A X (e :: es) σ G cs Ps) (hp : ∀ G1 vs, Same G G1 → Ps G1 vs → pre i G1 vs) (hP : ∀ G v, r i (m i) G v → P G v) (hg : Gl X x := by rfl) (hd : (x == ("__debug__" : Str)) = false := by decide)
    (he : starEach (e :: es) X.env = (false, eval e X.env) :: starEach es X.env := by exact star_plain rfl) (hpl : (backTo pos (starEach es X.env)).any (·.1) = false := by rfl) : D X (.Call (.Name x p) (e :: es) [] pos) σ G cs P :=
  (d_call i F hr hk ha hp hg hd he hpl).imp hP
end
end J

namespace J
open PySem L2 PyProof.Rows
section
variable {X : Cx}
/-- two readable lists end to end -/
def rCatW (K : PySem.W.Frag) : R2 := fun x y H Q => ∃ l b xs zs, x = .ref l ∧ y = .ref b ∧ SqL K H l xs ∧ SqL K H b zs ∧ xs.length + zs.length ≤ sizeLine ∧ ∀ p, H p = none → Q (.ref p) (upd H p (.lst (xs ++ zs)))
theorem op_catW : OpR X (binaryOp .Add) (rCatW X.K) := by
  intro pins s σ H x y v u Q I rx ry h
  obtain ⟨l, b, xs, zs, rfl, rfl, hH, hB, hz, q⟩ := h
  cases rx
  cases ry
  obtain ⟨its, r, p1, _⟩ := I.list hH
  obtain ⟨its2, r2, p2, _⟩ := I.list hB
  have e1 := r.length
  have e2 := r2.length
  obtain ⟨⟨c1, d1, da1, sl1⟩, n1, g1, h1, _, k1⟩ := p1
  obtain ⟨⟨c2, d2, da2, sl2⟩, n2, g2, h2, _, k2⟩ := p2
  dsimp only at h1 k1 h2 k2
  subst h1 k1 h2 k2
  have hsz : its.toArray.size + its2.toArray.size ≤ sizeLine := by
    rw [List.size_toArray, List.size_toArray]
    omega
  have ea : its.toArray ++ its2.toArray = (its ++ its2).toArray := by simp
  refine concat_meets ⟨_, g1, rfl⟩ ⟨_, g2, rfl⟩ noFill_list_add seq_list_add PySem.F.slot_list_add PySem.F.entry_list_add (PySem.F.args_list_add_2 _ _)
    (list_addW l b its.toArray its2.toArray n1 n2 d1 d2 sl1 sl2 hsz) ⟨g1, g2, ?_⟩
  rw [ea]
  refine ⟨.ref s.heap.objs.size, _, I.lnew (t' := s.toks) (r.append r2) ?_, rfl, q _ I.fresh⟩
  rw [List.length_append]
  exact hz
end
section
variable {X : Cx} {σ : L2.St} {G : Hp} {cs : Cells} {a b : Expr} {pos : Pos} {α : Type} {r : α → Hp → V → Prop} {xs ys : List α}
theorem n_cat [∀ x, Mono (r x)] (ha : D X a σ G cs (rdL X.K cs r xs)) (hb : D X b σ G cs (rdL X.K cs r ys)) (hl : xs.length + ys.length ≤ sizeLine) : N X (.BinOp a .Add b pos) σ G cs r (xs ++ ys) := fun G1 H s d Q q =>
  uE (pe_op op_catW (sE X a) (sE X b)) (ha G1 H s d _ fun G2 H2 x s2 d2 hx => hb G2 H2 (s.trans s2) d2 _ fun G3 H3 y s3 d3 hy => by
    obtain ⟨l, vs, e, h1, h2⟩ := (Mono.mono s3 hx).sq d3
    obtain ⟨l', vs', e', h1', h2'⟩ := hy.sq d3
    exact ⟨l, l', vs, vs', e, e', h1, h1', by rw [← h2.length, ← h2'.length]; exact hl, fun p hp => q G3 _ p _ (s2.trans s3) (d3.newCell hp _) (Rs.append h2' h2)⟩)
end

/-! ### == of data -/
class EqR {α : Type} (K : PySem.W.Frag) (r : α → Hp → V → Prop) where
  toD : α → PyData
  ok : α → Prop
  dep : Nat
  dp : ∀ {x G H v}, r x G v → Same G H → Dp K H v (toD x)
  lay : ∀ {x}, ok x → (toD x).canLay0 = true
  deep : ∀ x, (toD x).depth ≤ dep
  eqv : ∀ x y, PyData.eqv (toD x) (toD y) = true ↔ x = y
instance (K : PySem.W.Frag) : EqR K rI where
  toD := .int
  ok _ := True
  dep := 1
  dp h _ := by cases h; exact .int _
  lay _ := rfl
  deep x := by unfold PyData.depth; omega
  eqv x y := by
    unfold PyData.eqv
    exact beq_iff_eq
instance (K : PySem.W.Frag) : EqR K rB where
  toD := .bool
  ok _ := True
  dep := 1
  dp h _ := by cases h; exact .bl _
  lay _ := rfl
  deep x := by unfold PyData.depth; omega
  eqv x y := by
    unfold PyData.eqv
    exact beq_iff_eq
instance (K : PySem.W.Frag) : EqR K rS where
  toD l := .str (SX.S l)
  ok l := ∀ c ∈ l, c < 1114112
  dep := 1
  dp h _ := by cases h; exact .str _
  lay {x} h := by
    unfold PyData.canLay0 PySem.PyData.strOk
    show (SX.S x).cps.all _ = true
    rw [← Array.all_toList]
    exact List.all_eq_true.mpr fun c hc => decide_eq_true (h c hc)
  deep x := by unfold PyData.depth; omega
  eqv x y := by
    unfold PyData.eqv
    rw [SX.S_beq]
    exact beq_iff_eq
theorem dpAll {K : PySem.W.Frag} {α : Type} {r : α → Hp → V → Prop} [q : EqR K r] {G H : Hp} (s : Same G H) : ∀ {xs : List α} {vs : List V}, Rs r G xs vs → DpAll K H vs (xs.map q.toD)
  | _, _, .nil => .nil
  | _, _, .cons h t => .cons (q.dp h s) (dpAll s t)
theorem layAll {K : PySem.W.Frag} {α : Type} {r : α → Hp → V → Prop} [q : EqR K r] : ∀ {xs : List α}, (∀ x ∈ xs, q.ok x) → PyData.canLayAll0 (xs.map q.toD) = true
  | [], _ => by rw [List.map_nil]; unfold PyData.canLayAll0; rfl
  | x :: xs, h => by
    rw [List.map_cons]
    unfold PyData.canLayAll0
    rw [Bool.and_eq_true]
    exact ⟨q.lay (h x List.mem_cons_self), layAll fun y hy => h y (List.mem_cons_of_mem _ hy)⟩
theorem deepAll {K : PySem.W.Frag} {α : Type} {r : α → Hp → V → Prop} [q : EqR K r] : ∀ (xs : List α), PyData.depthAll (xs.map q.toD) ≤ q.dep
  | [] => by rw [List.map_nil]; unfold PyData.depthAll; omega
  | x :: xs => by
    rw [List.map_cons]
    unfold PyData.depthAll
    exact Nat.max_le.mpr ⟨q.deep x, deepAll xs⟩
theorem eqvAll {K : PySem.W.Frag} {α : Type} {r : α → Hp → V → Prop} [q : EqR K r] : ∀ (xs ys : List α), PyData.eqvAll (xs.map q.toD) (ys.map q.toD) = true ↔ xs = ys
  | [], [] => by rw [List.map_nil]; unfold PyData.eqvAll; simp
  | [], y :: ys => by rw [List.map_nil, List.map_cons]; unfold PyData.eqvAll; simp
  | x :: xs, [] => by rw [List.map_nil, List.map_cons]; unfold PyData.eqvAll; simp
  | x :: xs, y :: ys => by
    rw [List.map_cons, List.map_cons]
    unfold PyData.eqvAll
    rw [Bool.and_eq_true, q.eqv, eqvAll xs ys]
    simp
instance (K : PySem.W.Frag) {α : Type} (r : α → Hp → V → Prop) [q : EqR K r] : EqR K (rL K r) where
  toD xs := .list (xs.map q.toD)
  ok xs := ∀ x ∈ xs, q.ok x
  dep := q.dep + 1
  dp h s := by
    obtain ⟨a, vs, rfl, h1, h2⟩ := h
    exact .lst (s.seq h1) (dpAll s h2)
  lay h := by
    unfold PyData.canLay0
    exact layAll h
  deep xs := by
    unfold PyData.depth
    have := deepAll (K := K) (r := r) xs
    omega
  eqv xs ys := by
    unfold PyData.eqv
    rw [eqvAll]
/-- the places of a tuple as data -/
class EqT {α : Type} (K : PySem.W.Frag) (r : α → Hp → List V → Prop) where
  toD : α → List PyData
  ok : α → Prop
  dep : Nat
  dp : ∀ {x G H vs}, r x G vs → Same G H → DpAll K H vs (toD x)
  lay : ∀ {x}, ok x → PyData.canLayAll0 (toD x) = true
  deep : ∀ x, PyData.depthAll (toD x) ≤ dep
  eqv : ∀ x y, PyData.eqvAll (toD x) (toD y) = true ↔ x = y
instance (K : PySem.W.Frag) {α : Type} (r : α → Hp → V → Prop) [q : EqR K r] : EqT K (c0 r) where
  toD x := [q.toD x]
  ok x := q.ok x
  dep := q.dep
  dp h s := by
    obtain ⟨v, rfl, h1⟩ := h
    exact .cons (q.dp h1 s) .nil
  lay h := by
    unfold PyData.canLayAll0
    rw [q.lay h]
    rfl
  deep x := by
    unfold PyData.depthAll
    exact Nat.max_le.mpr ⟨q.deep x, by unfold PyData.depthAll; omega⟩
  eqv x y := by
    unfold PyData.eqvAll
    rw [Bool.and_eq_true, q.eqv]
    exact ⟨fun h => h.1, fun h => ⟨h, by unfold PyData.eqvAll; rfl⟩⟩
instance (K : PySem.W.Frag) {α β : Type} (r : α → Hp → V → Prop) (r' : β → Hp → List V → Prop) [q : EqR K r] [q' : EqT K r'] : EqT K (cc r r') where
  toD x := q.toD x.1 :: q'.toD x.2
  ok x := q.ok x.1 ∧ q'.ok x.2
  dep := max q.dep q'.dep
  dp h s := by
    obtain ⟨v, ws, rfl, h1, h2⟩ := h
    exact .cons (q.dp h1 s) (q'.dp h2 s)
  lay h := by
    unfold PyData.canLayAll0
    rw [q.lay h.1, q'.lay h.2]
    rfl
  deep x := by
    unfold PyData.depthAll
    have h1 := q.deep x.1
    have h2 := q'.deep x.2
    exact Nat.max_le.mpr ⟨Nat.le_trans h1 (Nat.le_max_left _ _), Nat.le_trans h2 (Nat.le_max_right _ _)⟩
  eqv x y := by
    unfold PyData.eqvAll
    rw [Bool.and_eq_true, q.eqv, q'.eqv]
    exact ⟨fun h => Prod.ext h.1 h.2, fun h => by rw [h]; exact ⟨rfl, rfl⟩⟩
instance (K : PySem.W.Frag) {α : Type} (r : α → Hp → List V → Prop) [q : EqT K r] : EqR K (rT K r) where
  toD x := .tuple (q.toD x)
  ok x := q.ok x
  dep := q.dep + 1
  dp h s := by
    obtain ⟨a, vs, rfl, h1, h2⟩ := h
    exact .tup (seqT s h1) (q.dp h2 s)
  lay h := by
    unfold PyData.canLay0
    exact q.lay h
  deep x := by
    unfold PyData.depth
    have := q.deep x
    omega
  eqv x y := by
    unfold PyData.eqv
    rw [q.eqv]
section
variable {X : Cx} {σ : L2.St} {G : Hp} {cs : Cells} {a b : Expr} {pos : Pos} {α : Type} {r : α → Hp → V → Prop} {x y : α}
theorem shp {K : PySem.W.Frag} [q : EqR K r] (h : q.ok x) (hd : q.dep ≤ 64) : SeqAt.shaped (q.toD x) = true := by
  unfold SeqAt.shaped
  rw [q.lay h, decide_eq_true (Nat.le_trans (q.deep x) hd)]
  rfl
theorem eqv_dec {K : PySem.W.Frag} [q : EqR K r] [DecidableEq α] : PyData.eqv (q.toD x) (q.toD y) = decide (x = y) := by
  by_cases h : x = y
  · rw [decide_eq_true h, (q.eqv x y).mpr h]
  · rw [decide_eq_false h]
    cases e : PyData.eqv (q.toD x) (q.toD y) with
    | false => rfl
    | true => exact absurd ((q.eqv x y).mp e) h
variable [DecidableEq α] [∀ z, Mono (r z)] {k : Nat}
theorem d_eqD {K : PySem.W.Frag} [q : EqR K r] (hr : Room k X.A) (ha : D X a σ G cs (r x)) (hb : D X b σ G cs (r y)) (hx : q.ok x) (hy : q.ok y) (hd : q.dep ≤ 64 := by exact Nat.le_of_ble_eq_true rfl) (hK : X.K = K := by rfl) : D X (.Compare a [.Eq] [b] pos) σ G cs (rB (decide (x = y))) := by
  subst hK
  exact d_cmp (op_eqD (Nat.lt_of_le_of_lt (by omega) hr.un)) (nomark _) ha hb fun G1 H u v s d hu hv Q qq => ⟨_, _, q.dp hu d.same, q.dp hv d.same, shp hx hd, shp hy hd, by rw [eqv_dec]; exact qq⟩
theorem t_eqD {K : PySem.W.Frag} [q : EqR K r] (hr : Room k X.A) (ha : D X a σ G cs (r x)) (hb : D X b σ G cs (r y)) (hx : q.ok x) (hy : q.ok y) (hd : q.dep ≤ 64 := by exact Nat.le_of_ble_eq_true rfl) (hK : X.K = K := by rfl) : T X (.Compare a [.Eq] [b] pos) σ G cs (decide (x = y)) := by
  subst hK
  exact t_cmp (op_eqD (Nat.lt_of_le_of_lt (by omega) hr.un)) (nomark _) ha hb fun G1 H u v s d hu hv Q qq => ⟨_, _, q.dp hu d.same, q.dp hv d.same, shp hx hd, shp hy hd, by rw [eqv_dec]; exact qq⟩
theorem d_neD {K : PySem.W.Frag} [q : EqR K r] (hr : Room k X.A) (ha : D X a σ G cs (r x)) (hb : D X b σ G cs (r y)) (hx : q.ok x) (hy : q.ok y) (hd : q.dep ≤ 64 := by exact Nat.le_of_ble_eq_true rfl) (hK : X.K = K := by rfl) : D X (.Compare a [.NotEq] [b] pos) σ G cs (rB (!decide (x = y))) := by
  subst hK
  exact d_cmp (op_neD (Nat.lt_of_le_of_lt (by omega) hr.un)) (nomark _) ha hb fun G1 H u v s d hu hv Q qq => ⟨_, _, q.dp hu d.same, q.dp hv d.same, shp hx hd, shp hy hd, by rw [eqv_dec]; exact qq⟩
theorem t_neD {K : PySem.W.Frag} [q : EqR K r] (hr : Room k X.A) (ha : D X a σ G cs (r x)) (hb : D X b σ G cs (r y)) (hx : q.ok x) (hy : q.ok y) (hd : q.dep ≤ 64 := by exact Nat.le_of_ble_eq_true rfl) (hK : X.K = K := by rfl) : T X (.Compare a [.NotEq] [b] pos) σ G cs (!decide (x = y)) := by
  subst hK
  exact t_cmp (op_neD (Nat.lt_of_le_of_lt (by omega) hr.un)) (nomark _) ha hb fun G1 H u v s d hu hv Q qq => ⟨_, _, q.dp hu d.same, q.dp hv d.same, shp hx hd, shp hy hd, by rw [eqv_dec]; exact qq⟩
end
/-! ### places, by the whole numbers that name them -/
def ixg {α : Type} [Inhabited α] (xs : List α) (i : Int) : α := (atI xs i).getD default
theorem atI_ixg {α : Type} [Inhabited α] {xs : List α} {i : Int} (h : -(xs.length : Int) ≤ i ∧ i < (xs.length : Int)) : atI xs i = some (ixg xs i) := by
  unfold ixg
  have : ∃ x, atI xs i = some x := by
    by_cases h0 : 0 ≤ i
    · exact ⟨_, atI_lt h0 h.2⟩
    · have e : i = -((-i).toNat : Int) := by omega
      rw [e]
      exact ⟨_, atI_neg (by omega) (by omega)⟩
  obtain ⟨x, e⟩ := this
  rw [e]
  rfl
theorem ixg_nat {α : Type} [Inhabited α] {xs : List α} {i : Int} (h0 : 0 ≤ i) (h1 : i < (xs.length : Int)) : ixg xs i = xs.getD i.toNat default := by
  unfold ixg
  rw [atI_lt h0 h1]
  rfl
theorem ixg_mem {α : Type} [Inhabited α] {xs : List α} {i : Int} (h0 : 0 ≤ i) (h1 : i < (xs.length : Int)) : ixg xs i ∈ xs := by
  rw [ixg_nat h0 h1]
  have h : i.toNat < xs.length := by omega
  have e : xs.getD i.toNat default = xs[i.toNat] := by simp [h]
  rw [e]
  exact List.getElem_mem h
end J

namespace J
open PySem L2 PyProof.Rows
section
variable {ε S L R : Type} {X : Cx} {W : ε → L2.St → Hp → Prop} {σ : L2.St} {G : Hp} {cs : Cells} {Φ : Po ε S L R} {m : Out ε S L R} {sts rest : List Stmt} {e tg : Expr} {P : Hp → V → Prop} {pos p : Pos}
theorem letV_intro {α : Type} {y : α} {f : α → Out ε S L R} (h : ∀ z, z = y → B X W sts σ G cs Φ (f z)) : B X W sts σ G cs Φ (letV y f) := h y rfl
theorem b_augAddV (i : Nat) {x : Str} {p' : Pos} {z y : Int} {f : Int → Out ε S L R} (hN : X.N.Nodup) (hz : σ[i]? = some (some (.int z))) (he : D X e σ G cs (rI y)) (k : ∀ u, u = z + y → ∀ G1, Same G G1 → B X W rest (σ.set i (some (.int u))) G1 cs Φ (f u)) (hi : X.N[i]? = some x := by rfl) (hx : Loc X.env.scope x := by first | exact Or.inl rfl | exact Or.inr rfl)
    (hf : X.fn x = true ∨ X.env.scope.names.lookup x = some .local := by first | exact .inl rfl | exact .inr rfl) : B X W (.AugAssign (.Name x p') .Add e pos :: rest) σ G cs Φ (letV (z + y) f) :=
  b_augAdd i hN hz he (fun G1 s1 => k _ rfl G1 s1) hi hx hf
theorem b_augSubV (i : Nat) {x : Str} {p' : Pos} {z y : Int} {f : Int → Out ε S L R} (hN : X.N.Nodup) (hz : σ[i]? = some (some (.int z))) (he : D X e σ G cs (rI y)) (k : ∀ u, u = z - y → ∀ G1, Same G G1 → B X W rest (σ.set i (some (.int u))) G1 cs Φ (f u)) (hi : X.N[i]? = some x := by rfl) (hx : Loc X.env.scope x := by first | exact Or.inl rfl | exact Or.inr rfl)
    (hf : X.fn x = true ∨ X.env.scope.names.lookup x = some .local := by first | exact .inl rfl | exact .inr rfl) : B X W (.AugAssign (.Name x p') .Sub e pos :: rest) σ G cs Φ (letV (z - y) f) :=
  b_augSub i hN hz he (fun G1 s1 => k _ rfl G1 s1) hi hx hf
theorem b_asgV {α : Type} {r : α → Hp → V → Prop} {y : α} {f : α → Out ε S L R} {Sx : α → Hp → L2.St → L2.St → Prop} (he : D X e σ G cs (r y)) (ht : Tg X tg r Sx) (k : ∀ z, z = y → ∀ σ' G1, Same G G1 → Sx z G1 σ σ' → B X W rest σ' G1 cs Φ (f z))
    (hs : swapsWithSole [tg] e pos.line X.env = pure false := by rfl) (hw : swappedStores [tg] e X.env = pure none := by rfl) (h1 : (assignEach [tg] X.env).map (·.2) = [assign tg X.env] := by rfl) : B X W (.Assign [tg] e pos :: rest) σ G cs Φ (letV y f) :=
  b_asg he ht (fun σ' G1 s1 h => k y rfl σ' G1 s1 h) hs hw h1
end
theorem wipe1 {σ : L2.St} {i : Nat} {x : Option V} : wipe ((wipe σ [i]).set i x) [i] = wipe σ [i] := by
  show (((σ.set i none).set i x).set i none) = σ.set i none
  rw [List.set_set, List.set_set]
theorem divS {i j : Int} (h : 0 < j) (hb : j < 2 ^ 62) : CDivW i j := wide_div (b := 62) h (by omega) (by decide) (by decide)
theorem pk_true {X : Cx} {kn : Option Str} {jj : Nat} {p2 p3 : Pos} : PK X [⟨kn, .Constant (.bool true) jj p2, p3⟩] (fun _ H Q => Q [.bl true] H) := pk_cons pe_bl pk_nil
end J
namespace J
theorem enum_mem {α : Type} {xs : List α} {p : Int × α} (h : p ∈ enumL xs) : p.2 ∈ xs := by
  obtain ⟨i, hi⟩ := List.getElem?_of_mem h
  exact List.mem_of_getElem? (enumL_getE hi).2
theorem enum_bd {α : Type} {xs : List α} {p : Int × α} (h : p ∈ enumL xs) : 0 ≤ p.1 ∧ p.1 < (xs.length : Int) := by
  obtain ⟨i, hi⟩ := List.getElem?_of_mem h
  obtain ⟨e1, e2⟩ := enumL_getE hi
  have := (List.getElem?_eq_some_iff.mp e2).1
  omega
end J
namespace J
theorem ix_mod {a : Int} {n : Nat} (h : 0 < n) : -(n : Int) ≤ a % (n : Int) ∧ a % (n : Int) < (n : Int) := by
  have h1 := Int.emod_nonneg a (show (n : Int) ≠ 0 by omega)
  have h2 := Int.emod_lt_of_pos a (show (0 : Int) < n by omega)
  omega
/-- a loop that always goes on is a fold -/
theorem forL_fold {ε S L R α : Type} {f : S → α → Out ε S S R} {g : S → α → S} : ∀ {xs : List α} {s : S}, (∀ s x, x ∈ xs → f s x = .nx (g s x)) → (forL f s xs : Out ε S L R) = .nx (xs.foldl g s)
  | [], _, _ => rfl
  | x :: xs, s, h => by
    rw [forL_cons, h s x List.mem_cons_self]
    exact forL_fold fun s y hy => h s y (List.mem_cons_of_mem _ hy)
/-- an invariant of a loop that always goes on -/
theorem forL_inv {ε S L R α : Type} {f : S → α → Out ε S S R} (P : Nat → S → Prop) : ∀ {xs : List α} {s : S} {n : Nat}, P n s → (∀ n s x, x ∈ xs → P n s → ∃ s', f s x = .nx s' ∧ P (n + 1) s') → ∃ s', (forL f s xs : Out ε S L R) = .nx s' ∧ P (n + xs.length) s'
  | [], s, n, h, _ => ⟨s, rfl, h⟩
  | x :: xs, s, n, h, st => by
    obtain ⟨s1, e1, h1⟩ := st n s x List.mem_cons_self h
    obtain ⟨s2, e2, h2⟩ := forL_inv (L := L) P (xs := xs) h1 fun n s y hy => st n s y (List.mem_cons_of_mem _ hy)
    refine ⟨s2, ?_, ?_⟩
    · rw [forL_cons, e1]
      exact e2
    · rw [List.length_cons, show n + (xs.length + 1) = n + 1 + xs.length by omega]
      exact h2
/-- .. by the item -/
theorem forL_all {ε S L R α : Type} {f : S → α → Out ε S S R} (P : S → Prop) {xs : List α} {s : S} (h : P s) (st : ∀ s x, x ∈ xs → P s → ∃ s', f s x = .nx s' ∧ P s') : ∃ s', (forL f s xs : Out ε S L R) = .nx s' ∧ P s' :=
  forL_inv (fun _ => P) (n := 0) h fun _ s x hx hp => st s x hx hp
end J
namespace J
theorem letV_elim {α β : Type} {y : α} {f : α → β} {m : β} (h : ∀ z, z = y → f z = m) : letV y f = m := h y rfl
theorem ifB {α : Type} {c : Bool} {a b m : α} (hc : c = false) (h : b = m) : (if c = true then a else b) = m := by
  subst hc
  rw [if_neg Bool.false_ne_true]
  exact h
theorem ifT {α : Type} {c : Bool} {a b m : α} (hc : c = true) (h : a = m) : (if c = true then a else b) = m := by
  subst hc
  rw [if_pos rfl]
  exact h
theorem bind_elim {ε S S' L R : Type} {m : Out ε S L R} {k : S → Out ε S' L R} {o : Out ε S' L R} {s : S} (e : m = .nx s) (h : k s = o) : m.bind k = o := by
  rw [e]
  exact h
/-- a loop all of whose turns go on with nothing -/
theorem forL_unit {ε L R α : Type} {f : Unit → α → Out ε Unit Unit R} {xs : List α} (h : ∀ x, x ∈ xs → f () x = .nx ()) : (forL f () xs : Out ε Unit L R) = .nx () := by
  obtain ⟨_, e, _⟩ := forL_all (L := L) (fun _ : Unit => True) (f := f) (xs := xs) (s := ()) trivial fun _ x hx _ => ⟨(), h x hx, trivial⟩
  exact e
end J

namespace J
open PySem L2 PyProof.Rows

/-! ### outcomes of what may raise -/
def callE {ε S L R O : Type} (m : Except ε O) (k : O → Out ε S L R) : Out ε S L R := match m with
  | .ok o => k o
  | .error e => .er e
@[simp] theorem callE_ok {ε S L R O : Type} (o : O) (k : O → Out ε S L R) : callE (.ok o) k = k o := rfl
@[simp] theorem callE_er {ε S L R O : Type} (e : ε) (k : O → Out ε S L R) : callE (.error e) k = .er e := rfl
def tryO {ε' ε S L R : Type} (m : Out ε' S L R) (h : ε' → Out ε S L R) : Out ε S L R := match m with
  | .nx s => .nx s
  | .bk l => .bk l
  | .ct l => .ct l
  | .rt r => .rt r
  | .er e => h e
@[simp] theorem tryO_nx {ε' ε S L R : Type} (s : S) (h : ε' → Out ε S L R) : tryO (.nx s : Out ε' S L R) h = .nx s := rfl
@[simp] theorem tryO_rt {ε' ε S L R : Type} (r : R) (h : ε' → Out ε S L R) : tryO (.rt r : Out ε' S L R) h = .rt r := rfl
@[simp] theorem tryO_er {ε' ε S L R : Type} (e : ε') (h : ε' → Out ε S L R) : tryO (.er e : Out ε' S L R) h = h e := rfl
/-- what it gives, if it gives anything -/
def okV {ε O : Type} [Inhabited O] (m : Except ε O) : O := match m with
  | .ok o => o
  | .error _ => default
@[simp] theorem okV_ok {ε O : Type} [Inhabited O] (o : O) : okV (.ok o : Except ε O) = o := rfl

/-! ### the errors of a law: n classes, each right under the one at B -/
structure ErrOne (K : PySem.W.Frag) (mg : Str → Option Value) (x : Str) (C B : Addr) : Prop where
  ex : PySem.W.excIn K C [.type "ValueError", .type "Exception", .type "BaseException", .type "object"] "ValueError.__new__" = true
  mg : mg x = some (.ref C)
  kp : PySem.W.keepIn K (.ref C) = true
  be : PySem.W.subIn K (.ref C) (.type "BaseException") = some true
  ty : PySem.W.typeIn K (.ref C) = some (.type "type")
  cl : ExcC K C
  ca : PySem.W.exmOne K (.ref C) (.ref B) = some true
structure Errs (K : PySem.W.Frag) (mg : Str → Option Value) {n : Nat} (nm : Fin n → Str) (adr : Fin n → Addr) (B : Addr) : Prop where
  one : ∀ i, ErrOne K mg (nm i) (adr i) B
  is : ∀ i j, PySem.W.kitOne K (.ref (adr i)) (.ref (adr j)) = some (decide (i = j))
  mB : mg "BankError" = some (.ref B)
theorem kit_ref {K : PySem.W.Frag} {C D : Addr} {b : Bool} (hd : PySem.W.hasDictIn K D = true) (ht : PySem.W.typeIn K (.ref D) = some (.type "type")) (hs : PySem.W.subIn K (.ref C) (.ref D) = some b) (hc : PySem.W.subIn K (.ref D) (.ref D) = some true) : PySem.W.kitOne K (.ref C) (.ref D) = some b := by
  obtain ⟨cd, hcd, _⟩ := PySem.W.any_some hd
  unfold PySem.W.kitOne
  by_cases h : (Value.ref C == Value.ref D) = true
  · rw [if_pos h]
    have e : C = D := Value.ref.inj (beq_iff_eq.mp h)
    rw [e, hc] at hs
    exact hs
  · rw [if_neg h]
    show (if ((PySem.W.clsIn K D).isSome && PySem.W.typeIn K (.ref D) == some (.type "type")) = true then PySem.W.subIn K (.ref C) (.ref D) else none) = some b
    rw [hcd, ht, if_pos (show ((some cd).isSome && (some (Value.type "type") == some (Value.type "type"))) = true by rw [Option.isSome_some, Bool.true_and]; exact beq_self_eq_true _), hs]
/-- how an error lies in the wishes of the layer -/
abbrev wE2 {n : Nat} (adr : Fin n → Addr) (Wx : WX) : Fin n → L2.St → Hp → Prop := fun e σ H => Wx (.ref (adr e)) none σ H
abbrev cE {n : Nat} (adr : Fin n → Addr) : Fin n → Value := fun e => .ref (adr e)

section
variable {n : Nat} {nm : Fin n → Str} {adr : Fin n → Addr} {B0 : Addr}
variable {S L R : Type} {X : Cx} {Wx : WX} {σ : L2.St} {G : Hp} {cs : Cells} {st : Stmt} {rest body : List Stmt} {e : Expr} {es : List Expr} {pos p q : Pos}
/-- raise X('..') -/
theorem b_raise {Φ : Po (Fin n) S L R} {x m : Str} {j : Nat} {p2 p3 : Pos} (i : Fin n) (Er : Errs X.K X.mg nm adr B0) (hc : X.calm = true) (tk : Takes X Wx) (hx : nm i = x) (k : Φ.er i σ G cs) (hg : Gl X x := by rfl) (hd : (x == ("__debug__" : Str)) = false := by decide) :
    B X (wE2 adr Wx) (.Raise (some (.Call (.Name x p) [.Constant (.str m) j p2] [] p3)) none pos :: rest) σ G cs Φ (.er i) := by
  subst hx
  have o := Er.one i
  exact b_cons (ps_raise hc tk (pmk_own F.excBase_ValueError o.ex o.mg o.kp (raises_own o.be o.ty) hg hd)) fun H d E w => w σ G cs H (Same.refl _) d k
/-- a call that may raise, as a value of a statement -/
def DE (X : Cx) (adr : Fin n → Addr) (Wx : WX) (e : Expr) (σ : L2.St) (G : Hp) (cs : Cells) {O : Type} (P : O → Hp → V → Prop) (m : Except (Fin n) O) : Prop :=
  ∀ G1 H, Same G G1 → Desc G1 cs H → ∀ Q : VK, (match m with
    | .ok o => ∀ G2 H2 v, Same G1 G2 → Desc G2 cs H2 → P o G2 v → Q v H2
    | .error k => ∀ G2 H2, Same G1 G2 → Desc G2 cs H2 → Wx (.ref (adr k)) none σ H2) → wE X e σ H Q
theorem de_call {I O : Type} {pre : I → Hp → List V → Prop} {r : I → O → Hp → V → Prop} {m : I → Except (Fin n) O} {k j a : Nat} {x : Str} {Ps : Hp → List V → Prop} (i : I) (F : Fn0 X.prog X.w X.K X.mg X.base (L2.CX X.prog X.w) k x a (SpE (cE adr) pre r m)) (tk : Takes X Wx) (hr : Room j X.A) (hk : k ≤ j)
    (ha : A X (e :: es) σ G cs Ps) (hp : ∀ G1 vs, Same G G1 → Ps G1 vs → pre i G1 vs) (hg : Gl X x := by rfl) (hd : (x == ("__debug__" : Str)) = false := by decide)
    (he : starEach (e :: es) X.env = (false, eval e X.env) :: starEach es X.env := by exact star_plain rfl) (hpl : (backTo pos (starEach es X.env)).any (·.1) = false := by rfl) : DE X adr Wx (.Call (.Name x p) (e :: es) [] pos) σ G cs (r i) (m i) := by
  obtain ⟨f, fd, ps, F, hm, kp, b, _⟩ := F.ex
  refine fun G1 H s d Q q => uE (pe_callS F (hr.mono hk) hg hm kp b (fun σ => passAt tk σ) (sA X _) (hdb := hd) (he := he) (hpl := hpl)) ?_
  refine ha G1 H s d _ fun G2 H2 vs s2 d2 hvs => ⟨i, G2, cs, d2, hp G2 vs (s.trans s2) hvs, ?_⟩
  cases hm : m i with
  | ok o =>
    rw [hm] at q
    exact fun v G3 H3 s3 d3 hv => q G3 H3 v (s2.trans s3) d3 hv
  | error k =>
    rw [hm] at q
    exact fun G3 H3 s3 d3 => q G3 H3 (s2.trans s3) d3
theorem DE.imp {O : Type} {P P' : O → Hp → V → Prop} {m : Except (Fin n) O} (h : DE X adr Wx e σ G cs P m) (i : ∀ o G v, P o G v → P' o G v) : DE X adr Wx e σ G cs P' m := fun G1 H s d Q q => h G1 H s d Q (by
  cases m with
  | ok o => exact fun G2 H2 v s2 d2 hv => q G2 H2 v s2 d2 (i _ _ _ hv)
  | error k => exact q)
/-- a call that may raise, but does not here -/
theorem d_callS {I O : Type} {pre : I → Hp → List V → Prop} {r : I → O → Hp → V → Prop} {m : I → Except (Fin n) O} {P : Hp → V → Prop} {k j a : Nat} {x : Str} {Ps : Hp → List V → Prop} {o : O} (i : I) (F : Fn0 X.prog X.w X.K X.mg X.base (L2.CX X.prog X.w) k x a (SpE (cE adr) pre r m)) (ho : m i = .ok o) (hr : Room j X.A) (hk : k ≤ j)
    (ha : A X (e :: es) σ G cs Ps) (hp : ∀ G1 vs, Same G G1 → Ps G1 vs → pre i G1 vs) (hP : ∀ G v, r i o G v → P G v) (hg : Gl X x := by rfl) (hd : (x == ("__debug__" : Str)) = false := by decide)
    (he : starEach (e :: es) X.env = (false, eval e X.env) :: starEach es X.env := by exact star_plain rfl) (hpl : (backTo pos (starEach es X.env)).any (·.1) = false := by rfl) : D X (.Call (.Name x p) (e :: es) [] pos) σ G cs P := by
  obtain ⟨f, fd, ps, F, hm, kp, b, _⟩ := F.ex
  refine d_by (pe_callS (E := fun _ _ _ _ => False) F (hr.mono hk) hg hm kp b (fun σ pins H s u s' I c => ?_) (sA X _) (hdb := hd) (he := he) (hpl := hpl)) fun G1 H s d Q q => ?_
  · obtain ⟨_, _, _, _, _, _, _, _, _, _, _, _, z⟩ := c
    exact z.elim
  · refine ha G1 H s d _ fun G2 H2 vs s2 d2 hvs => ⟨i, G2, cs, d2, hp G2 vs (s.trans s2) hvs, ?_⟩
    rw [ho]
    exact fun v G3 H3 s3 d3 hv => q G3 H3 v (s2.trans s3) d3 (hP _ _ hv)
section
variable {Φ : Po (Fin n) S L R} {O : Type} {P : O → Hp → V → Prop} {m : Except (Fin n) O}
/-- x = f(..) -/
theorem b_setE (i : Nat) {x : Str} {g : O → Out (Fin n) S L R} (hN : X.N.Nodup) (he : DE X adr Wx e σ G cs P m) (kr : ∀ k, m = .error k → ∀ G1, Same G G1 → Φ.er k σ G1 cs)
    (k : ∀ o, m = .ok o → ∀ v G1, Same G G1 → P o G1 v → B X (wE2 adr Wx) rest (σ.set i (some v)) G1 cs Φ (g o)) (hi : X.N[i]? = some x := by rfl) (hx : Loc X.env.scope x := by first | exact Or.inl rfl | exact Or.inr rfl)
    (hs : swapsWith e (some (.Name x p)) pos.line X.env = pure false := by rfl) (hf : X.fn x = true ∨ X.env.scope.names.lookup x = some .local := by first | exact .inl rfl | exact .inr rfl) : B X (wE2 adr Wx) (.Assign [.Name x p] e pos :: rest) σ G cs Φ (callE m g) :=
  b_cons (ps_set hN hi hx (sE X e) hs hf) fun H d E w => he G H (Same.refl _) d _ (by
    cases hm : m with
    | ok o =>
      rw [hm] at w
      exact fun G2 H2 v s2 d2 hv => k o hm v G2 s2 hv H2 d2 E (Wish.up (m := g o) w s2)
    | error c =>
      rw [hm] at w
      exact fun G2 H2 s2 d2 => w σ G2 cs H2 s2 d2 (kr c hm G2 s2))
/-- return f(..) -/
theorem b_retE {g : O → R} (he : DE X adr Wx e σ G cs P m) (kr : ∀ k, m = .error k → ∀ G1, Same G G1 → Φ.er k σ G1 cs) (k : ∀ o, m = .ok o → ∀ v G1, Same G G1 → P o G1 v → Φ.rt (g o) G1 cs v) :
    B X (wE2 adr Wx) (.Return (some e) pos :: rest) σ G cs Φ (callE m fun o => .rt (g o)) :=
  b_cons (ps_ret (sE X e)) fun H d E w => he G H (Same.refl _) d _ (by
    cases hm : m with
    | ok o =>
      rw [hm] at w
      exact fun G2 H2 v s2 d2 hv => w v G2 cs H2 s2 d2 (k o hm v G2 s2 hv)
    | error c =>
      rw [hm] at w
      exact fun G2 H2 s2 d2 => w σ G2 cs H2 s2 d2 (kr c hm G2 s2))
/-- f(..) alone -/
theorem b_exprE {g : O → Out (Fin n) S L R} (he : DE X adr Wx e σ G cs P m) (kr : ∀ k, m = .error k → ∀ G1, Same G G1 → Φ.er k σ G1 cs)
    (k : ∀ o, m = .ok o → ∀ G1, Same G G1 → B X (wE2 adr Wx) rest σ G1 cs Φ (g o)) (hs : swapsWith e none pos.line X.env = pure false := by rfl) : B X (wE2 adr Wx) (.Expr e pos :: rest) σ G cs Φ (callE m g) :=
  b_cons (ps_expr (sE X e) hs) fun H d E w => he G H (Same.refl _) d _ (by
    cases hm : m with
    | ok o =>
      rw [hm] at w
      exact fun G2 H2 v s2 d2 hv => k o hm G2 s2 H2 d2 E (Wish.up (m := g o) w s2)
    | error c =>
      rw [hm] at w
      exact fun G2 H2 s2 d2 => w σ G2 cs H2 s2 d2 (kr c hm G2 s2))
end
section
variable {ε S' : Type} {Φ : Po ε S L R} {W : ε → L2.St → Hp → Prop} {suite : List Stmt} {b₀ : Stmt} {np : Pos}
/-- try: .. except BankError as x: .. -/
theorem b_tryAs {mb : Out (Fin n) S' L R} {mh : Fin n → Out ε S' L R} {g : S' → Out ε S L R} {x : Str} (i : Nat) (Mid : S' → L2.St → Hp → Cells → Prop) (Mx : Fin n → L2.St → Hp → Cells → Prop) (Er : Errs X.K X.mg nm adr B0) (hN : X.N.Nodup)
    (hb : ∀ (Wx : WX) (pn : List (Addr × Obj)) (xe : Value → Shared → Prop), Takes (X.tr pn xe) Wx → PassesOwn (model X.prog X.w) X.A X.env xe → B (X.tr pn xe) (wE2 adr Wx) body σ G cs { nx := Mid, lp := Φ.lp, rt := Φ.rt, er := Mx } mb)
    (hh : ∀ k, mb = .er k → ∀ (a : Addr) (oe : Obj) (pn : List (Addr × Obj)) (σ1 : L2.St) (G1 : Hp) (cs1 : Cells), Same G G1 → Mx k σ1 G1 cs1 → Zc (.ref (adr k)) none oe → (∃ vs, oe.data = .fields vs) →
      B (X.suite a ((a, oe) :: pn)) W (b₀ :: suite) (σ1.set i (some (.ref a))) G1 cs1 { nx := fun s σ2 => Mid s (σ2.set i none), lp := fun l σ2 => Φ.lp l (σ2.set i none), rt := Φ.rt, er := fun _ _ _ _ => False } (mh k))
    (hr : ∀ s σ2 G2 cs2, Same G G2 → Mid s σ2 G2 cs2 → tryO mb mh = .nx s → B X W rest σ2 G2 cs2 Φ (g s))
    (hs : X.stack = X.env :: X.outer := by rfl) (hf : X.env.frame = some X.env.locals := by rfl) (hi : X.N[i]? = some x := by rfl) (hln : X.env.kindOf x = some .local := by rfl) (hg : Gl X "BankError" := by rfl) :
    B X W (.Try body [.ExceptHandler (some (.Name "BankError" np)) (some x) (b₀ :: suite) q] [] [] pos :: rest) σ G cs Φ ((tryO mb mh).bind g) := by
  refine b_cons (ps_try_as (i := i) (tb := fun Wx D σ H => ∀ pn xe, Takes (X.tr pn xe) Wx → PassesOwn (model X.prog X.w) X.A X.env xe → wSs (X.tr pn xe) body D σ H) (ts := fun a cls d D σ H => ∀ oe pn, Zc cls d oe → (∃ vs, oe.data = .fields vs) → wSs (X.suite a ((a, oe) :: pn)) (b₀ :: suite) D σ H) (Wout := fun _ _ _ _ => False)
    hs hf hN hi hln ⟨hg, by decide, .inl Er.mB⟩ takes0 (fun Wx pn xe tk po => ⟨fun pins s _ _ _ I h => (h pn xe tk po).run pins s I⟩) (fun a oe cls d pn hz hfd => ⟨fun pins s _ _ _ I h => (h oe pn hz hfd).run pins s I⟩)) fun H d E w => ?_
  intro pn xe tk po
  have h1 := hb _ pn xe tk po
  refine h1 H d _ ?_
  cases hm : mb with
  | nx s =>
    rw [hm] at w hr
    exact fun σ2 G2 cs2 H2 s2 d2 p => hr s σ2 G2 cs2 s2 p rfl H2 d2 E (Wish.up (G := G) (show Wish W G Φ E (g s) from w) s2)
  | bk l =>
    rw [hm] at w
    exact fun σ2 G2 cs2 H2 s2 d2 p => w σ2 G2 cs2 H2 s2 d2 p
  | ct l =>
    rw [hm] at w
    exact fun σ2 G2 cs2 H2 s2 d2 p => w σ2 G2 cs2 H2 s2 d2 p
  | rt r =>
    rw [hm] at w
    exact fun v G2 cs2 H2 s2 d2 p => w v G2 cs2 H2 s2 d2 p
  | er k =>
    rw [hm] at w hr
    intro σ2 G2 cs2 H2 s2 d2 p
    refine ⟨true, (Er.one k).ca, fun _ a ha oe pn2 hz hfd => ?_, fun z => nomatch z⟩
    refine hh k hm a oe pn2 σ2 G2 cs2 s2 p hz hfd H2 d2 _ ?_
    have w2 : Wish W G Φ E ((mh k).bind g) := w
    have hr2 : ∀ s σ2 G2 cs2, Same G G2 → Mid s σ2 G2 cs2 → mh k = .nx s → B X W rest σ2 G2 cs2 Φ (g s) := hr
    cases hk : mh k with
    | nx s =>
      rw [hk] at w2
      exact fun σ3 G3 cs3 H3 s3 d3 p3 => hr2 s _ G3 cs3 (s2.trans s3) p3 hk H3 d3 E (Wish.up (G := G) (show Wish W G Φ E (g s) from w2) (s2.trans s3))
    | bk l =>
      rw [hk] at w2
      exact fun σ3 G3 cs3 H3 s3 d3 p3 => w2 _ G3 cs3 H3 (s2.trans s3) d3 p3
    | ct l =>
      rw [hk] at w2
      exact fun σ3 G3 cs3 H3 s3 d3 p3 => w2 _ G3 cs3 H3 (s2.trans s3) d3 p3
    | rt r =>
      rw [hk] at w2
      exact fun v G3 cs3 H3 s3 d3 p3 => w2 v G3 cs3 H3 (s2.trans s3) d3 p3
    | er e => exact fun _ _ _ _ _ _ z => z.elim
/-- try: .. except BankError: .. -/
theorem b_tryOnly {mb : Out (Fin n) S' L R} {mh : Fin n → Out ε S' L R} {g : S' → Out ε S L R} (Mid : S' → L2.St → Hp → Cells → Prop) (Mx : Fin n → L2.St → Hp → Cells → Prop) (Er : Errs X.K X.mg nm adr B0)
    (hb : ∀ (Wx : WX) (pn : List (Addr × Obj)) (xe : Value → Shared → Prop), Takes (X.tr pn xe) Wx → PassesOwn (model X.prog X.w) X.A X.env xe → B (X.tr pn xe) (wE2 adr Wx) body σ G cs { nx := Mid, lp := Φ.lp, rt := Φ.rt, er := Mx } mb)
    (hh : ∀ k, mb = .er k → ∀ (a : Addr) (oe : Obj) (pn : List (Addr × Obj)) (σ1 : L2.St) (G1 : Hp) (cs1 : Cells), Same G G1 → Mx k σ1 G1 cs1 → Zc (.ref (adr k)) none oe → (∃ vs, oe.data = .fields vs) →
      B (X.suite a ((a, oe) :: pn)) W (b₀ :: suite) σ1 G1 cs1 { nx := Mid, lp := Φ.lp, rt := Φ.rt, er := fun _ _ _ _ => False } (mh k))
    (hr : ∀ s σ2 G2 cs2, Same G G2 → Mid s σ2 G2 cs2 → tryO mb mh = .nx s → B X W rest σ2 G2 cs2 Φ (g s))
    (hs : X.stack = X.env :: X.outer := by rfl) (hf : X.env.frame = some X.env.locals := by rfl) (hg : Gl X "BankError" := by rfl) :
    B X W (.Try body [.ExceptHandler (some (.Name "BankError" np)) none (b₀ :: suite) q] [] [] pos :: rest) σ G cs Φ ((tryO mb mh).bind g) := by
  refine b_cons (ps_try_only (tb := fun Wx D σ H => ∀ pn xe, Takes (X.tr pn xe) Wx → PassesOwn (model X.prog X.w) X.A X.env xe → wSs (X.tr pn xe) body D σ H) (ts := fun a cls d D σ H => ∀ oe pn, Zc cls d oe → (∃ vs, oe.data = .fields vs) → wSs (X.suite a ((a, oe) :: pn)) (b₀ :: suite) D σ H) (Wout := fun _ _ _ _ => False)
    hs hf ⟨hg, by decide, .inl Er.mB⟩ takes0 (fun Wx pn xe tk po => ⟨fun pins s _ _ _ I h => (h pn xe tk po).run pins s I⟩) (fun a oe cls d pn hz hfd => ⟨fun pins s _ _ _ I h => (h oe pn hz hfd).run pins s I⟩)) fun H d E w => ?_
  intro pn xe tk po
  have h1 := hb _ pn xe tk po
  refine h1 H d _ ?_
  cases hm : mb with
  | nx s =>
    rw [hm] at w hr
    exact fun σ2 G2 cs2 H2 s2 d2 p => hr s σ2 G2 cs2 s2 p rfl H2 d2 E (Wish.up (G := G) (show Wish W G Φ E (g s) from w) s2)
  | bk l =>
    rw [hm] at w
    exact fun σ2 G2 cs2 H2 s2 d2 p => w σ2 G2 cs2 H2 s2 d2 p
  | ct l =>
    rw [hm] at w
    exact fun σ2 G2 cs2 H2 s2 d2 p => w σ2 G2 cs2 H2 s2 d2 p
  | rt r =>
    rw [hm] at w
    exact fun v G2 cs2 H2 s2 d2 p => w v G2 cs2 H2 s2 d2 p
  | er k =>
    rw [hm] at w hr
    intro σ2 G2 cs2 H2 s2 d2 p
    refine ⟨true, (Er.one k).ca, fun _ a ha oe pn2 hz hfd => ?_, fun z => nomatch z⟩
    refine hh k hm a oe pn2 σ2 G2 cs2 s2 p hz hfd H2 d2 _ ?_
    have w2 : Wish W G Φ E ((mh k).bind g) := w
    have hr2 : ∀ s σ2 G2 cs2, Same G G2 → Mid s σ2 G2 cs2 → mh k = .nx s → B X W rest σ2 G2 cs2 Φ (g s) := hr
    cases hk : mh k with
    | nx s =>
      rw [hk] at w2
      exact fun σ3 G3 cs3 H3 s3 d3 p3 => hr2 s _ G3 cs3 (s2.trans s3) p3 hk H3 d3 E (Wish.up (G := G) (show Wish W G Φ E (g s) from w2) (s2.trans s3))
    | bk l =>
      rw [hk] at w2
      exact fun σ3 G3 cs3 H3 s3 d3 p3 => w2 _ G3 cs3 H3 (s2.trans s3) d3 p3
    | ct l =>
      rw [hk] at w2
      exact fun σ3 G3 cs3 H3 s3 d3 p3 => w2 _ G3 cs3 H3 (s2.trans s3) d3 p3
    | rt r =>
      rw [hk] at w2
      exact fun v G3 cs3 H3 s3 d3 p3 => w2 v G3 cs3 H3 (s2.trans s3) d3 p3
    | er e => exact fun _ _ _ _ _ _ z => z.elim
end
end
end J

namespace J
open PySem PySem.Spec L2 PyProof.Rows
open L2H (RoomH PinOk cxH)

/-! ### defs that are handed the error in hand -/
/-- what a def promises that is called within an except suite: a the error, C its class -/
structure FnX (P : Program) (w : World) (K : PySem.W.Frag) (mg : Str → Option Value) (base : Heap) (k : Nat) (x : Str) (n : Nat) (sp : Addr → Addr → Sp) : Prop where
  ex : ∃ (f : Addr) (fd : FuncData) (ps : List Str), (∀ a C vs H Q E, sp a C vs H Q E → vs.length = ps.length) ∧
    (∀ (A : Around) (outer : List Env) (s : Shared) (H : Hp) (args : Args) (us : List Value) (vs : List V) (Q : VK) (E : XK) (p : Addr × Obj) (C : Addr), RoomH k A → PinOk outer H s p → Zc (.ref C) none p.2 → (∃ u, p.2.data = .fields u) → Env0 P w K mg base A outer s H →
      BindsTo s fd args (ps.zip us) → Vals vs us → sp p.1 C vs H Q E → codeAny (model P w) A (.call (.ref f) args) (CR CX0 outer P w H s Q E) s) ∧
    mg x = some (.ref f) ∧ PySem.W.keepIn K (.ref f) = true ∧ Binds K fd ps [] ∧ ps.length = n
section
variable {P : Program} {w : World} {K : PySem.W.Frag} {mg : Str → Option Value} {base : Heap}
/-- the promise of such a def, that raises nothing: i the error's number -/
def SpK {I O : Type} (adr : I → Addr) (r : O → Hp → V → Prop) (m : I → O) : Addr → Addr → Sp := fun a C vs H Q _ => ∃ (i : I) (G : Hp) (cs : Cells), C = adr i ∧ vs = [.ref a] ∧ Desc G cs H ∧ ∀ v G2 H2, Same G G2 → Desc G2 cs H2 → r (m i) G2 v → Q v H2
theorem fn_mkX {I O : Type} [Inhabited O] {x y : Str} {st : Stmt} {f : Addr} {fd : FuncData} {N : List Str} {k : Nat} {adr : I → Addr} {r : O → Hp → V → Prop} (F : Fun K x x st f fd) (S : FnScope N [y] (defScope st)) (b : Binds K fd [y] []) (hmg : mg x = some (.ref f))
    (body : I → Out Empty Unit Empty O)
    (h : ∀ (cdv : Value) (A : Around) (outer : List Env) (s : Shared) (H : Hp) (E : XK) (p : Addr × Obj) (i : I) (G : Hp) (cs : Cells), RoomH k (A.deeper (envOfC x (defScope st) s.heap.objs.size f cdv)) → Zc (.ref (adr i)) none p.2 → (∃ u, p.2.data = .fields u) →
      B (cxH CX0 P w K mg base N x (defScope st) f cdv A outer s H E p) (fun e _ _ => e.elim) (defBody st) (start N [.ref p.1]) G cs (PoF cs r) (body i)) :
    FnX P w K mg base (k + 1) x 1 (SpK adr r fun i => (body i).val) := by
  obtain ⟨oc, od, kV, doc, pm, an, cdv, ct, osl, rfl, hk, hcode⟩ := F.ex
  refine ⟨f, _, [y], ?_, ?_, hmg, F.kp, b, rfl⟩
  · rintro a C vs H Q E ⟨i, G, cs, _, rfl, _⟩
    rfl
  · rintro A outer s0 H args us vs Q E p C room pin hz hf en hbi rv ⟨i, G, cs, rfl, rfl, d, q⟩
    have kin := en.mod.kin.keeps fun a o z => (en.bs a o z).1
    have nol := en.mod.nolimit.keeps fun a o z => (en.bs a o z).1
    have kinds : ∀ z ∈ [y].zip us, (defScope st).names.lookup z.1 = some .local ∨ ((defScope st).names.lookup z.1 = some .cell ∧ ((cellsFrom (s0.heap.objs.size + 1) (defScope st).names []).lookup z.1).isSome = true) := fun ⟨nm, v⟩ hz =>
      (S.par nm (List.of_mem_zip hz).1).imp id fun t => ⟨t, PySem.W.cellsFrom_some _ _ _ (.inl t)⟩
    refine codeAny_call_function room.depth (kin _ _ hk) rfl S.co S.gen rfl (PySem.W.codeRec_of kin hcode) (hbi _ _ _ _ (wpAny_newFunctionEnv_cells S.kind kinds fun env he s1 ic => ?_))
    subst he
    refine ⟨nol.keeps ic.toInCall.keep, codeAny_func ?_⟩
    have Iv := L2H.inv_startH (CX := CX0) (qual := x) (cd := cdv) (E := E) S pin en rfl rv ic
    have run := h cdv A outer s0 H E p i G cs (room.deeper _) hz hf H d { nx := fun _ H' => Q .non H', rt := Q } (by
      dsimp only at q
      cases hb : body i with
      | nx u =>
        rw [hb] at q
        rintro σ2 G2 cs2 H2 s2 d2 ⟨⟨loc, rfl⟩, hr2⟩
        exact q _ G2 H2 s2 d2.drop hr2
      | bk l => exact l.elim
      | ct l => exact l.elim
      | rt o =>
        rw [hb] at q
        rintro v G2 cs2 H2 s2 d2 ⟨⟨loc, rfl⟩, hr2⟩
        exact q _ G2 H2 s2 d2.drop hr2
      | er e => exact e.elim)
    refine wpAny_mono (run.run [] s1 Iv) (fun fl s2 hs => ?_) fun e s2 hs => hs
    have done : ∀ {σ' : L2.St} {H' : Hp} {v : V} {u : Value}, Inv (cxH CX0 P w K mg base N x (defScope st) f cdv A outer s0 H E p) [] σ' H' s2 → RelV v u → Q v H' → CE outer P w H s0 Q u s2 := fun Jv rvu qv => ⟨_, _, Jv.os, Jv.bare, Jv.base, Jv.hok, rvu, qv⟩
    cases fl with
    | ret u =>
      obtain ⟨v, σ2, H2, Jv, rvu, qv⟩ := hs
      exact done Jv rvu qv
    | next =>
      obtain ⟨σ2, H2, Jv, qv⟩ := hs
      exact done (v := V.non) (u := Value.none) Jv rfl qv
    | brk =>
      obtain ⟨_, _, _, z⟩ := hs
      exact z.elim
    | cont =>
      obtain ⟨_, _, _, z⟩ := hs
      exact z.elim
end
section
variable {n : Nat} {nm : _root_.Fin n → Str} {adr : _root_.Fin n → Addr} {B0 : Addr} {X : Cx} {σ : L2.St} {G : Hp} {cs : Cells} {e : Expr} {es : List Expr} {pos p : Pos}
theorem roomX {A A' : Around} {j k : Nat} (h : Room j A) (hk : k ≤ j) (hd : A'.depth = A.depth := by rfl) (hu : A'.units = A.units := by rfl) : RoomH k A' := ⟨by rw [hd]; exact (h.mono hk).dp, by rw [hu]; exact (h.mono hk).un⟩
/-- f(e), e the error in hand -/
theorem d_callX {I O : Type} {ad : I → Addr} {r : O → Hp → V → Prop} {m : I → O} {P : Hp → V → Prop} {k a : Nat} {x : Str} {b : Addr} {ob : Obj} (i : I) (F : FnX X.prog X.w X.K X.mg X.base k x a (SpK ad r m)) (hr : RoomH k X.A) (hp : (b, ob) ∈ X.pn) (hz : Zc (.ref (ad i)) none ob) (hf : ∃ u, ob.data = .fields u)
    (he : D X e σ G cs (rV (.ref b))) (hP : ∀ G v, r (m i) G v → P G v) (hg : Gl X x := by rfl) (hd : (x == ("__debug__" : Str)) = false := by decide)
    (hst : starEach [e] X.env = (false, eval e X.env) :: starEach [] X.env := by rfl) (hpl : (backTo pos (starEach [] X.env)).any (·.1) = false := by rfl) : D X (.Call (.Name x p) [e] [] pos) σ G cs P := by
  obtain ⟨f, fd, ps, hlen, F, hm, kp, hb, _⟩ := F.ex
  refine fun G1 H s d Q q => ⟨fun pins s0 Iv => wpAny_Call_Name_kw (ld_glob Iv hg hm ?_ hd)⟩
  refine PySem.W.callWith_K (h₀ := X.base) Iv.ok.mod.kin kp (thn ((pa_cons (sE X e) pa_nil hst).run pos pins s0 σ H (fun vs H2 => vs = [V.ref b] ∧ ∃ G2, Same G1 G2 ∧ Desc G2 cs H2) Iv (he G1 H s d _ fun G2 H2 v s2 d2 hv => ⟨by rw [show v = V.ref b from hv], G2, s2, d2⟩)) fun us s1 hh => ?_) hst hpl
  obtain ⟨vs, H2, I2, rv, rfl, G2, s2, d2⟩ := hh
  refine ⟨I2.kIn, ?_⟩
  have sp : SpK ad r m b (ad i) [V.ref b] H2 Q (fun _ _ _ => False) := ⟨i, G2, cs, rfl, rfl, d2, fun v G3 H3 s3 d3 hv => q G3 H3 v (s2.trans s3) d3 (hP _ _ hv)⟩
  have bb := hb s1 us I2.kIn (by rw [List.append_nil, ← rv.length]; exact hlen _ _ _ _ _ _ sp)
  rw [List.append_nil] at bb
  obtain ⟨p1, p2, p3, p4, p5⟩ := I2.pin (b, ob) (List.mem_append_left _ hp)
  have pin : PinOk X.stack H2 s1 (b, ob) := ⟨p1, p2, fun z => (List.mem_cons.mp (I2.stkSub b z)).elim p3 p4, p5⟩
  refine wpAny_call (codeAny_mono (F X.A X.stack s1 H2 ⟨us, []⟩ us _ Q (fun _ _ _ => False) (b, ob) (ad i) hr pin hz hf I2.env0 bb rv sp) fun t s2 hq => ?_)
  cases t with
  | error c => exact absurd hq (by intro z; exact z)
  | ok fl =>
    cases fl with
    | ret u => exact I2.after hq
    | next => exact hq.elim
    | brk => exact hq.elim
    | cont => exact hq.elim
/-- isinstance(e, C), e the error in hand -/
theorem call_isP {b C : Addr} {ob : Obj} (c : ExcC X.K C) (hz : Zc (.ref C) none ob) (hf : ∃ u, ob.data = .fields u) (hp : (b, ob) ∈ X.pn) : CallR X (.builtin "isinstance") (rIsE X.K C b) := by
  rintro pins s0 σ H xs us Q Iv rv ⟨cl, cv, t, rfl, hcv, kt, q⟩
  obtain ⟨u1, u2, rfl, r1, r2⟩ := vals2 rv
  obtain rfl := hcv _ r2
  cases (show u1 = Value.ref b from r1)
  obtain ⟨fs, hv⟩ := hf
  have at1 : PySem.W.InstAt s0.heap b ob C none := by
    have g := (Iv.pin (b, ob) (List.mem_append_left _ hp)).1
    obtain ⟨k1, k2, k3, k4⟩ := ob
    obtain ⟨rfl, rfl⟩ := hz
    cases (show k3 = _ from hv)
    exact ⟨g, rfl, rfl, trivial⟩
  exact PySem.W.kia_one (PySem.W.handS_kitx_exc c.hg c.hk c.hs c.hd c.ha c.hn c.ht c.hm) Iv.kIn at1 kt (fun z => nomatch z) fun tk => ⟨.bl t, H, Iv.kept (t' := tk) fun _ _ z => z, rfl, q⟩
theorem d_isE {y : Str} {b : Addr} {ob : Obj} {py : Pos} (i j : _root_.Fin n) (Er : Errs X.K X.mg nm adr B0) (hz : Zc (.ref (adr i)) none ob) (hf : ∃ u, ob.data = .fields u) (hp : (b, ob) ∈ X.pn) (hm : X.mg "isinstance" = none) (he : D X e σ G cs (rV (.ref b))) (hy : nm j = y)
    (hg : Gl X "isinstance" := by rfl) (hgy : Gl X y := by rfl) (hdy : (y == ("__debug__" : Str)) = false := by decide) (hst : starEach [e, .Name y py] X.env = (false, eval e X.env) :: starEach [.Name y py] X.env := by rfl) (hst2 : starEach [.Name y py] X.env = (false, eval (.Name y py) X.env) :: starEach [] X.env := by rfl)
    (hpl : (backTo pos (starEach [.Name y py] X.env)).any (·.1) = false := by rfl) : D X (.Call (.Name "isinstance" p) [e, .Name y py] [] pos) σ G cs (rB (decide (i = j))) := by
  subst hy
  refine d_callB (Ps := aC (rV (.ref b)) (aC (rV (.ref (adr j))) aN)) (call_isP (Er.one i).cl hz hf hp) hm (a_cons (P := rV (.ref b)) he (a_cons (P := rV (.ref (adr j))) ?_ a_nil hst2) hst) (fun G1 H vs s d h Q q => ?_) hg (he := hst) (hpl := hpl)
  · exact d_by (pe_glob hgy (Er.one j).mg (v := .ref (adr j)) rfl hdy) fun G1 H s d Q q => q G1 H _ (Same.refl _) d rfl
  · obtain ⟨v, w, rfl, hv, v2, w2, rfl, hv2, hw⟩ := h
    cases (show w2 = [] from hw)
    cases (show v = V.ref b from hv)
    cases (show v2 = V.ref (adr j) from hv2)
    exact ⟨_, _, _, rfl, fun u z => z, Er.is i j, q G1 H _ (Same.refl _) d rfl⟩
end
end J

namespace J
open PySem L2 PyProof.Rows
/-! ### one of two kinds of values -/
def rSum {α β : Type} (r : α → Hp → V → Prop) (r' : β → Hp → V → Prop) : α ⊕ β → Hp → V → Prop
  | .inl x => r x
  | .inr y => r' y
instance {α β : Type} (r : α → Hp → V → Prop) (r' : β → Hp → V → Prop) [m : ∀ x, Mono (r x)] [m' : ∀ x, Mono (r' x)] (x : α ⊕ β) : Mono (rSum r r' x) :=
  ⟨fun e h => by
    cases x with
    | inl x => exact (m x).mono e h
    | inr x => exact (m' x).mono e h⟩
instance (K : PySem.W.Frag) : EqR K (rSum rI rS) where
  toD x := match x with
    | .inl i => .int i
    | .inr l => .str (SX.S l)
  ok x := match x with
    | .inl _ => True
    | .inr l => ∀ c ∈ l, c < 1114112
  dep := 1
  dp {x} _ _ _ h s := by
    cases x with
    | inl i => cases (show _ = _ from h); exact .int _
    | inr l => cases (show _ = _ from h); exact .str _
  lay {x} h := by
    cases x with
    | inl i => rfl
    | inr l => exact (inferInstance : EqR K rS).lay h
  deep x := by cases x <;> (unfold PyData.depth; omega)
  eqv x y := by
    cases x <;> cases y <;> unfold PyData.eqv
    · simp [beq_iff_eq]
    · simp
    · simp
    · rw [SX.S_beq]
      simp [beq_iff_eq]
section
variable {X : Cx} {σ : L2.St} {G : Hp} {cs : Cells} {a b e : Expr} {pos p : Pos} {i j : Int}
theorem d_inl {α β : Type} {r : α → Hp → V → Prop} {r' : β → Hp → V → Prop} {x : α} (h : D X e σ G cs (r x)) : D X e σ G cs (rSum r r' (.inl x)) := h
theorem d_inr {α β : Type} {r : α → Hp → V → Prop} {r' : β → Hp → V → Prop} {x : β} (h : D X e σ G cs (r' x)) : D X e σ G cs (rSum r r' (.inr x)) := h
theorem Rs.to {α β : Type} {r : α → Hp → V → Prop} {r' : β → Hp → V → Prop} {f : α → β} {G : Hp} (h : ∀ x v, r x G v → r' (f x) G v) : ∀ {xs : List α} {vs : List V}, Rs r G xs vs → Rs r' G (xs.map f) vs
  | _, _, .nil => .nil
  | _, _, .cons q t => .cons (h _ _ q) (Rs.to h t)
/-- a list, each item told otherwise -/
theorem d_lmap {α β : Type} {r : α → Hp → V → Prop} {r' : β → Hp → V → Prop} (f : α → β) {xs : List α} (h : D X e σ G cs (rL X.K r xs)) (q : ∀ x G v, r x G v → r' (f x) G v) : D X e σ G cs (rL X.K r' (xs.map f)) :=
  h.imp fun G v ⟨l, vs, e1, e2, e3⟩ => ⟨l, vs, e1, e2, Rs.to (fun x v => q x G v) e3⟩

/-! ### what may be None, and is not -/
def oGet {α : Type} [Inhabited α] (o : Option α) : α := o.getD default
theorem oS1 {α : Type} {o : Option α} (h : (!o.isNone) = true) : o.isSome = true := by cases o <;> simp_all
theorem oS2 {α : Type} {o : Option α} (h : o.isNone = false) : o.isSome = true := by cases o <;> simp_all
theorem d_unO {α : Type} [Inhabited α] {r : α → Hp → V → Prop} {o : Option α} (h : D X e σ G cs (rO r o)) (hs : o.isSome = true) : D X e σ G cs (r (oGet o)) := by
  cases o with
  | none => cases hs
  | some x => exact h

/-! ### is of bools -/
theorem c_isB {H : Hp} {Q : VK} {i j : Bool} {x y : V} {G1 : Hp} (hx : rB i G1 x) (hy : rB j G1 y) (q : Q (.bl (decide (i = j))) H) : ∃ a b, x = .bl a ∧ y = .bl b ∧ Q (.bl (decide (a = b))) H := ⟨i, j, hx, hy, q⟩
theorem c_nisB {H : Hp} {Q : VK} {i j : Bool} {x y : V} {G1 : Hp} (hx : rB i G1 x) (hy : rB j G1 y) (q : Q (.bl (!decide (i = j))) H) : ∃ a b, x = .bl a ∧ y = .bl b ∧ Q (.bl (!decide (a = b))) H := ⟨i, j, hx, hy, q⟩

theorem d_isNN {jj : Nat} {p' : Pos} (ha : D X a σ G cs (rN ())) : D X (.Compare a [.Is] [.Constant .none jj p'] pos) σ G cs (rB true) :=
  d_cmp op_isN (nomark _) ha d_non fun G1 H x y s d hx hy Q q => ⟨hy, by cases (show x = V.non from hx); exact q⟩
theorem t_isNN {jj : Nat} {p' : Pos} (ha : D X a σ G cs (rN ())) : T X (.Compare a [.Is] [.Constant .none jj p'] pos) σ G cs true :=
  t_cmp op_isN (nomark _) ha d_non fun G1 H x y s d hx hy Q q => ⟨hy, by cases (show x = V.non from hx); exact q⟩
theorem d_notNN {jj : Nat} {p' : Pos} (ha : D X a σ G cs (rN ())) : D X (.Compare a [.IsNot] [.Constant .none jj p'] pos) σ G cs (rB false) :=
  d_cmp op_notN (nomark _) ha d_non fun G1 H x y s d hx hy Q q => ⟨hy, by cases (show x = V.non from hx); exact q⟩
theorem t_notNN {jj : Nat} {p' : Pos} (ha : D X a σ G cs (rN ())) : T X (.Compare a [.IsNot] [.Constant .none jj p'] pos) σ G cs false :=
  t_cmp op_notN (nomark _) ha d_non fun G1 H x y s d hx hy Q q => ⟨hy, by cases (show x = V.non from hx); exact q⟩

/-! ### x in xs -/
theorem inV_S (l : List Nat) : ∀ xs : List (List Nat), inV (.str (SX.S l)) (xs.map fun y => .str (SX.S y)) = decide (l ∈ xs)
  | [] => by simp [inV]
  | y :: xs => by
    have ih := inV_S l xs
    unfold inV at ih ⊢
    rw [List.map_cons, List.any_cons, ih]
    show (SX.S y == SX.S l || _) = _
    rw [SX.S_beq]
    by_cases h : y = l
    · subst h
      simp
    · have h2 : ¬ l = y := fun z => h z.symm
      simp [h, h2]
theorem inV_I (i : Int) : ∀ xs : List Int, inV (.int i) (xs.map V.int) = decide (i ∈ xs)
  | [] => by simp [inV]
  | y :: xs => by
    have ih := inV_I i xs
    unfold inV at ih ⊢
    rw [List.map_cons, List.any_cons, ih]
    show (y == i || _) = _
    by_cases h : y = i
    · subst h
      simp
    · have h2 : ¬ i = y := fun z => h z.symm
      simp [h, h2]
/-- items that `in` may ask -/
class InR {α : Type} [DecidableEq α] (r : α → Hp → V → Prop) where
  f : α → V
  is : ∀ {x G v}, r x G v → v = f x
  fl : ∀ x, flatV (f x) = true
  iv : ∀ (x : α) (xs : List α), inV (f x) (xs.map f) = decide (x ∈ xs)
instance : InR rS where
  f l := .str (SX.S l)
  is h := h
  fl _ := rfl
  iv x xs := (inV_S x xs).trans (decide_eq_decide.mpr Iff.rfl)
instance : InR rI where
  f := .int
  is h := h
  fl _ := rfl
  iv x xs := (inV_I x xs).trans (decide_eq_decide.mpr Iff.rfl)
theorem Rs.eqMap {α : Type} [DecidableEq α] {r : α → Hp → V → Prop} [q : InR r] {G : Hp} : ∀ {xs : List α} {vs : List V}, Rs r G xs vs → vs = xs.map q.f
  | _, _, .nil => rfl
  | _, _, .cons h t => by rw [List.map_cons, q.is h, Rs.eqMap t]
theorem allFlat {α : Type} [DecidableEq α] {r : α → Hp → V → Prop} [q : InR r] (xs : List α) : (xs.map q.f).all flatV = true := by
  rw [List.all_eq_true]
  intro v hv
  obtain ⟨x, _, rfl⟩ := List.mem_map.mp hv
  exact q.fl x
/-- readable as a row of items: a list or a tuple -/
def rRow (K : PySem.W.Frag) (cs : Cells) {α : Type} (r : α → Hp → V → Prop) (xs : List α) : Hp → V → Prop := fun G v => ∃ a vs, v = .ref a ∧ (∀ H, Desc G cs H → SqL K H a vs ∨ SqT K H a vs) ∧ Rs r G xs vs
theorem rRow_l {K : PySem.W.Frag} {cs : Cells} {α : Type} {r : α → Hp → V → Prop} {xs : List α} {G : Hp} {v : V} (h : rdL K cs r xs G v) : rRow K cs r xs G v := by
  obtain ⟨a, vs, e, h1, h2⟩ := h
  refine ⟨a, vs, e, fun H d => .inl ?_, h2⟩
  rcases h1 with h1 | h1
  · exact d.same.seq h1
  · exact SqL.of (d.at_ h1)
theorem rRow_t {K : PySem.W.Frag} {cs : Cells} {α : Type} {r : α → Hp → V → Prop} {xs : List α} {G : Hp} {v : V} (h : rU K r xs G v) : rRow K cs r xs G v := by
  obtain ⟨a, vs, e, h1, h2⟩ := h
  exact ⟨a, vs, e, fun H d => .inr (seqT d.same h1), h2⟩
section
/-- x among xs -/
def inB {α : Type} [DecidableEq α] (x : α) (xs : List α) : Bool := decide (x ∈ xs)
theorem inB_iff {α : Type} [DecidableEq α] {x : α} {xs : List α} : inB x xs = true ↔ x ∈ xs := decide_eq_true_iff
variable {α : Type} [DecidableEq α] {r : α → Hp → V → Prop} [q0 : InR r] [∀ x, Mono (r x)] {x : α} {xs : List α}
theorem d_in (ha : D X a σ G cs (r x)) (hb : D X b σ G cs (rRow X.K cs r xs)) (hm : behindInMarks .In b = false := by rfl) : D X (.Compare a [.In] [b] pos) σ G cs (rB (inB x xs)) :=
  d_cmp op_in_seq hm ha hb fun G1 H u w s d hu hw Q q => by
    obtain ⟨l, vs, rfl, h1, h2⟩ := hw
    rw [h2.eqMap] at h1
    rw [q0.is hu]
    refine ⟨l, _, rfl, h1 H d, q0.fl x, allFlat xs, ?_⟩
    rw [if_neg (by simp), q0.iv]
    exact q
theorem d_nin (ha : D X a σ G cs (r x)) (hb : D X b σ G cs (rRow X.K cs r xs)) (hm : behindInMarks .NotIn b = false := by rfl) : D X (.Compare a [.NotIn] [b] pos) σ G cs (rB (!inB x xs)) :=
  d_cmp op_notIn_seq hm ha hb fun G1 H u w s d hu hw Q q => by
    obtain ⟨l, vs, rfl, h1, h2⟩ := hw
    rw [h2.eqMap] at h1
    rw [q0.is hu]
    refine ⟨l, _, rfl, h1 H d, q0.fl x, allFlat xs, ?_⟩
    rw [if_pos rfl, q0.iv]
    exact q
theorem t_in (ha : D X a σ G cs (r x)) (hb : D X b σ G cs (rRow X.K cs r xs)) (hm : behindInMarks .In b = false := by rfl) : T X (.Compare a [.In] [b] pos) σ G cs (inB x xs) :=
  t_cmp op_in_seq hm ha hb fun G1 H u w s d hu hw Q q => by
    obtain ⟨l, vs, rfl, h1, h2⟩ := hw
    rw [h2.eqMap] at h1
    rw [q0.is hu]
    refine ⟨l, _, rfl, h1 H d, q0.fl x, allFlat xs, ?_⟩
    rw [if_neg (by simp), q0.iv]
    exact q
theorem t_nin (ha : D X a σ G cs (r x)) (hb : D X b σ G cs (rRow X.K cs r xs)) (hm : behindInMarks .NotIn b = false := by rfl) : T X (.Compare a [.NotIn] [b] pos) σ G cs (!inB x xs) :=
  t_cmp op_notIn_seq hm ha hb fun G1 H u w s d hu hw Q q => by
    obtain ⟨l, vs, rfl, h1, h2⟩ := hw
    rw [h2.eqMap] at h1
    rw [q0.is hu]
    refine ⟨l, _, rfl, h1 H d, q0.fl x, allFlat xs, ?_⟩
    rw [if_pos rfl, q0.iv]
    exact q
end

/-! ### isinstance(x, T), T built in -/
class HasTy {α : Type} (K : PySem.W.Frag) (r : α → Hp → V → Prop) (t : outParam String) : Prop where
  ty : ∀ {x G H v cs}, r x G v → Desc G cs H → TyX K H v (.type t)
instance (K : PySem.W.Frag) : HasTy K rI "int" := ⟨fun h _ => by cases h; exact .base (.int _)⟩
instance (K : PySem.W.Frag) : HasTy K rB "bool" := ⟨fun h _ => by cases h; exact .base (.bl _)⟩
instance (K : PySem.W.Frag) : HasTy K rS "str" := ⟨fun h _ => by cases h; exact .base (.str _)⟩
theorem ty_list {K : PySem.W.Frag} {H : Hp} {a : Addr} {vs : List V} (h : SqL K H a vs) : TyX K H (.ref a) (.type "list") := by
  rcases h with (h | ⟨o, h⟩) | ⟨o, _, _, h1, h2, _⟩
  · exact .base (.lst h)
  · exact .base (.frz h)
  · exact .kList h1 h2
theorem ty_tuple {K : PySem.W.Frag} {H : Hp} {a : Addr} {vs : List V} (h : SqT K H a vs) : TyX K H (.ref a) (.type "tuple") := by
  rcases h with (h | ⟨o, h⟩) | ⟨o, _, _, h1, h2, _⟩
  · exact .base (.tup h)
  · exact .fTuple h
  · exact .kTuple h1 h2
instance (K : PySem.W.Frag) {α : Type} (r : α → Hp → V → Prop) : HasTy K (rL K r) "list" := ⟨fun h d => by
  obtain ⟨a, vs, rfl, h1, h2⟩ := h
  exact ty_list (d.same.seq h1)⟩
instance (K : PySem.W.Frag) {α : Type} (r : α → Hp → List V → Prop) : HasTy K (rT K r) "tuple" := ⟨fun h d => by
  obtain ⟨a, vs, rfl, h1, h2⟩ := h
  exact ty_tuple (seqT d.same h1)⟩
theorem d_isi {α : Type} {r : α → Hp → V → Prop} {x : α} {t u : String} {y : Str} {k : Bool} {py : Pos} [h : HasTy X.K r t] [∀ x, Mono (r x)] (hm : X.mg "isinstance" = none) (hmy : X.mg y = none) (ha : D X a σ G cs (r x)) (hk : kitB t u = some k := by decide +kernel)
    (hy : bootBuiltins y = some (.type u) := by decide +kernel) (hg : Gl X "isinstance" := by rfl) (hgy : Gl X y := by rfl) (hny : y ≠ "__name__" := by decide) (hdy : (y == ("__debug__" : Str)) = false := by decide)
    (hst : starEach [a, .Name y py] X.env = (false, eval a X.env) :: starEach [.Name y py] X.env := by rfl) (hst2 : starEach [.Name y py] X.env = (false, eval (.Name y py) X.env) :: starEach [] X.env := by rfl)
    (hpl : (backTo pos (starEach [.Name y py] X.env)).any (·.1) = false := by rfl) : D X (.Call (.Name "isinstance" p) [a, .Name y py] [] pos) σ G cs (rB k) := by
  refine d_callB (Ps := aC (r x) (aC (rV (.ty u)) aN)) call_isi hm (a_cons ha (a_cons (P := rV (.ty u)) ?_ a_nil hst2) hst) (fun G1 H vs s d h1 Q q => ?_) hg (he := hst) (hpl := hpl)
  · exact d_by (pe_bltn hgy hmy hy (v := .ty u) rfl hny hdy) fun G1 H s d Q q => q G1 H _ (Same.refl _) d rfl
  · obtain ⟨v, w, rfl, hv, v2, w2, rfl, hv2, hw⟩ := h1
    cases (show w2 = [] from hw)
    cases (show v2 = V.ty u from hv2)
    exact ⟨_, _, _, _, k, rfl, .ty u, h.ty hv d, kit_ty hk, q G1 H _ (Same.refl _) d rfl⟩

/-! ### slices -/
def cutL {α : Type} (xs : List α) (lo hi : Option Int) : List α := (xs.drop (HT.sIx xs.length 0 lo)).take (HT.sIx xs.length xs.length hi - HT.sIx xs.length 0 lo)
theorem cutL_map {α β : Type} (f : α → β) (xs : List α) (lo hi : Option Int) : cutL (xs.map f) lo hi = (cutL xs lo hi).map f := by
  unfold cutL
  rw [List.length_map, List.map_take, List.map_drop]
theorem cutL_le {α : Type} (xs : List α) (lo hi : Option Int) : (cutL xs lo hi).length ≤ xs.length := by
  unfold cutL
  rw [List.length_take, List.length_drop]
  omega
theorem cutL_up {α : Type} (xs : List α) {n : Int} (h : 0 ≤ n) : cutL xs none (some n) = xs.take n.toNat := by
  unfold cutL
  rw [HT.sIx_none]
  show List.take (HT.sIx xs.length xs.length (some n) - 0) (List.drop 0 xs) = _
  have e : n = (n.toNat : Int) := by omega
  rw [e, HT.sIx_nat, Nat.sub_zero, List.drop_zero]
  show List.take (min n.toNat xs.length) xs = List.take n.toNat xs
  rw [List.take_eq_take_iff]
  omega
theorem cutL_from {α : Type} (xs : List α) {n : Int} (h : 0 ≤ n) : cutL xs (some n) none = xs.drop n.toNat := by
  unfold cutL
  rw [HT.sIx_none]
  have e : n = (n.toNat : Int) := by omega
  rw [e, HT.sIx_nat]
  show List.take (xs.length - min n.toNat xs.length) (List.drop (min n.toNat xs.length) xs) = List.drop n.toNat xs
  by_cases hl : n.toNat ≤ xs.length
  · rw [Nat.min_eq_left hl, List.take_of_length_le (by rw [List.length_drop]; omega)]
  · rw [Nat.min_eq_right (by omega), List.drop_of_length_le (Nat.le_refl _), List.drop_of_length_le (by omega), List.take_nil]
structure wO (X : Cx) (eo : Option Expr) (σ : L2.St) (H : Hp) (Q : Option Int → Hp → Prop) : Prop where
  run : ∀ pins s, Inv X pins σ H s → wpAny (model X.prog X.w) X.A (evalPart eo X.env) (fun u s' => ∃ o H', Inv X pins σ H' s' ∧ IsPart u o ∧ Q o H') X.xe s
/-- a slice's part -/
def DO (X : Cx) (eo : Option Expr) (σ : L2.St) (G : Hp) (cs : Cells) (o : Option Int) : Prop :=
  ∀ G1 H, Same G G1 → Desc G1 cs H → ∀ Q : Option Int → Hp → Prop, (∀ G2 H2, Same G1 G2 → Desc G2 cs H2 → Q o H2) → wO X eo σ H Q
theorem do_none : DO X none σ G cs none := fun G1 H s d Q q => ⟨fun pins s0 Iv => po_none.run pins s0 σ H Q Iv (q G1 H (Same.refl _) d)⟩
theorem do_some (h : D X e σ G cs (rI i)) : DO X (some e) σ G cs (some i) := fun G1 H s d Q q => ⟨fun pins s0 Iv => (po_some (sE X e)).run pins s0 σ H Q Iv (h G1 H s d _ fun G2 H2 v s2 d2 hv => ⟨i, hv, q G2 H2 s2 d2⟩)⟩
theorem sO (eo : Option Expr) : PO X eo (wO X eo) := ⟨fun pins s _ _ _ Iv h => h.run pins s Iv⟩
section
variable {lo hi : Option Expr} {l u : Option Int} {p2 : Pos}
theorem d_slS {z : List Nat} (ha : D X a σ G cs (rS z)) (hl : DO X lo σ G cs l) (hu : DO X hi σ G cs u) (hz : z.length ≤ sizeLine) : D X (.Subscript a (.Slice lo hi none p2) pos) σ G cs (rS (cutL z l u)) :=
  d_by (pe_slice sl_str (sE X a) (sO lo) (sO hi)) fun G1 H s d Q q => ha G1 H s d _ fun G2 H2 v s2 d2 hv => hl G2 H2 (s.trans s2) d2 _ fun G3 H3 s3 d3 => hu G3 H3 ((s.trans s2).trans s3) d3 _ fun G4 H4 s4 d4 => by
    refine ⟨SX.S z, hv, by rw [SX.S_len]; exact hz, ?_⟩
    have e : cutS (SX.S z) l u = SX.S (cutL z l u) := by
      unfold cutS cutL
      rw [SX.S_len]
    rw [e]
    exact q G4 H4 _ ((s2.trans s3).trans s4) d4 rfl
theorem rs_cut {α : Type} {r : α → Hp → V → Prop} {G : Hp} {xs : List α} {vs : List V} (h : Rs r G xs vs) (l u : Option Int) : Rs r G (cutL xs l u) (cutV vs l u) := by
  unfold cutL cutV
  rw [h.length]
  exact (h.drop _).take _
theorem n_slL {α : Type} {r : α → Hp → V → Prop} [∀ x, Mono (r x)] {xs : List α} (ha : D X a σ G cs (rdL X.K cs r xs)) (hl : DO X lo σ G cs l) (hu : DO X hi σ G cs u) : N X (.Subscript a (.Slice lo hi none p2) pos) σ G cs r (cutL xs l u) := fun G1 H s d Q q =>
  uE (pe_slice sl_list (sE X a) (sO lo) (sO hi)) (ha G1 H s d _ fun G2 H2 v s2 d2 hv => hl G2 H2 (s.trans s2) d2 _ fun G3 H3 s3 d3 => hu G3 H3 ((s.trans s2).trans s3) d3 _ fun G4 H4 s4 d4 => by
    obtain ⟨x, vs, e1, h1, h2⟩ := (Mono.mono (s3.trans s4) hv).sq d4
    exact ⟨x, vs, e1, h1, fun p hp => q G4 _ p _ ((s2.trans s3).trans s4) (d4.newCell hp _) (rs_cut h2 l u)⟩)
end
theorem d_upper {z : List Nat} {apos : Pos} (ha : D X a σ G cs (rS z)) (h : z.all (· < 128) = true) (hz : z.length ≤ 5592405) (hbase : attributeBase a "upper" X.env (eval a X.env) = eval a X.env := by rfl) (hline : (apos.endLine == pos.line) = true := by rfl) :
    D X (.Call (.Attribute a "upper" apos) [] [] pos) σ G cs (rS (z.map PyProof.Rows.up1)) :=
  d_by (pe_upper (sE X a) hbase hline) fun G1 H s d Q q => ha G1 H s d _ fun G2 H2 v s2 d2 hv => ⟨⟨SX.S z, hv⟩, SX.S z, hv, rfl, by rw [SX.S_len]; exact hz, by rw [SX.upper_S h]; exact q G2 H2 _ s2 d2 rfl⟩

/-! ### tuples of the module -/
theorem d_ixU {α : Type} {r : α → Hp → V → Prop} [∀ x, Mono (r x)] {xs : List α} {x : α} (ha : D X a σ G cs (rU X.K r xs)) (hb : D X b σ G cs (rI i)) (hx : atI xs i = some x) (hs : PlainIx b := by exact fun _ _ => rfl) : D X (.Subscript a b pos) σ G cs (r x) :=
  d_by (pe_ix ix_tup (sE X a) (sE X b) hs) fun G1 H s d Q q => ha G1 H s d _ fun G2 H2 u s2 d2 hu => hb G2 H2 (s.trans s2) d2 _ fun G3 H3 y s3 d3 hy => by
    obtain ⟨l, vs, e, hl, hr⟩ := Mono.mono s3 hu
    obtain ⟨v, hv, hp⟩ := atI_rs hr hx
    exact ⟨l, vs, i, v, e, hy, seqT d3.same hl, hv, q G3 H3 v (s2.trans s3) d3 hp⟩
/-- a name of the module that tells data -/
def GlobR (mg : Str → Option Value) (x : Str) (P : Hp → V → Prop) : Prop := ∃ v u, mg x = some u ∧ RelV v u ∧ ∀ G, P G v
theorem d_globR {x : Str} {P : Hp → V → Prop} (h : GlobR X.mg x P) (hg : Gl X x := by rfl) (hd : (x == ("__debug__" : Str)) = false := by decide) : D X (.Name x pos) σ G cs P := by
  obtain ⟨v, u, hm, hr, hp⟩ := h
  exact d_by (pe_glob hg hm hr hd) fun G1 H s d Q q => q G1 H v (Same.refl _) d (hp G1)
theorem globT {K : PySem.W.Frag} {mg : Str → Option Value} {x : Str} {α : Type} {r : α → Hp → V → Prop} {xs : List α} {vs : List V} {a : Addr} {dd : Option Addr} {us : List Value} {n : Nat} {sl : Array (Option Value)} (hm : mg x = some (.ref a)) (hk : K.lookup a = some ⟨.type "tuple", dd, .seq us.toArray n, sl⟩)
    (hv : Vals vs us) (hl : us.length ≤ sizeLine) (hr : ∀ G, Rs r G xs vs) : GlobR mg x (rU K r xs) :=
  ⟨.ref a, _, hm, rfl, fun G => ⟨a, vs, rfl, .inr ⟨_, us.toArray, n, hk, rfl, rfl, by rw [List.size_toArray]; exact hl, by simpa using hv⟩, hr G⟩⟩
end
end J

namespace J
/-! the numbers that a law draws of a cell: every law's own mirror of them is this one, by rfl -/
def numStep (c : Int) (z : Int × List Int) (x : Int) : Out Empty (Int × List Int) (Int × List Int) (List Int) :=
  if (decide (0 < z.1)) = true then (letV (z.2 ++ [(z.1 % 10000000000000)]) fun ns => letV (z.1 / 10000000000000) fun r => .nx (r, ns))
  else (letV ((((c * 48271) + (x * 69621)) + 1013) % 2147483647) fun m => letV ((((m * m) + (8191 * x)) + 77) % 2147483629) fun m2 =>
    letV (z.2 ++ [(((((m2 * m2) + m2) % 2147483587) * 4001) + x)]) fun ns => .nx (z.1, ns))
def numsOf (c : Int) (n : Int) : List Int :=
  Out.val (letV 0 fun r => (if (decide (1000000000000000000 ≤ c)) = true then (letV (c / 1000000000000000000) fun r => .nx (r)) else (.nx (r)) : Out Empty (Int) Empty (List Int)).bind fun z =>
    letV ([] : (List Int)) fun ns => (forL (numStep c) (z, ns) (rng 0 n)).bind fun z => .rt z.2)
theorem numsOf_is (c n : Int) : ∃ r s, numsOf c n = s.2 ∧ (forL (numStep c) (r, []) (rng 0 n) : Out Empty _ Empty (List Int)) = .nx s ∧ (∀ (P : Nat → Int × List Int → Prop), (∀ r, P 0 (r, [])) → (∀ k s x, x ∈ rng 0 n → P k s → ∃ s', numStep c s x = .nx s' ∧ P (k + 1) s') → P (rng 0 n).length s) := by
  have key : ∀ r : Int, ∃ s, (forL (numStep c) (r, []) (rng 0 n) : Out Empty _ Empty (List Int)) = .nx s ∧ (∀ (P : Nat → Int × List Int → Prop), (∀ r, P 0 (r, [])) → (∀ k s x, x ∈ rng 0 n → P k s → ∃ s', numStep c s x = .nx s' ∧ P (k + 1) s') → P (rng 0 n).length s) := fun r => by
    obtain ⟨s, e, _⟩ := forL_inv (ε := Empty) (L := Empty) (f := numStep c) (xs := rng 0 n) (s := (r, [])) (n := 0) (fun _ _ => True) trivial fun k s x hx _ => by
      unfold numStep letV
      by_cases hc : 0 < s.1
      · exact ⟨_, by rw [decide_eq_true hc]; rfl, trivial⟩
      · exact ⟨_, by rw [decide_eq_false hc]; rfl, trivial⟩
    refine ⟨s, e, fun P h0 hs => ?_⟩
    obtain ⟨s2, e2, h2⟩ := forL_inv (ε := Empty) (L := Empty) (f := numStep c) (xs := rng 0 n) (s := (r, [])) (n := 0) P (h0 r) hs
    rw [e] at e2
    cases e2
    rw [Nat.zero_add] at h2
    exact h2
  unfold numsOf letV
  by_cases hc : 1000000000000000000 ≤ c
  · rw [decide_eq_true hc]
    obtain ⟨s, e, hl⟩ := key (c / 1000000000000000000)
    refine ⟨_, s, ?_, e, hl⟩
    show Out.val (Out.bind (forL (numStep c) (c / 1000000000000000000, []) (rng 0 n)) fun z => .rt z.2) = _
    rw [e]
    rfl
  · rw [decide_eq_false hc]
    obtain ⟨s, e, hl⟩ := key 0
    refine ⟨_, s, ?_, e, hl⟩
    show Out.val (Out.bind (forL (numStep c) (0, []) (rng 0 n)) fun z => .rt z.2) = _
    rw [e]
    rfl
theorem numsOf_length (c : Int) {n : Int} (h : 0 ≤ n) : (numsOf c n).length = n.toNat := by
  obtain ⟨r, s, e, _, hp⟩ := numsOf_is c n
  rw [e, hp (fun k s => s.2.length = k) (fun _ => rfl) (fun k s x hx hk => by
    unfold numStep letV
    by_cases hc : 0 < s.1
    · exact ⟨_, by rw [decide_eq_true hc]; rfl, by simp [hk]⟩
    · exact ⟨_, by rw [decide_eq_false hc]; rfl, by simp [hk]⟩), rng_length]
  omega
theorem numsOf_bd (c : Int) {n : Int} (h : n ≤ 1000) : ∀ x ∈ numsOf c n, 0 ≤ x ∧ x < 10000000000000 := by
  obtain ⟨r, s, e, _, hp⟩ := numsOf_is c n
  rw [e]
  refine hp (fun _ s => ∀ x ∈ s.2, 0 ≤ x ∧ x < 10000000000000) (fun _ x hx => by simp at hx) (fun k s x hx hk => ?_)
  unfold numStep letV
  have hk0 := rng_mem.mp hx
  by_cases hc : 0 < s.1
  · refine ⟨_, by rw [decide_eq_true hc]; rfl, fun y hy => ?_⟩
    rcases List.mem_append.mp hy with hy | hy
    · exact hk y hy
    · have e := List.mem_singleton.mp hy
      rw [e]
      omega
  · refine ⟨_, by rw [decide_eq_false hc]; rfl, fun y hy => ?_⟩
    rcases List.mem_append.mp hy with hy | hy
    · exact hk y hy
    · have e := List.mem_singleton.mp hy
      rw [e]
      generalize ((c * 48271 + x * 69621 + 1013) % 2147483647 * ((c * 48271 + x * 69621 + 1013) % 2147483647) + 8191 * x + 77) % 2147483629 = m
      generalize m * m + m = q
      omega
/-- what a law may count on of its numbers -/
structure Nums (n : Nat) (xs : List Int) : Prop where
  len : xs.length = n
  mem : ∀ x ∈ xs, 0 ≤ x ∧ x < 10000000000000
theorem nums (c : Int) (n : Nat) (h : n ≤ 1000 := by decide) : Nums n (numsOf c (n : Int)) := ⟨by rw [numsOf_length c (by omega)]; omega, numsOf_bd c (by omega)⟩
theorem Nums.bd {n : Nat} {xs : List Int} (h : Nums n xs) (i : Int) : 0 ≤ ixg xs i ∧ ixg xs i < 10000000000000 := by
  unfold ixg
  cases e : L2.atI xs i with
  | none => exact ⟨by decide, by decide⟩
  | some x =>
    refine h.mem x ?_
    have e2 : ((L2.ixN xs.length i).bind fun j => xs[j]?) = some x := e
    obtain ⟨j, _, hj⟩ := Option.bind_eq_some_iff.mp e2
    exact List.mem_of_getElem? hj
end J

namespace J
open PySem L2
/-- the turns n are enough -/
def Ends {ε S R : Type} (c : S → Bool) (f : S → Out ε S S R) : Nat → S → Prop
  | 0, s => c s = false
  | n + 1, s => c s = true → ∀ s', (f s = .nx s' ∨ f s = .ct s') → Ends c f n s'
theorem whileN_false {ε S L R : Type} {c : S → Bool} {f : S → Out ε S S R} {n : Nat} {s : S} (h : c s = false) : (whileN c f n s : Out ε S L R) = .nx s := by
  cases n with
  | zero => rfl
  | succ n =>
    unfold whileN
    rw [h]
    rfl
theorem whileN_true {ε S L R : Type} {c : S → Bool} {f : S → Out ε S S R} {n : Nat} {s : S} (h : c s = true) : (whileN c f (n + 1) s : Out ε S L R) = (match f s with
    | .nx s' => whileN c f n s'
    | .ct s' => whileN c f n s'
    | .bk s' => .nx s'
    | .rt r => .rt r
    | .er e => .er e) := by
  conv => lhs; unfold whileN
  rw [h]
  rfl
theorem while_out {ε S L R : Type} {c : S → Bool} {f : S → Out ε S S R} {z : S} (hb : ∀ s s', f s ≠ .bk s') : ∀ {n : Nat} {s : S}, Ends c f n s → (whileN c f n s : Out ε S L R) = .nx z → c z = false
  | 0, s, he, h => by
    have e : s = z := Out.nx.inj h
    rw [← e]
    exact he
  | n + 1, s, he, h => by
    cases hc : c s with
    | false =>
      rw [whileN_false hc] at h
      have e : s = z := Out.nx.inj h
      rw [← e]
      exact hc
    | true =>
      rw [whileN_true hc] at h
      cases hm : f s with
      | nx s' =>
        rw [hm] at h
        exact while_out hb (he hc s' (.inl hm)) h
      | ct s' =>
        rw [hm] at h
        exact while_out hb (he hc s' (.inr hm)) h
      | bk s' => exact absurd hm (hb s s')
      | rt r =>
        rw [hm] at h
        cases h
      | er e =>
        rw [hm] at h
        cases h
theorem while_run {ε S L R : Type} {c : S → Bool} {f : S → Out ε S S R} (I : S → Prop) (hs : ∀ s, I s → c s = true → ∃ s', f s = .nx s' ∧ I s') : ∀ {n : Nat} {s : S}, Ends c f n s → I s → ∃ z, (whileN c f n s : Out ε S L R) = .nx z ∧ I z ∧ c z = false
  | 0, s, he, hi => ⟨s, rfl, hi, he⟩
  | n + 1, s, he, hi => by
    cases hc : c s with
    | false => exact ⟨s, whileN_false hc, hi, hc⟩
    | true =>
      obtain ⟨s', h1, h2⟩ := hs s hi hc
      obtain ⟨z, h3, h4⟩ := while_run (L := L) I hs (he hc s' (.inl h1)) h2
      exact ⟨z, by rw [whileN_true hc, h1]; exact h3, h4⟩
theorem ends_by {ε S R : Type} {c : S → Bool} {f : S → Out ε S S R} (I : S → Prop) (μ : S → Nat) (hs : ∀ s, I s → c s = true → 0 < μ s ∧ ∀ s', (f s = .nx s' ∨ f s = .ct s') → I s' ∧ μ s' < μ s) : ∀ {n : Nat} {s : S}, I s → μ s ≤ n → Ends c f n s
  | 0, s, hi, hm => by
    show c s = false
    cases hc : c s with
    | false => rfl
    | true =>
      have := (hs s hi hc).1
      omega
  | n + 1, s, hi, hm => fun hc s' h => by
    obtain ⟨h1, h2⟩ := (hs s hi hc).2 s' h
    exact ends_by I μ hs h1 (by omega)
section
variable {ε S L R S1 : Type} {X : Cx} {W : ε → L2.St → Hp → Prop} {σ : L2.St} {G : Hp} {cs : Cells} {Φ : Po ε S L R} {rest body : List Stmt} {c : Expr} {pos : Pos}
theorem b_while {cond : S1 → Bool} {f : S1 → Out ε S1 S1 R} {g : S1 → Out ε S L R} {n : Nat} {s0 : S1} (N : S1 → L2.St → Hp → Cells → Prop) (hp : PassesOwn (model X.prog X.w) X.A X.env X.xe)
    (h0 : ∀ G1, Same G G1 → N s0 σ G1 cs) (hc : ∀ s σ1 G1 cs1, Same G G1 → N s σ1 G1 cs1 → T X c σ1 G1 cs1 (cond s))
    (hb : ∀ s σ1 G0 G1 cs1, Same G G0 → N s σ1 G0 cs1 → Same G0 G1 → cond s = true → B X W body σ1 G1 cs1 { nx := N, lp := N, rt := Φ.rt, er := Φ.er } (f s))
    (he : Ends cond f n s0)
    (hr : ∀ s σ1 G0 G1 cs1, Same G G0 → N s σ1 G0 cs1 → Same G0 G1 → (whileN cond f n s0 : Out ε S1 L R) = .nx s → B X W rest σ1 G1 cs1 Φ (g s)) : B X W (.While c body [] pos :: rest) σ G cs Φ ((whileN cond f n s0).bind g) := by
  refine b_cons (ps_while hp (sT X c) (sSs X body)) fun H d E w => ?_
  refine ⟨fun k σ1 H1 => ∃ s G1 cs1, Same G G1 ∧ Desc G1 cs1 H1 ∧ N s σ1 G1 cs1 ∧ Ends cond f k s ∧ (whileN cond f k s : Out ε S1 L R) = whileN cond f n s0, ⟨n, s0, G, cs, Same.refl _, d, h0 G (Same.refl _), he, rfl⟩, ?_⟩
  rintro k σ1 H1 ⟨s, G1, cs1, s1, d1, hN, en, eq⟩
  refine hc s σ1 G1 cs1 s1 hN G1 H1 (Same.refl _) d1 _ fun G2 H2 s2 d2 => ?_
  have sG : Same G G2 := s1.trans s2
  cases hk : cond s with
  | false =>
    rw [whileN_false hk] at eq
    rw [if_neg Bool.false_ne_true]
    rw [← eq] at w
    exact hr s σ1 G1 G2 cs1 s1 hN s2 eq.symm H2 d2 E (Wish.up (show Wish W G Φ E (g s) from w) sG)
  | true =>
    rw [if_pos rfl]
    cases k with
    | zero =>
      have : cond s = false := en
      rw [hk] at this
      cases this
    | succ k =>
      rw [whileN_true hk] at eq
      refine ⟨fun σ' H' => ∃ m', m' < k + 1 ∧ ∃ s G1 cs1, Same G G1 ∧ Desc G1 cs1 H' ∧ N s σ' G1 cs1 ∧ Ends cond f m' s ∧ (whileN cond f m' s : Out ε S1 L R) = whileN cond f n s0, fun σ' H' h => h, ?_⟩
      refine hb s σ1 G1 G2 cs1 s1 hN s2 hk H2 d2 _ ?_
      cases hm : f s with
      | nx s' => exact fun σ4 G4 cs4 H4 s4 d4 p4 => ⟨k, Nat.lt_succ_self k, s', G4, cs4, sG.trans s4, d4, p4, en hk s' (.inl hm), by rw [hm] at eq; exact eq⟩
      | ct s' => exact fun σ4 G4 cs4 H4 s4 d4 p4 => ⟨k, Nat.lt_succ_self k, s', G4, cs4, sG.trans s4, d4, p4, en hk s' (.inr hm), by rw [hm] at eq; exact eq⟩
      | bk s' =>
        rw [hm] at eq
        rw [← eq] at w
        exact fun σ4 G4 cs4 H4 s4 d4 p4 => hr s' σ4 G4 G4 cs4 (sG.trans s4) p4 (Same.refl _) eq.symm H4 d4 E (Wish.up (show Wish W G Φ E (g s') from w) (sG.trans s4))
      | rt r =>
        rw [hm] at eq
        rw [← eq] at w
        exact fun v4 G4 cs4 H4 s4 d4 p4 => w v4 G4 cs4 H4 (sG.trans s4) d4 p4
      | er e =>
        rw [hm] at eq
        rw [← eq] at w
        exact fun σ4 G4 cs4 H4 s4 d4 p4 => w σ4 G4 cs4 H4 (sG.trans s4) d4 p4
end
/-! ### tuples of one kind of items -/
class HomT {α : Type} {β : outParam Type} (r : α → Hp → List V → Prop) (q : outParam (β → Hp → V → Prop)) where
  toL : α → List β
  rs : ∀ {x G vs}, r x G vs → Rs q G (toL x) vs
instance {β : Type} (q : β → Hp → V → Prop) : HomT (c0 q) q where
  toL x := [x]
  rs := fun ⟨_, e, h⟩ => by
    rw [e]
    exact .cons h .nil
instance {α β : Type} (q : β → Hp → V → Prop) (r : α → Hp → List V → Prop) [h : HomT r q] : HomT (cc q r) q where
  toL x := x.1 :: h.toL x.2
  rs := fun ⟨_, _, e, h1, h2⟩ => by
    rw [e]
    exact .cons h1 (h.rs h2)
class LenT {α : Type} (r : α → Hp → List V → Prop) (n : outParam Nat) : Prop where
  len : ∀ {x G vs}, r x G vs → vs.length = n
instance {β : Type} (q : β → Hp → V → Prop) : LenT (c0 q) 1 := ⟨fun ⟨_, e, _⟩ => by rw [e]; rfl⟩
instance {α β : Type} (q : β → Hp → V → Prop) (r : α → Hp → List V → Prop) {n : Nat} [h : LenT r n] : LenT (cc q r) (n + 1) := ⟨fun ⟨_, _, e, _, h2⟩ => by rw [e, List.length_cons, h.len h2]⟩
section
variable {X : Cx} {σ : L2.St} {G : Hp} {cs : Cells} {a : Expr} {pos p : Pos}
theorem d_homT {α β : Type} {r : α → Hp → List V → Prop} {q : β → Hp → V → Prop} [h : HomT r q] {x : α} (ha : D X a σ G cs (rT X.K r x)) : D X a σ G cs (rU X.K q (h.toL x)) := ha.imp fun G v ⟨l, vs, e, hl, hr⟩ => ⟨l, vs, e, hl, h.rs hr⟩
theorem d_lenT {α : Type} {r : α → Hp → List V → Prop} {n : Nat} [h : LenT r n] [∀ x, MonoA (r x)] {y : α} {x : Str} (hm : X.mg x = none) (ha : D X a σ G cs (rT X.K r y)) (hg : Gl X x := by rfl) (hv : bootBuiltins x = some (.builtin "len") := by first | exact PySem.boot_len | decide +kernel) (hn : x ≠ "__name__" := by decide) (hd : (x == ("__debug__" : Str)) = false := by decide)
    (he : starEach [a] X.env = (false, eval a X.env) :: starEach [] X.env := by rfl) (hpl : (backTo pos (starEach [] X.env)).any (·.1) = false := by rfl) : D X (.Call (.Name x p) [a] [] pos) σ G cs (rI (n : Int)) :=
  d_callB call_len hm (a_cons ha a_nil he) (fun G1 H vs s d hvs Q q => by
    obtain ⟨v, ws, e1, h1, h2⟩ := hvs
    cases h2
    obtain ⟨l, us, e, hl, hr⟩ := h1
    subst e
    exact ⟨_, n, e1, .inr ⟨us, seqT d.same hl, (h.len hr).symm⟩, q G1 H _ (Same.refl _) d rfl⟩) hg hv hn hd he hpl
end
end J

namespace J
open PySem L2 PyProof.Rows
section
variable {X : Cx} {σ : L2.St} {G : Hp} {cs : Cells} {a b e : Expr} {pos p : Pos}
theorem d_intB {x : Str} {k : Bool} (hm : X.mg x = none) (ha : D X a σ G cs (rB k)) (hg : Gl X x := by rfl) (hv : bootBuiltins x = some (.type "int") := by decide +kernel) (hn : x ≠ "__name__" := by decide) (hd : (x == ("__debug__" : Str)) = false := by decide)
    (he : starEach [a] X.env = (false, eval a X.env) :: starEach [] X.env := by rfl) (hpl : (backTo pos (starEach [] X.env)).any (·.1) = false := by rfl) : D X (.Call (.Name x p) [a] [] pos) σ G cs (rI (if k then 1 else 0)) :=
  d_callTy call_int1 hm (a_cons ha a_nil he) (fun G1 H vs s d hvs Q q => by
    obtain ⟨v, ws, e1, h1, h2⟩ := hvs
    cases h2
    cases h1
    exact .inr ⟨k, e1, q G1 H _ (Same.refl _) d rfl⟩) hg hv hn hd he hpl
/-! ### isinstance of one of two kinds -/
def kSum {α β : Type} (k k' : Bool) : α ⊕ β → Bool
  | .inl _ => k
  | .inr _ => k'
theorem d_isiS {α β : Type} {r : α → Hp → V → Prop} {r' : β → Hp → V → Prop} {x : α ⊕ β} {t t' u : String} {y : Str} {k k' : Bool} {py : Pos} [h : HasTy X.K r t] [h' : HasTy X.K r' t'] [∀ x, Mono (r x)] [∀ x, Mono (r' x)] (hm : X.mg "isinstance" = none) (hmy : X.mg y = none) (ha : D X a σ G cs (rSum r r' x)) (hk : kitB t u = some k := by decide +kernel) (hk' : kitB t' u = some k' := by decide +kernel)
    (hy : bootBuiltins y = some (.type u) := by decide +kernel) (hg : Gl X "isinstance" := by rfl) (hgy : Gl X y := by rfl) (hny : y ≠ "__name__" := by decide) (hdy : (y == ("__debug__" : Str)) = false := by decide)
    (hst : starEach [a, .Name y py] X.env = (false, eval a X.env) :: starEach [.Name y py] X.env := by rfl) (hst2 : starEach [.Name y py] X.env = (false, eval (.Name y py) X.env) :: starEach [] X.env := by rfl)
    (hpl : (backTo pos (starEach [.Name y py] X.env)).any (·.1) = false := by rfl) : D X (.Call (.Name "isinstance" p) [a, .Name y py] [] pos) σ G cs (rB (kSum k k' x)) := by
  cases x with
  | inl x => exact d_isi (r := r) (x := x) hm hmy ha hk hy hg hgy hny hdy hst hst2 hpl
  | inr x => exact d_isi (r := r') (x := x) hm hmy ha hk' hy hg hgy hny hdy hst hst2 hpl
/-! ### two kinds that are never equal -/
class NeR {α β : Type} (K : PySem.W.Frag) (r : α → Hp → V → Prop) (r' : β → Hp → V → Prop) [q : EqR K r] [q' : EqR K r'] : Prop where
  ne : ∀ x y, PyData.eqv (q.toD x) (q'.toD y) = false ∧ PyData.eqv (q'.toD y) (q.toD x) = false
instance (K : PySem.W.Frag) : NeR K rB rS := ⟨fun x y => by constructor <;> (show PyData.eqv _ _ = false; unfold PyData.eqv; rfl)⟩
instance (K : PySem.W.Frag) {α : Type} (r : α → Hp → V → Prop) [EqR K r] : NeR K rB (rL K r) := ⟨fun x y => by constructor <;> (show PyData.eqv _ _ = false; unfold PyData.eqv; rfl)⟩
instance (K : PySem.W.Frag) {α : Type} (r : α → Hp → V → Prop) [EqR K r] : NeR K rI (rL K r) := ⟨fun x y => by constructor <;> (show PyData.eqv _ _ = false; unfold PyData.eqv; rfl)⟩
instance (K : PySem.W.Frag) {α : Type} (r : α → Hp → V → Prop) [EqR K r] : NeR K rS (rL K r) := ⟨fun x y => by constructor <;> (show PyData.eqv _ _ = false; unfold PyData.eqv; rfl)⟩
instance (K : PySem.W.Frag) {α β : Type} (r : α → Hp → V → Prop) (r' : β → Hp → V → Prop) [q : EqR K r] [q' : EqR K r'] [n : NeR K r r'] : EqR K (rSum r r') where
  toD x := match x with
    | .inl i => q.toD i
    | .inr l => q'.toD l
  ok x := match x with
    | .inl i => q.ok i
    | .inr l => q'.ok l
  dep := max q.dep q'.dep
  dp {x} _ _ _ h s := by
    cases x with
    | inl i => exact q.dp h s
    | inr l => exact q'.dp h s
  lay {x} h := by
    cases x with
    | inl i => exact q.lay h
    | inr l => exact q'.lay h
  deep x := by
    cases x with
    | inl i => exact Nat.le_trans (q.deep i) (Nat.le_max_left _ _)
    | inr l => exact Nat.le_trans (q'.deep l) (Nat.le_max_right _ _)
  eqv x y := by
    cases x with
    | inl x =>
      cases y with
      | inl y => exact (q.eqv x y).trans ⟨fun h => by rw [h], fun h => by cases h; rfl⟩
      | inr y => exact ⟨fun h => (by rw [(n.ne x y).1] at h; cases h), fun h => nomatch h⟩
    | inr x =>
      cases y with
      | inl y => exact ⟨fun h => (by rw [(n.ne y x).2] at h; cases h), fun h => nomatch h⟩
      | inr y => exact (q'.eqv x y).trans ⟨fun h => by rw [h], fun h => by cases h; rfl⟩
/-! ### order of data -/
def rCmpD (K : PySem.W.Frag) (f : PyData → PyData → Bool) : R2 := fun x y H Q => ∃ d e, Dp K H x d ∧ Dp K H y e ∧ PySem.W.alike d e = true ∧ d ≠ .none ∧ d.depth ≤ 64 ∧ Q (.bl (f d e)) H
theorem op_ltD (hu : X.A.units + 64 < cLine) : OpR X (compareOp .Lt) (rCmpD X.K fun d e => PySem.W.dataLt d e) := by
  intro pins s σ H x y v u Q I rx ry h
  obtain ⟨d, e, hd, he, ha, hn, hz, q⟩ := h
  obtain ⟨as, r1⟩ := Dp.reads I d x v hd rx
  obtain ⟨bs, r2⟩ := Dp.reads I e y u he ry
  exact PySem.W.lt_data r1 r2 ha hn (by omega) ⟨.bl _, H, I, rfl, q⟩
theorem op_gtD (hu : X.A.units + 64 < cLine) : OpR X (compareOp .Gt) (rCmpD X.K fun d e => PySem.W.dataLt e d) := by
  intro pins s σ H x y v u Q I rx ry h
  obtain ⟨d, e, hd, he, ha, hn, hz, q⟩ := h
  obtain ⟨as, r1⟩ := Dp.reads I d x v hd rx
  obtain ⟨bs, r2⟩ := Dp.reads I e y u he ry
  exact PySem.W.gt_data r1 r2 ha hn (by omega) ⟨.bl _, H, I, rfl, q⟩
theorem op_leD (hu : X.A.units + 64 < cLine) : OpR X (compareOp .LtE) (rCmpD X.K fun d e => !PySem.W.dataLt e d) := by
  intro pins s σ H x y v u Q I rx ry h
  obtain ⟨d, e, hd, he, ha, hn, hz, q⟩ := h
  obtain ⟨as, r1⟩ := Dp.reads I d x v hd rx
  obtain ⟨bs, r2⟩ := Dp.reads I e y u he ry
  exact PySem.W.le_data r1 r2 ha hn (by omega) ⟨.bl _, H, I, rfl, q⟩
theorem op_geD (hu : X.A.units + 64 < cLine) : OpR X (compareOp .GtE) (rCmpD X.K fun d e => !PySem.W.dataLt d e) := by
  intro pins s σ H x y v u Q I rx ry h
  obtain ⟨d, e, hd, he, ha, hn, hz, q⟩ := h
  obtain ⟨as, r1⟩ := Dp.reads I d x v hd rx
  obtain ⟨bs, r2⟩ := Dp.reads I e y u he ry
  exact PySem.W.ge_data r1 r2 ha hn (by omega) ⟨.bl _, H, I, rfl, q⟩
end
theorem rm64 {k : Nat} {A : Around} (hr : Room k A) : A.units + 64 < cLine := Nat.lt_of_le_of_lt (by omega) hr.un
/-- order of plain data: any two of a kind are alike -/
class OrdR {α : Type} (K : PySem.W.Frag) (r : α → Hp → V → Prop) where
  toD : α → PyData
  dep : Nat
  dp : ∀ {x G H v}, r x G v → Same G H → Dp K H v (toD x)
  alike : ∀ x y, PySem.W.alike (toD x) (toD y) = true
  nn : ∀ x, toD x ≠ .none
  deep : ∀ x, (toD x).depth ≤ dep
instance (K : PySem.W.Frag) : OrdR K rI where
  toD := .int
  dep := 1
  dp h _ := by cases h; exact .int _
  alike _ _ := by unfold PySem.W.alike; rfl
  nn _ h := nomatch h
  deep x := by unfold PyData.depth; omega
/-- of lists of whole numbers: the first one that differs, or the shorter one -/
def ltI (xs ys : List Int) : Bool := PySem.W.dataLt (.list (xs.map .int)) (.list (ys.map .int))
theorem alikeInts : ∀ xs ys : List Int, PySem.W.alikeAll (xs.map .int) (ys.map .int) = true
  | [], ys => by rw [List.map_nil]; unfold PySem.W.alikeAll; rfl
  | x :: xs, [] => by rw [List.map_nil, List.map_cons]; unfold PySem.W.alikeAll; rfl
  | x :: xs, y :: ys => by
    rw [List.map_cons, List.map_cons]
    unfold PySem.W.alikeAll PySem.W.alike
    rw [alikeInts xs ys]
    rfl
section
variable {X : Cx} {σ : L2.St} {G : Hp} {cs : Cells} {a b e : Expr} {pos p : Pos} {xs ys : List Int} {G1 H : Hp} {x y : V} {Q : VK}
theorem c_ints {f : PyData → PyData → Bool} (hx : rL X.K rI xs G1 x) (hy : rL X.K rI ys G1 y) (s : Same G1 H) (q : Q (.bl (f (.list (xs.map .int)) (.list (ys.map .int)))) H) : rCmpD X.K f x y H Q := by
  have d1 := (inferInstance : EqR X.K (rL X.K rI)).dp hx s
  have d2 := (inferInstance : EqR X.K (rL X.K rI)).dp hy s
  refine ⟨.list (xs.map .int), .list (ys.map .int), d1, d2, ?_, fun z => (by cases z), ?_, q⟩
  · unfold PySem.W.alike
    exact alikeInts xs ys
  · have := (inferInstance : EqR X.K (rL X.K rI)).deep xs
    exact Nat.le_trans this (by exact Nat.le_of_ble_eq_true rfl)
/-- a list all of whose items are of the first kind -/
def unL {α β : Type} [Inhabited α] (x : α ⊕ β) : α := match x with
  | .inl y => y
  | .inr _ => default
def isL {α β : Type} (x : α ⊕ β) : Bool := match x with
  | .inl _ => true
  | .inr _ => false
theorem rs_unL {α β : Type} [Inhabited α] {r : α → Hp → V → Prop} {r' : β → Hp → V → Prop} : ∀ {xs : List (α ⊕ β)} {vs : List V}, xs.all isL = true → Rs (rSum r r') G xs vs → Rs r G (xs.map unL) vs
  | _, _, _, .nil => .nil
  | x :: _, _, ha, .cons h t => by
    rw [List.all_cons, Bool.and_eq_true] at ha
    cases x with
    | inl x => exact .cons h (rs_unL ha.2 t)
    | inr x => cases ha.1
theorem d_unL {α β : Type} [Inhabited α] {r : α → Hp → V → Prop} {r' : β → Hp → V → Prop} {xs : List (α ⊕ β)} (ha : D X a σ G cs (rL X.K (rSum r r') xs)) (h : xs.all isL = true) : D X a σ G cs (rL X.K r (xs.map unL)) :=
  ha.imp fun G v ⟨l, vs, e, hl, hr⟩ => ⟨l, vs, e, hl, rs_unL h hr⟩
def unR {α β : Type} [Inhabited β] (x : α ⊕ β) : β := match x with
  | .inl _ => default
  | .inr y => y
def isR {α β : Type} (x : α ⊕ β) : Bool := match x with
  | .inl _ => false
  | .inr _ => true
theorem d_unl {α β : Type} [Inhabited α] {r : α → Hp → V → Prop} {r' : β → Hp → V → Prop} {x : α ⊕ β} (ha : D X a σ G cs (rSum r r' x)) (h : isL x = true) : D X a σ G cs (r (unL x)) := by
  cases x with
  | inl x => exact ha
  | inr x => cases h
theorem d_unr {α β : Type} [Inhabited β] {r : α → Hp → V → Prop} {r' : β → Hp → V → Prop} {x : α ⊕ β} (ha : D X a σ G cs (rSum r r' x)) (h : isR x = true) : D X a σ G cs (r' (unR x)) := by
  cases x with
  | inl x => cases h
  | inr x => exact ha
/-! ### slices of tuples: the first n places -/
def Tk (R : Hp → List V → Prop) (n m : Nat) (P : Hp → List V → Prop) : Prop := ∀ G vs, R G vs → vs.length = m ∧ P G (vs.take n)
theorem tk_1 {α β : Type} {r : α → Hp → V → Prop} {r' : β → Hp → List V → Prop} {m : Nat} [h : LenT r' m] {x : α × β} : Tk (cc r r' x) 1 (m + 1) (c0 r x.1) := fun G vs ⟨v, ws, e, h1, h2⟩ => by
  rw [e]
  exact ⟨by rw [List.length_cons, h.len h2], v, rfl, h1⟩
theorem tk_c {α β γ : Type} {r : α → Hp → V → Prop} {r' : β → Hp → List V → Prop} {r2 : γ → Hp → List V → Prop} {n m : Nat} {x : α × β} {y : γ} (h : Tk (r' x.2) n m (r2 y)) : Tk (cc r r' x) (n + 1) (m + 1) (cc r r2 (x.1, y)) := fun G vs ⟨v, ws, e, h1, h2⟩ => by
  obtain ⟨k1, k2⟩ := h G ws h2
  rw [e]
  exact ⟨by rw [List.length_cons, k1], v, ws.take n, rfl, h1, k2⟩
theorem d_slT {α γ : Type} {r : α → Hp → List V → Prop} {r2 : γ → Hp → List V → Prop} [∀ x, MonoA (r x)] [∀ x, MonoA (r2 x)] {x : α} {y : γ} {n m : Nat} {hi : Option Expr} {p2 : Pos} (ha : D X a σ G cs (rT X.K r x)) (hu : DO X hi σ G cs (some (n : Int))) (ht : Tk (r x) n m (r2 y)) (hn : n < m := by decide) : D X (.Subscript a (.Slice none hi none p2) pos) σ G cs (rT X.K r2 y) :=
  d_by (pe_slice sl_tup (sE X a) (sO none) (sO hi)) fun G1 H s d Q q => ha G1 H s d _ fun G2 H2 v s2 d2 hv => do_none (X := X) (σ := σ) (cs := cs) G2 H2 (s.trans s2) d2 _ fun G3 H3 s3 d3 => hu G3 H3 ((s.trans s2).trans s3) d3 _ fun G4 H4 s4 d4 => by
    obtain ⟨l, vs, e, hl, hr⟩ := Mono.mono (s3.trans s4) hv
    obtain ⟨k1, k2⟩ := ht G4 vs hr
    have e0 : HT.sIx vs.length 0 none = 0 := HT.sIx_none _ _
    have e1 : HT.sIx vs.length vs.length (some (n : Int)) = n := by rw [HT.sIx_nat]; omega
    refine ⟨l, vs, e, seqT d4.same hl, by rw [e0, e1]; omega, fun p hp => ?_⟩
    have ec : cutV vs none (some (n : Int)) = vs.take n := by
      unfold cutV
      rw [e0, e1]
      rfl
    rw [ec]
    have sf : Same G4 (upd G4 p (.tup (vs.take n))) := Same.fresh d4.same hp _
    exact q _ _ _ (((s2.trans s3).trans s4).trans sf) (d4.new hp _) ⟨p, vs.take n, rfl, SqT.of upd_same, MonoA.mono sf k2⟩
end
section
variable {n : Nat} {adr : Fin n → Addr} {S L R : Type} {X : Cx} {Wx : WX} {σ : L2.St} {G : Hp} {cs : Cells} {rest : List Stmt} {e tg : Expr} {pos p : Pos} {Φ : Po (Fin n) S L R} {O : Type} {P : O → Hp → V → Prop} {m : Except (Fin n) O}
/-- a, b = f(..) that may raise -/
theorem b_asgE {g : O → Out (Fin n) S L R} {Sx : O → Hp → L2.St → L2.St → Prop} (he : DE X adr Wx e σ G cs P m) (ht : Tg X tg P Sx) (kr : ∀ k, m = .error k → ∀ G1, Same G G1 → Φ.er k σ G1 cs)
    (k : ∀ o, m = .ok o → ∀ σ' G1, Same G G1 → Sx o G1 σ σ' → B X (wE2 adr Wx) rest σ' G1 cs Φ (g o))
    (hs : swapsWithSole [tg] e pos.line X.env = pure false := by rfl) (hw : swappedStores [tg] e X.env = pure none := by rfl) (h1 : (assignEach [tg] X.env).map (·.2) = [assign tg X.env] := by rfl) : B X (wE2 adr Wx) (.Assign [tg] e pos :: rest) σ G cs Φ (callE m g) := by
  obtain ⟨gt, hg, h2⟩ := ht
  refine b_cons (ps_asg (sE X e) hg hs hw (h1 := h1)) fun H d E w => he G H (Same.refl _) d _ ?_
  cases hm : m with
  | ok o =>
    rw [hm] at w
    exact fun G2 H2 v s2 d2 hv => h2 o v G2 cs H2 σ hv d2 _ fun σ' hS => k o hm σ' G2 s2 hS H2 d2 E (Wish.up (m := g o) w s2)
  | error c =>
    rw [hm] at w
    exact fun G2 H2 s2 d2 => w σ G2 cs H2 s2 d2 (kr c hm G2 s2)
end
section
variable {n : Nat} {adr : Fin n → Addr} {X : Cx} {Wx : WX} {σ : L2.St} {G : Hp} {cs : Cells} {a b : Expr} {rest : List Expr} {pos : Pos} {O : Type} {m : Except (Fin n) O}
theorem de_callQ {I O : Type} {pre : I → Hp → List V → Prop} {r : I → O → Hp → V → Prop} {m : I → Except (Fin n) O} {P : O → Hp → V → Prop} {e : Expr} {es : List Expr} {p : Pos} {k j a : Nat} {x : Str} {Ps : Hp → List V → Prop} (i : I) (F : Fn0 X.prog X.w X.K X.mg X.base (L2.CX X.prog X.w) k x a (SpE (cE adr) pre r m)) (tk : Takes X Wx) (hr : Room j X.A) (hk : k ≤ j)
    (ha : A X (e :: es) σ G cs Ps) (hp : ∀ G1 vs, Same G G1 → Ps G1 vs → pre i G1 vs) (hP : ∀ o G v, r i o G v → P o G v) {mm : Except (Fin n) O} (hmm : m i = mm := by rfl) (hg : Gl X x := by rfl) (hd : (x == ("__debug__" : Str)) = false := by decide)
    (he : starEach (e :: es) X.env = (false, eval e X.env) :: starEach es X.env := by exact star_plain rfl) (hpl : (backTo pos (starEach es X.env)).any (·.1) = false := by rfl) : DE X adr Wx (.Call (.Name x p) (e :: es) [] pos) σ G cs P mm := by
  subst hmm
  exact (de_call i F tk hr hk ha hp hg hd he hpl).imp hP
/-- a call that may raise, ahead in a comparison, in an and -/
theorem de_cmp {op : CmpOp} {r : R2} {Pa : O → Hp → V → Prop} {Pb : Hp → V → Prop} {k : O → Bool} [∀ o, Mono (Pa o)] (ho : OpR X (compareOp op) r) (hm : behindInMarks op b = false) (ha : DE X adr Wx a σ G cs Pa m) (hb : D X b σ G cs Pb)
    (hr : ∀ o G1 H x y, Same G G1 → Desc G1 cs H → Pa o G1 x → Pb G1 y → ∀ Q : VK, Q (.bl (k o)) H → r x y H Q) : DE X adr Wx (.Compare a [op] [b] pos) σ G cs (fun o => rB (k o)) m := fun G1 H s d Q q =>
  uE (pe_cmpR ho (sE X a) (sE X b) hm) (ha G1 H s d _ (by
    cases hk : m with
    | ok o =>
      rw [hk] at q
      exact fun G2 H2 x s2 d2 hx => hb G2 H2 (s.trans s2) d2 _ fun G3 H3 y s3 d3 hy => hr o G3 H3 x y ((s.trans s2).trans s3) d3 (Mono.mono s3 hx) hy Q (q G3 H3 _ (s2.trans s3) d3 rfl)
    | error c =>
      rw [hk] at q
      exact q))
theorem de_and {k k' : O → Bool} (h : DE X adr Wx a σ G cs (fun o => rB (k o)) m) (h' : ∀ o, k o = true → D X (.BoolOp .And (b :: rest) pos) σ G cs (rB (k' o))) : DE X adr Wx (.BoolOp .And (a :: b :: rest) pos) σ G cs (fun o => rB (k o && k' o)) m := fun G1 H s d Q q =>
  uE (pe_and (sE X a) (sE X _)) (h G1 H s d _ (by
    cases hk : m with
    | ok o =>
      rw [hk] at q
      refine fun G2 H2 v s2 d2 hv => ⟨k o, hv, ?_⟩
      cases hko : k o with
      | false => exact iteF (q G2 H2 _ s2 d2 (by show _ = V.bl (k o && k' o); rw [hko]; rfl))
      | true => exact iteT (h' o hko G2 H2 (s.trans s2) d2 Q fun G3 H3 w s3 d3 hw => q G3 H3 w (s2.trans s3) d3 (by show _ = V.bl (k o && k' o); rw [hko]; exact hw))
    | error c =>
      rw [hk] at q
      exact q))
end
section
variable {ε S L R : Type} {X : Cx} {W : ε → L2.St → Hp → Prop} {σ : L2.St} {G : Hp} {cs : Cells} {Φ : Po ε S L R} {m : Out ε S L R} {rest : List Stmt} {e o i : Expr} {P : Hp → V → Prop} {pos p : Pos}
/-- xs[i] = e, xs the cell at k -/
theorem b_put (k : Nat) {l : Addr} {vs : List V} {z : Int} {j : Nat} (hk : cs[k]? = some (l, .lst vs)) (he : D X e σ G cs P) (ho : D X o σ G cs (rV (.ref l))) (hi : D X i σ G cs (rI z)) (hj : ixN vs.length z = some j)
    (q : ∀ v G1, Same G G1 → P G1 v → B X W rest σ G1 (cs.set k (l, .lst (vs.set j v))) Φ m) [Mono P]
    (ha : ∀ v, assign (.Subscript o i p) X.env v = (do
      let ov ← holding [v] (eval o X.env)
      let iv ← holding [v, ov] (eval i X.env)
      standAt p
      holding [v, ov, iv] (setItem ov iv v)
      release [v, ov, iv] []) := by intro _; rfl)
    (hs : swapsWithSole [.Subscript o i p] e pos.line X.env = pure false := by rfl) (hw : swappedStores [.Subscript o i p] e X.env = pure none := by rfl) (h1 : (assignEach [.Subscript o i p] X.env).map (·.2) = [assign (.Subscript o i p) X.env] := by rfl) :
    B X W (.Assign [.Subscript o i p] e pos :: rest) σ G cs Φ m :=
  b_cons (ps_asg (sE X e) (pg_sub (sE X o) (sE X i) set_list ha) hs hw (h1 := h1)) fun H d E w => he G H (Same.refl _) d _ fun G2 H2 v s2 d2 hv =>
    ho G2 H2 s2 d2 _ fun G3 H3 u s3 d3 hu => hi G3 H3 (s2.trans s3) d3 _ fun G4 H4 y s4 d4 hy => by
      have eu : u = .ref l := hu
      have ey : y = .int z := hy
      subst eu ey
      exact ⟨l, vs, z, j, rfl, rfl, d4.at_ (List.mem_of_getElem? hk), hj, q v G4 ((s2.trans s3).trans s4) (Mono.mono (s3.trans s4) hv) _ (d4.write hk _) E (w.up ((s2.trans s3).trans s4))⟩
end
/-- xs with its place i changed -/
def putL {α : Type} (xs : List α) (i : Int) (x : α) : List α := xs.set ((ixN xs.length i).getD 0) x
theorem putL_len {α : Type} (xs : List α) (i : Int) (x : α) : (putL xs i x).length = xs.length := by
  unfold putL
  rw [List.length_set]
theorem ixN_ok {n : Nat} {i : Int} (h : -(n : Int) ≤ i ∧ i < (n : Int)) : ixN n i = some ((ixN n i).getD 0) := by
  unfold ixN
  by_cases h0 : 0 ≤ i
  · rw [if_pos h0, if_pos h.2]
    rfl
  · rw [if_neg h0, if_pos h.1]
    rfl
theorem Rs.put {α : Type} {r : α → Hp → V → Prop} {G : Hp} {xs : List α} {vs : List V} {x : α} {v : V} (hx : r x G v) (h : Rs r G xs vs) (i : Int) : Rs r G (putL xs i x) (vs.set ((ixN vs.length i).getD 0) v) := by
  unfold putL
  rw [h.length]
  exact Rs.set hx _ h
end J

namespace Ck08
open J
/-- days ahead of a year -/
def yfst (y : Int) : Int := 365 * (y - 2000) + (y - 2000 + 3) / 4
def leap (y : Int) : Int := if y % 4 = 0 then 1 else 0
/-- days from the first of month m to the year's end -/
def ytot (y m : Int) : Int :=
  if m = 1 then 365 + leap y else if m = 2 then 334 + leap y else ixg [0, 0, 0, 306, 275, 245, 214, 184, 153, 122, 92, 61, 31] m
end Ck08

namespace Ck08
open PySem L2 PyProof.Rows J
def nm_ : _root_.Fin 7 → Str := fun i => match i with
  | 0 => "BadValue"
  | 1 => "BadDay"
  | 2 => "Missing"
  | 3 => "Refused"
  | 4 => "Full"
  | 5 => "NotAllowed"
  | 6 => "Damaged"
def k_HOWS : (List (List Nat)) := [[110, 111, 110, 101], [110, 101, 120, 116], [112, 114, 101, 118, 105, 111, 117, 115], [109, 111, 100, 105, 102, 105, 101, 100]]
def k_LENGTHS : (List Int) := [31, 28, 31, 30, 31, 30, 31, 31, 30, 31, 30, 31]
def st_law_numbers_1 (cell_ : Int) (z20 : (Int × (List Int))) (x27 : Int) : Out Empty (Int × (List Int)) (Int × (List Int)) (List Int) :=
  if (decide (0 < z20.1)) = true then (
        letV (z20.2 ++ [(z20.1 % 10000000000000)]) fun numbers_here_36 =>
        letV (z20.1 / 10000000000000) fun rest_38 =>
        .nx (rest_38, numbers_here_36)) else (
        letV ((((cell_ * 48271) + (x27 * 69621)) + 1013) % 2147483647) fun mixed_42 =>
        letV ((((mixed_42 * mixed_42) + (8191 * x27)) + 77) % 2147483629) fun mixed_46 =>
        letV (z20.2 ++ [(((((mixed_46 * mixed_46) + mixed_46) % 2147483587) * 4001) + x27)]) fun numbers_here_53 =>
        .nx (z20.1, numbers_here_53))

def b_law_numbers (cell_ : Int) (count_ : Int) : Out Empty Unit Empty (List Int) :=
  letV 0 fun rest_1 =>
  (if (decide (1000000000000000000 ≤ cell_)) = true then (
    letV (cell_ / 1000000000000000000) fun rest_11 =>
    .nx (rest_11)) else (
    .nx (rest_1)) : Out Empty (Int) Empty (List Int)).bind fun z7 =>
  letV ([] : (List Int)) fun numbers_here_15 =>
    (forL (st_law_numbers_1 cell_) (z7, numbers_here_15) (rng 0 count_)).bind fun z20 =>
    .rt z20.2

def m_law_numbers (cell_ : Int) (count_ : Int) : (List Int) := (b_law_numbers cell_ count_).val

def pre_law_numbers (K : PySem.W.Frag) : (Int × Int) → Hp → List V → Prop := fun i G vs => ∃ v0_ v1_ : V, vs = [v0_, v1_] ∧ rI i.1 G v0_ ∧ rI i.2 G v1_ ∧ (0 ≤ i.2 ∧ i.2 ≤ 100)

abbrev sp_law_numbers (K : PySem.W.Frag) : Sp := SpP (pre_law_numbers K) (fun _ o => (rL K rI) o) fun i : (Int × Int) => m_law_numbers i.1 i.2

def b_law_day (numbers_here_ : (List Int)) : Out Empty Unit Empty Int :=
  if (decide (((ixg numbers_here_ 1) % 3) = 1)) = true then (.rt ((ixg numbers_here_ 0) % 12)) else
  if (decide (((ixg numbers_here_ 1) % 6) = 2)) = true then (.rt (36524 - ((ixg numbers_here_ 0) % 12))) else
    .rt ((ixg numbers_here_ 0) % 36525)

def m_law_day (numbers_here_ : (List Int)) : Int := (b_law_day numbers_here_).val

def pre_law_day (K : PySem.W.Frag) : ((List Int)) → Hp → List V → Prop := fun i G vs => ∃ v0_ : V, vs = [v0_] ∧ (rL K rI) i G v0_ ∧ (J.Nums 32 i)

abbrev sp_law_day (K : PySem.W.Frag) : Sp := SpP (pre_law_day K) (fun _ o => rI o) fun i : ((List Int)) => m_law_day i

def b_law_holidays (numbers_here_ : (List Int)) (day_here_ : Int) : Out Empty Unit Empty (List Int) :=
  letV (day_here_ - ((ixg numbers_here_ 2) % 11)) fun first_1 =>
  letV ((rng 0 ((ixg numbers_here_ 3) % 21)).map (fun k_ : Int => (first_1 + k_))) fun days_9 =>
  letV (days_9 ++ ((rng 0 ((ixg numbers_here_ 4) % 13)).map (fun k_ : Int => ((day_here_ - 12) + ((ixg numbers_here_ (10 + k_)) % 25))))) fun days_17 =>
  letV (cutL days_17 none (some ((ixg numbers_here_ 5) % 16))) fun again_21 =>
  letV (((rng 0 (days_17.length : Int)).map (fun k_ : Int => (ixg days_17 (((days_17.length : Int) - 1) - k_)))) ++ again_21) fun days_29 =>
  (if (decide (((ixg numbers_here_ 9) % 8) = 1)) = true then (
    letV ((rng 0 ((ixg numbers_here_ 3) % 101)).map (fun k_ : Int => (first_1 + k_))) fun days_44 =>
    if (decide (((ixg numbers_here_ 4) % 2) = 1)) = true then (
      letV ((rng 0 (days_44.length : Int)).map (fun k_ : Int => (ixg days_44 (((days_44.length : Int) - 1) - k_)))) fun days_54 =>
      .nx (days_54)) else (
      .nx (days_44))) else (
    .nx (days_29)) : Out Empty ((List Int)) Empty (List Int)).bind fun z35 =>
  .rt ((z35.filter (fun near_ : Int => (decide (0 ≤ near_)) && (decide (near_ ≤ 36524)))).map (fun near_ : Int => near_))

def m_law_holidays (numbers_here_ : (List Int)) (day_here_ : Int) : (List Int) := (b_law_holidays numbers_here_ day_here_).val

def pre_law_holidays (K : PySem.W.Frag) : ((List Int) × Int) → Hp → List V → Prop := fun i G vs => ∃ v0_ v1_ : V, vs = [v0_, v1_] ∧ (rL K rI) i.1 G v0_ ∧ rI i.2 G v1_ ∧ (J.Nums 32 i.1)

abbrev sp_law_holidays (K : PySem.W.Frag) : Sp := SpP (pre_law_holidays K) (fun _ o => (rL K rI) o) fun i : ((List Int) × Int) => m_law_holidays i.1 i.2

def b_is_day (number_ : Int) : Out Empty Unit Empty Bool :=
  .rt (decide (0 ≤ number_) && decide (number_ ≤ 36524))

def m_is_day (number_ : Int) : Bool := (b_is_day number_).val

def pre_is_day (K : PySem.W.Frag) : (Int) → Hp → List V → Prop := fun i G vs => ∃ v0_ : V, vs = [v0_] ∧ rI i G v0_

abbrev sp_is_day (K : PySem.W.Frag) : Sp := SpP (pre_is_day K) (fun _ o => rB o) fun i : (Int) => m_is_day i

def b_check_day (day_ : Int) : Out (_root_.Fin 7) Unit Empty Unit :=
  if (!((m_is_day day_))) = true then (.er 1) else
  .nx ()

def m_check_day (day_ : Int) : Except (_root_.Fin 7) Unit := (b_check_day day_).res

def pre_check_day (K : PySem.W.Frag) : (Int) → Hp → List V → Prop := fun i G vs => ∃ v0_ : V, vs = [v0_] ∧ rI i G v0_

abbrev sp_check_day (K : PySem.W.Frag) (adr : _root_.Fin 7 → Addr) : Sp := SpE (cE adr) (pre_check_day K) (fun _ o => rN o) fun i : (Int) => m_check_day i

def b_weekday (day_ : Int) : Out (_root_.Fin 7) Unit Empty Int :=
  callE (m_check_day day_) fun _o2 =>
  .rt ((day_ + 5) % 7)

def m_weekday (day_ : Int) : Except (_root_.Fin 7) Int := (b_weekday day_).res

def pre_weekday (K : PySem.W.Frag) : (Int) → Hp → List V → Prop := fun i G vs => ∃ v0_ : V, vs = [v0_] ∧ rI i G v0_

abbrev sp_weekday (K : PySem.W.Frag) (adr : _root_.Fin 7 → Addr) : Sp := SpE (cE adr) (pre_weekday K) (fun _ o => rI o) fun i : (Int) => m_weekday i

def b_is_working (day_ : Int) (holidays_ : (List Int)) : Out (_root_.Fin 7) Unit Empty Bool :=
  callE (m_weekday day_) fun o1 => .rt ((decide (o1 < 5)) && (!(inB day_ holidays_)))

def m_is_working (day_ : Int) (holidays_ : (List Int)) : Except (_root_.Fin 7) Bool := (b_is_working day_ holidays_).res

def pre_is_working (K : PySem.W.Frag) : (Int × (List Int)) → Hp → List V → Prop := fun i G vs => ∃ v0_ v1_ : V, vs = [v0_, v1_] ∧ rI i.1 G v0_ ∧ (rL K rI) i.2 G v1_

abbrev sp_is_working (K : PySem.W.Frag) (adr : _root_.Fin 7 → Addr) : Sp := SpE (cE adr) (pre_is_working K) (fun _ o => rB o) fun i : (Int × (List Int)) => m_is_working i.1 i.2

def b_law_works (day_here_ : Int) (holidays_here_ : (List Int)) : Out Empty Unit Empty Bool :=
  .rt (((decide (((day_here_ + 5) % 7) < 5))) && ((!(inB day_here_ holidays_here_))))

def m_law_works (day_here_ : Int) (holidays_here_ : (List Int)) : Bool := (b_law_works day_here_ holidays_here_).val

def pre_law_works (K : PySem.W.Frag) : (Int × (List Int)) → Hp → List V → Prop := fun i G vs => ∃ v0_ v1_ : V, vs = [v0_, v1_] ∧ rI i.1 G v0_ ∧ (rL K rI) i.2 G v1_

abbrev sp_law_works (K : PySem.W.Frag) : Sp := SpP (pre_law_works K) (fun _ o => rB o) fun i : (Int × (List Int)) => m_law_works i.1 i.2

def b_law_kinds (error_ : (_root_.Fin 7)) : Out Empty Unit Empty (List (List Nat)) :=
  letV ([] : (List (List Nat))) fun kinds_here_1 =>
  (if ((decide (error_ = 0))) = true then (
    letV (kinds_here_1 ++ [[66, 97, 100, 86, 97, 108, 117, 101]]) fun kinds_here_14 =>
    .nx (kinds_here_14)) else (
    .nx (kinds_here_1)) : Out Empty ((List (List Nat))) Empty (List (List Nat))).bind fun z8 =>
  (if ((decide (error_ = 1))) = true then (
      letV (z8 ++ [[66, 97, 100, 68, 97, 121]]) fun kinds_here_24 =>
      .nx (kinds_here_24)) else (
      .nx (z8)) : Out Empty ((List (List Nat))) Empty (List (List Nat))).bind fun z18 =>
    (if ((decide (error_ = 2))) = true then (
        letV (z18 ++ [[77, 105, 115, 115, 105, 110, 103]]) fun kinds_here_34 =>
        .nx (kinds_here_34)) else (
        .nx (z18)) : Out Empty ((List (List Nat))) Empty (List (List Nat))).bind fun z28 =>
      (if ((decide (error_ = 3))) = true then (
          letV (z28 ++ [[82, 101, 102, 117, 115, 101, 100]]) fun kinds_here_44 =>
          .nx (kinds_here_44)) else (
          .nx (z28)) : Out Empty ((List (List Nat))) Empty (List (List Nat))).bind fun z38 =>
        (if ((decide (error_ = 4))) = true then (
            letV (z38 ++ [[70, 117, 108, 108]]) fun kinds_here_54 =>
            .nx (kinds_here_54)) else (
            .nx (z38)) : Out Empty ((List (List Nat))) Empty (List (List Nat))).bind fun z48 =>
          (if ((decide (error_ = 5))) = true then (
              letV (z48 ++ [[78, 111, 116, 65, 108, 108, 111, 119, 101, 100]]) fun kinds_here_64 =>
              .nx (kinds_here_64)) else (
              .nx (z48)) : Out Empty ((List (List Nat))) Empty (List (List Nat))).bind fun z58 =>
            (if ((decide (error_ = 6))) = true then (
                letV (z58 ++ [[68, 97, 109, 97, 103, 101, 100]]) fun kinds_here_74 =>
                .nx (kinds_here_74)) else (
                .nx (z58)) : Out Empty ((List (List Nat))) Empty (List (List Nat))).bind fun z68 =>
              .rt z68

def m_law_kinds (error_ : (_root_.Fin 7)) : (List (List Nat)) := (b_law_kinds error_).val

abbrev sp_law_kinds (K : PySem.W.Frag) (adr : _root_.Fin 7 → Addr) : Addr → Addr → Sp := SpK adr (fun o => (rL K rS) o) m_law_kinds

def st_law_tells_working_1 (holidays_here_ : (List Int)) (z1 : Unit) (x9 : Int) : Out Empty Unit Unit Bool :=
  letV holidays_here_ fun copy_13 =>
    (tryO (ε' := _root_.Fin 7) (callE (m_is_working x9 copy_13) fun told_here_32 =>
      .nx ((Sum.inl told_here_32)) : Out (_root_.Fin 7) ((Bool ⊕ (List (List Nat)))) Unit Bool) (fun k22 => letV (m_law_kinds k22) fun told_here_39 =>
      .nx ((Sum.inr told_here_39))) : Out Empty ((Bool ⊕ (List (List Nat)))) Unit Bool).bind fun z17 =>
    if (!decide (copy_13 = holidays_here_)) = true then (.rt false) else
      letV [[66, 97, 100, 68, 97, 121]] fun due_here_46 =>
        (if ((decide (0 ≤ x9)) && (decide (x9 ≤ 36524))) = true then (
          letV (m_law_works x9 holidays_here_) fun due_here_57 =>
          .nx ((Sum.inl due_here_57))) else (
          .nx ((Sum.inr due_here_46))) : Out Empty ((Bool ⊕ (List (List Nat)))) Unit Bool).bind fun z53 =>
        if ((!decide (z17 = z53)) || (((kSum true false z17)) && (!((kSum true false z17))))) = true then (.rt false) else
          .nx ()

def b_law_tells_working (day_here_ : Int) (holidays_here_ : (List Int)) : Out Empty Unit Empty Bool :=
  (forL (st_law_tells_working_1 holidays_here_) () (rng (day_here_ - 4) (day_here_ + 5))).bind fun z1 =>
  .rt true

def m_law_tells_working (day_here_ : Int) (holidays_here_ : (List Int)) : Bool := (b_law_tells_working day_here_ holidays_here_).val

def pre_law_tells_working (K : PySem.W.Frag) : (Int × (List Int)) → Hp → List V → Prop := fun i G vs => ∃ v0_ v1_ : V, vs = [v0_, v1_] ∧ rI i.1 G v0_ ∧ (rL K rI) i.2 G v1_ ∧ (0 ≤ i.1 ∧ i.1 ≤ 36524)

abbrev sp_law_tells_working (K : PySem.W.Frag) : Sp := SpP (pre_law_tells_working K) (fun _ o => rB o) fun i : (Int × (List Int)) => m_law_tells_working i.1 i.2

def st_next_working_1 (holidays_ : (List Int)) (z1 : Unit) (x5 : Int) : Out Empty Unit Unit (Option Int) :=
  if ((okV (m_is_working x5 holidays_))) = true then (.rt (some x5)) else
    .nx ()

def b_next_working (day_ : Int) (holidays_ : (List Int)) : Out Empty Unit Empty (Option Int) :=
  (forL (st_next_working_1 holidays_) () (rng day_ (36524 + 1))).bind fun z1 =>
  .rt none

def m_next_working (day_ : Int) (holidays_ : (List Int)) : (Option Int) := (b_next_working day_ holidays_).val

def pre_next_working (K : PySem.W.Frag) : (Int × (List Int)) → Hp → List V → Prop := fun i G vs => ∃ v0_ v1_ : V, vs = [v0_, v1_] ∧ rI i.1 G v0_ ∧ (rL K rI) i.2 G v1_ ∧ (0 ≤ i.1 ∧ i.1 ≤ 36524)

abbrev sp_next_working (K : PySem.W.Frag) : Sp := SpP (pre_next_working K) (fun _ o => (rO rI) o) fun i : (Int × (List Int)) => m_next_working i.1 i.2

def st_previous_working_1 (day_ : Int) (holidays_ : (List Int)) (z1 : Unit) (x5 : Int) : Out Empty Unit Unit (Option Int) :=
  if ((okV (m_is_working (day_ - x5) holidays_))) = true then (.rt (some (day_ - x5))) else
    .nx ()

def b_previous_working (day_ : Int) (holidays_ : (List Int)) : Out Empty Unit Empty (Option Int) :=
  (forL (st_previous_working_1 day_ holidays_) () (rng 0 (day_ + 1))).bind fun z1 =>
  .rt none

def m_previous_working (day_ : Int) (holidays_ : (List Int)) : (Option Int) := (b_previous_working day_ holidays_).val

def pre_previous_working (K : PySem.W.Frag) : (Int × (List Int)) → Hp → List V → Prop := fun i G vs => ∃ v0_ v1_ : V, vs = [v0_, v1_] ∧ rI i.1 G v0_ ∧ (rL K rI) i.2 G v1_ ∧ (0 ≤ i.1 ∧ i.1 ≤ 36524)

abbrev sp_previous_working (K : PySem.W.Frag) : Sp := SpP (pre_previous_working K) (fun _ o => (rO rI) o) fun i : (Int × (List Int)) => m_previous_working i.1 i.2

def b_first_of_year (year_ : Int) : Out Empty Unit Empty Int :=
  letV (year_ - 2000) fun past_1 =>
  .rt ((365 * past_1) + ((past_1 + 3) / 4))

def m_first_of_year (year_ : Int) : Int := (b_first_of_year year_).val

def pre_first_of_year (K : PySem.W.Frag) : (Int) → Hp → List V → Prop := fun i G vs => ∃ v0_ : V, vs = [v0_] ∧ rI i G v0_

abbrev sp_first_of_year (K : PySem.W.Frag) : Sp := SpP (pre_first_of_year K) (fun _ o => rI o) fun i : (Int) => m_first_of_year i

def b_month_length (year_ : Int) (month_ : Int) : Out Empty Unit Empty Int :=
  if ((decide (month_ = 2)) && (decide ((year_ % 4) = 0))) = true then (.rt 29) else
  .rt (ixg k_LENGTHS (month_ - 1))

def m_month_length (year_ : Int) (month_ : Int) : Int := (b_month_length year_ month_).val

def pre_month_length (K : PySem.W.Frag) : (Int × Int) → Hp → List V → Prop := fun i G vs => ∃ v0_ v1_ : V, vs = [v0_, v1_] ∧ rI i.1 G v0_ ∧ rI i.2 G v1_ ∧ (1 ≤ i.2 ∧ i.2 ≤ 12)

abbrev sp_month_length (K : PySem.W.Frag) : Sp := SpP (pre_month_length K) (fun _ o => rI o) fun i : (Int × Int) => m_month_length i.1 i.2

def wc_date_of_1 (day_ : Int) (z7 : (Int)) : Bool := (decide (z7 < 2099)) && (decide ((m_first_of_year (z7 + 1)) ≤ day_))

def st_date_of_1 (day_ : Int) (z7 : (Int)) : Out (_root_.Fin 7) (Int) (Int) (Int × Int × Int) :=
  letV (z7 + 1) fun year_16 =>
    .nx (year_16)

def wc_date_of_2 (z7 : Int) (z28 : (Int × Int)) : Bool := decide ((m_month_length z7 z28.2) ≤ z28.1)

def st_date_of_2 (z7 : Int) (z28 : (Int × Int)) : Out (_root_.Fin 7) (Int × Int) (Int × Int) (Int × Int × Int) :=
  letV (z28.1 - (m_month_length z7 z28.2)) fun left_34 =>
      letV (z28.2 + 1) fun month_36 =>
      .nx (left_34, month_36)

def b_date_of (day_ : Int) : Out (_root_.Fin 7) Unit Empty (Int × Int × Int) :=
  callE (m_check_day day_) fun _o2 =>
  letV (2000 + (day_ / 366)) fun year_3 =>
  (whileN (wc_date_of_1 day_) (st_date_of_1 day_) (100) (year_3)).bind fun z7 =>
  letV (day_ - (m_first_of_year z7)) fun left_20 =>
    letV 1 fun month_24 =>
    (whileN (wc_date_of_2 z7) (st_date_of_2 z7) (12) (left_20, month_24)).bind fun z28 =>
    .rt (z7, z28.2, (z28.1 + 1))

def m_date_of (day_ : Int) : Except (_root_.Fin 7) (Int × Int × Int) := (b_date_of day_).res

def pre_date_of (K : PySem.W.Frag) : (Int) → Hp → List V → Prop := fun i G vs => ∃ v0_ : V, vs = [v0_] ∧ rI i G v0_

abbrev sp_date_of (K : PySem.W.Frag) (adr : _root_.Fin 7 → Addr) : Sp := SpE (cE adr) (pre_date_of K) (fun _ o => (rT K (cc rI (cc rI (c0 rI)))) o) fun i : (Int) => m_date_of i

def b_same_month (day_ : Int) (other_ : Int) : Out Empty Unit Empty Bool :=
  .rt (decide (((okV (m_date_of day_)).1, (okV (m_date_of day_)).2.1) = ((okV (m_date_of other_)).1, (okV (m_date_of other_)).2.1)))

def m_same_month (day_ : Int) (other_ : Int) : Bool := (b_same_month day_ other_).val

def pre_same_month (K : PySem.W.Frag) : (Int × Int) → Hp → List V → Prop := fun i G vs => ∃ v0_ v1_ : V, vs = [v0_, v1_] ∧ rI i.1 G v0_ ∧ rI i.2 G v1_ ∧ ((0 ≤ i.1 ∧ i.1 ≤ 36524) ∧ 0 ≤ i.2 ∧ i.2 ≤ 36524)

abbrev sp_same_month (K : PySem.W.Frag) : Sp := SpP (pre_same_month K) (fun _ o => rB o) fun i : (Int × Int) => m_same_month i.1 i.2

def b_adjusted (day_ : Int) (holidays_ : (List Int)) (how_ : (List Nat)) : Out Empty Unit Empty (Option Int) :=
  if (decide (how_ = [110, 111, 110, 101])) = true then (.rt (some day_)) else
  if (decide (how_ = [112, 114, 101, 118, 105, 111, 117, 115])) = true then (.rt (m_previous_working day_ holidays_)) else
    letV (m_next_working day_ holidays_) fun found_5 =>
      if (decide (how_ = [110, 101, 120, 116])) = true then (.rt found_5) else
      if ((!found_5.isNone) && ((m_same_month day_ (oGet found_5)))) = true then (.rt found_5) else
        .rt (m_previous_working day_ holidays_)

def m_adjusted (day_ : Int) (holidays_ : (List Int)) (how_ : (List Nat)) : (Option Int) := (b_adjusted day_ holidays_ how_).val

def pre_adjusted (K : PySem.W.Frag) : (Int × (List Int) × (List Nat)) → Hp → List V → Prop := fun i G vs => ∃ v0_ v1_ v2_ : V, vs = [v0_, v1_, v2_] ∧ rI i.1 G v0_ ∧ (rL K rI) i.2.1 G v1_ ∧ rS i.2.2 G v2_ ∧ (0 ≤ i.1 ∧ i.1 ≤ 36524)

abbrev sp_adjusted (K : PySem.W.Frag) : Sp := SpP (pre_adjusted K) (fun _ o => (rO rI) o) fun i : (Int × (List Int) × (List Nat)) => m_adjusted i.1 i.2.1 i.2.2

def b_adjust (day_ : Int) (holidays_ : (List Int)) (how_ : (List Nat)) : Out (_root_.Fin 7) Unit Empty Int :=
  callE (m_check_day day_) fun _o2 =>
  if (!(inB how_ k_HOWS)) = true then (.er 0) else
  letV (m_adjusted day_ holidays_ how_) fun found_5 =>
    if (found_5.isNone) = true then (.er 1) else
    .rt (oGet found_5)

def m_adjust (day_ : Int) (holidays_ : (List Int)) (how_ : (List Nat)) : Except (_root_.Fin 7) Int := (b_adjust day_ holidays_ how_).res

def pre_adjust (K : PySem.W.Frag) : (Int × (List Int) × (List Nat)) → Hp → List V → Prop := fun i G vs => ∃ v0_ v1_ v2_ : V, vs = [v0_, v1_, v2_] ∧ rI i.1 G v0_ ∧ (rL K rI) i.2.1 G v1_ ∧ rS i.2.2 G v2_

abbrev sp_adjust (K : PySem.W.Frag) (adr : _root_.Fin 7 → Addr) : Sp := SpE (cE adr) (pre_adjust K) (fun _ o => rI o) fun i : (Int × (List Int) × (List Nat)) => m_adjust i.1 i.2.1 i.2.2

def b_law_told (day_here_ : Int) (holidays_here_ : (List Int)) (how_ : (List Nat)) : Out Empty Unit Empty ((List Nat) × (List (Int ⊕ (List Nat)))) :=
  letV holidays_here_ fun copy_1 =>
  (tryO (ε' := _root_.Fin 7) (callE (m_adjust day_here_ copy_1 how_) fun told_here_16 =>
    .nx (told_here_16) : Out (_root_.Fin 7) (Int) Empty ((List Nat) × (List (Int ⊕ (List Nat))))) (fun k7 => .rt ([114, 97, 105, 115, 101, 100], ((m_law_kinds k7).map Sum.inr))) : Out Empty (Int) Empty ((List Nat) × (List (Int ⊕ (List Nat))))).bind fun z5 =>
  if ((false) || ((!(true)) || (!decide (copy_1 = holidays_here_)))) = true then (.rt ([115, 116, 114, 97, 110, 103, 101], ([] : (List (Int ⊕ (List Nat)))))) else
    .rt ([100, 97, 121], [(Sum.inl z5)])

def m_law_told (day_here_ : Int) (holidays_here_ : (List Int)) (how_ : (List Nat)) : ((List Nat) × (List (Int ⊕ (List Nat)))) := (b_law_told day_here_ holidays_here_ how_).val

def pre_law_told (K : PySem.W.Frag) : (Int × (List Int) × (List Nat)) → Hp → List V → Prop := fun i G vs => ∃ v0_ v1_ v2_ : V, vs = [v0_, v1_, v2_] ∧ rI i.1 G v0_ ∧ (rL K rI) i.2.1 G v1_ ∧ rS i.2.2 G v2_

abbrev sp_law_told (K : PySem.W.Frag) : Sp := SpP (pre_law_told K) (fun _ o => (rT K (cc rS (c0 (rL K (rSum rI rS))))) o) fun i : (Int × (List Int) × (List Nat)) => m_law_told i.1 i.2.1 i.2.2

def st_law_search_1 (day_here_ : Int) (step_ : Int) (holidays_here_ : (List Int)) (z1 : Unit) (x6 : Int) : Out Empty Unit Unit (Option Int) :=
  letV (day_here_ + (step_ * x6)) fun near_10 =>
    if ((decide (near_10 < 0)) || (decide (36524 < near_10))) = true then (.rt none) else
    if ((m_law_works near_10 holidays_here_)) = true then (.rt (some near_10)) else
      .nx ()

def b_law_search (day_here_ : Int) (step_ : Int) (holidays_here_ : (List Int)) : Out Empty Unit Empty (Option Int) :=
  (forL (st_law_search_1 day_here_ step_ holidays_here_) () (rng 0 120)).bind fun z1 =>
  .rt none

def m_law_search (day_here_ : Int) (step_ : Int) (holidays_here_ : (List Int)) : (Option Int) := (b_law_search day_here_ step_ holidays_here_).val

def pre_law_search (K : PySem.W.Frag) : (Int × Int × (List Int)) → Hp → List V → Prop := fun i G vs => ∃ v0_ v1_ v2_ : V, vs = [v0_, v1_, v2_] ∧ rI i.1 G v0_ ∧ rI i.2.1 G v1_ ∧ (rL K rI) i.2.2 G v2_

abbrev sp_law_search (K : PySem.W.Frag) : Sp := SpP (pre_law_search K) (fun _ o => (rO rI) o) fun i : (Int × Int × (List Int)) => m_law_search i.1 i.2.1 i.2.2

def b_law_length (year_ : Int) (month_ : Int) : Out Empty Unit Empty Int :=
  if ((decide (month_ = 2)) && (decide ((year_ % 4) = 0))) = true then (.rt 29) else
  .rt (ixg [31, 28, 31, 30, 31, 30, 31, 31, 30, 31, 30, 31] (month_ - 1))

def m_law_length (year_ : Int) (month_ : Int) : Int := (b_law_length year_ month_).val

def pre_law_length (K : PySem.W.Frag) : (Int × Int) → Hp → List V → Prop := fun i G vs => ∃ v0_ v1_ : V, vs = [v0_, v1_] ∧ rI i.1 G v0_ ∧ rI i.2 G v1_ ∧ (1 ≤ i.2 ∧ i.2 ≤ 12)

abbrev sp_law_length (K : PySem.W.Frag) : Sp := SpP (pre_law_length K) (fun _ o => rI o) fun i : (Int × Int) => m_law_length i.1 i.2

def st_law_date_1  (z9 : (Int × Int)) (x15 : Int) : Out Empty (Int × Int) (Int × Int) (Option (Int × Int × Int)) :=
  letV (365 + (if (decide (x15 = 0)) then 1 else 0)) fun size_19 =>
    if (decide (z9.1 < size_19)) = true then (.bk (z9.1, z9.2)) else
    letV (z9.1 - size_19) fun day_here_25 =>
      letV (z9.2 + 1) fun year_29 =>
      .nx (day_here_25, year_29)

def st_law_date_2 (z9 : (Int × Int)) (z35 : (Int)) (x41 : Int) : Out Empty (Int) (Int) (Option (Int × Int × Int)) :=
  if (decide (z35 < (m_law_length z9.2 x41))) = true then (.rt (some (z9.2, x41, (z35 + 1)))) else
      letV (z35 - (m_law_length z9.2 x41)) fun day_here_47 =>
        .nx (day_here_47)

def b_law_date (day_here_ : Int) : Out Empty Unit Empty (Option (Int × Int × Int)) :=
  letV (2000 + (4 * (day_here_ / 1461))) fun year_1 =>
  letV (day_here_ % 1461) fun day_here_5 =>
  (forL (st_law_date_1) (day_here_5, year_1) (rng 0 3)).bind fun z9 =>
  (forL (st_law_date_2 z9) (z9.1) (rng 1 13)).bind fun z35 =>
    .rt none

def m_law_date (day_here_ : Int) : (Option (Int × Int × Int)) := (b_law_date day_here_).val

def pre_law_date (K : PySem.W.Frag) : (Int) → Hp → List V → Prop := fun i G vs => ∃ v0_ : V, vs = [v0_] ∧ rI i G v0_

abbrev sp_law_date (K : PySem.W.Frag) : Sp := SpP (pre_law_date K) (fun _ o => (rO (rT K (cc rI (cc rI (c0 rI))))) o) fun i : (Int) => m_law_date i

def b_law_due (day_here_ : Int) (holidays_here_ : (List Int)) (how_ : (List Nat)) : Out Empty Unit Empty ((List Nat) × (List (Int ⊕ (List Nat)))) :=
  if (decide (how_ = [110, 111, 110, 101])) = true then (.rt ([100, 97, 121], [(Sum.inl day_here_)])) else
  letV (m_law_search day_here_ 1 holidays_here_) fun found_3 =>
    (if (decide (how_ = [112, 114, 101, 118, 105, 111, 117, 115])) = true then (
      letV (m_law_search day_here_ (-1) holidays_here_) fun found_12 =>
      .nx (found_12)) else (
      if ((decide (how_ = [109, 111, 100, 105, 102, 105, 101, 100])) && ((found_3.isNone) || (!decide (((oGet (m_law_date (oGet found_3))).1, (oGet (m_law_date (oGet found_3))).2.1) = ((oGet (m_law_date day_here_)).1, (oGet (m_law_date day_here_)).2.1))))) = true then (
        letV (m_law_search day_here_ (-1) holidays_here_) fun found_20 =>
        .nx (found_20)) else (
        .nx (found_3))) : Out Empty ((Option Int)) Empty ((List Nat) × (List (Int ⊕ (List Nat))))).bind fun z9 =>
    if (z9.isNone) = true then (.rt ([114, 97, 105, 115, 101, 100], [(Sum.inr [66, 97, 100, 68, 97, 121])])) else
      .rt ([100, 97, 121], [(Sum.inl (oGet z9))])

def m_law_due (day_here_ : Int) (holidays_here_ : (List Int)) (how_ : (List Nat)) : ((List Nat) × (List (Int ⊕ (List Nat)))) := (b_law_due day_here_ holidays_here_ how_).val

def pre_law_due (K : PySem.W.Frag) : (Int × (List Int) × (List Nat)) → Hp → List V → Prop := fun i G vs => ∃ v0_ v1_ v2_ : V, vs = [v0_, v1_, v2_] ∧ rI i.1 G v0_ ∧ (rL K rI) i.2.1 G v1_ ∧ rS i.2.2 G v2_ ∧ (0 ≤ i.1 ∧ i.1 ≤ 36524)

abbrev sp_law_due (K : PySem.W.Frag) : Sp := SpP (pre_law_due K) (fun _ o => (rT K (cc rS (c0 (rL K (rSum rI rS))))) o) fun i : (Int × (List Int) × (List Nat)) => m_law_due i.1 i.2.1 i.2.2

def st_law_2 (day_here_26 : Int) (holidays_here_30 : (List Int)) (z36 : Unit) (x45 : (List Nat)) : Out Empty Unit Unit Bool :=
  if (!decide ((m_law_told day_here_26 holidays_here_30 x45) = (m_law_due day_here_26 holidays_here_30 x45))) = true then (.rt false) else
        .nx ()

def st_law_3 (numbers_here_22 : (List Int)) (z57 : ((List Nat))) (x65 : Int) : Out Empty ((List Nat)) ((List Nat)) Bool :=
  letV (z57 ++ [(ixg [97, 98, 99, 100, 101, 102, 103, 104, 105, 106, 107, 108, 109, 110, 111, 112, 113, 114, 115, 116, 117, 118, 119, 120, 121, 122] ((ixg numbers_here_22 (22 + x65)) % 26))]) fun word_69 =>
          .nx (word_69)

def st_law_4 (hows_1 : (List (List Nat))) (day_here_26 : Int) (holidays_here_30 : (List Int)) (z83 : Unit) (x89 : (List Nat)) : Out Empty Unit Unit Bool :=
  if ((!(inB x89 hows_1)) && (!decide ((m_law_told day_here_26 holidays_here_30 x89) = ([114, 97, 105, 115, 101, 100], [(Sum.inr [66, 97, 100, 86, 97, 108, 117, 101])])))) = true then (.rt false) else
            .nx ()

def st_law_6 (holidays_here_30 : (List Int)) (x105 : Int) (z109 : Unit) (x115 : (List Nat)) : Out Empty Unit Unit Bool :=
  if (!decide ((m_law_told x105 holidays_here_30 x115) = ([114, 97, 105, 115, 101, 100], [(Sum.inr [66, 97, 100, 68, 97, 121])]))) = true then (.rt false) else
                .nx ()

def st_law_5 (hows_1 : (List (List Nat))) (numbers_here_22 : (List Int)) (holidays_here_30 : (List Int)) (z57 : (List Nat)) (z98 : Unit) (x105 : Int) : Out Empty Unit Unit Bool :=
  (forL (st_law_6 holidays_here_30 x105) () [(ixg hows_1 ((ixg numbers_here_22 8) % 4)), z57]).bind fun z109 =>
              .nx ()

def st_law_1 (hows_1 : (List (List Nat))) (z5 : Unit) (x18 : Int) : Out Empty Unit Unit Bool :=
  letV (m_law_numbers x18 32) fun numbers_here_22 =>
    letV (m_law_day numbers_here_22) fun day_here_26 =>
    letV (m_law_holidays numbers_here_22 day_here_26) fun holidays_here_30 =>
    if (!((m_law_tells_working day_here_26 holidays_here_30))) = true then (.rt false) else
    (forL (st_law_2 day_here_26 holidays_here_30) () hows_1).bind fun z36 =>
      letV ([] : List Nat) fun word_53 =>
        (forL (st_law_3 numbers_here_22) (word_53) (rng 0 ((ixg numbers_here_22 6) % 10))).bind fun z57 =>
        letV (ixg hows_1 ((ixg numbers_here_22 8) % 4)) fun how_75 =>
          letV (((ixg numbers_here_22 9) / 8) % (how_75.length : Int)) fun at_79 =>
          (forL (st_law_4 hows_1 day_here_26 holidays_here_30) () [z57, (((cutL how_75 none (some at_79)) ++ ([(ixg how_75 at_79)].map PyProof.Rows.up1)) ++ (cutL how_75 (some (at_79 + 1)) none)), (how_75 ++ [32]), ([32] ++ how_75)]).bind fun z83 =>
          (forL (st_law_5 hows_1 numbers_here_22 holidays_here_30 z57) () [(-1), 36525, ((0 - 1) - (ixg numbers_here_22 7)), (36525 + (ixg numbers_here_22 7))]).bind fun z98 =>
            .nx ()

def b_law (script_ : (List Int)) : Out Empty Unit Empty Bool :=
  letV [[110, 111, 110, 101], [110, 101, 120, 116], [112, 114, 101, 118, 105, 111, 117, 115], [109, 111, 100, 105, 102, 105, 101, 100]] fun hows_1 =>
  (forL (st_law_1 hows_1) () ([6] ++ script_)).bind fun z5 =>
  .rt true

def m_law (script_ : (List Int)) : Bool := (b_law script_).val

def pre_law (K : PySem.W.Frag) : ((List Int)) → Hp → List V → Prop := fun i G vs => ∃ v0_ : V, vs = [v0_] ∧ (rL K rI) i G v0_ ∧ (i.length ≤ 63)

abbrev sp_law (K : PySem.W.Frag) : Sp := SpP (pre_law K) (fun _ o => rB o) fun i : ((List Int)) => m_law i
end Ck08

namespace Ck08
open J
theorem fst_is (y : Int) : m_first_of_year y = yfst y := rfl
theorem months (m : Int) (h : 1 ≤ m ∧ m ≤ 12) : m = 1 ∨ m = 2 ∨ m = 3 ∨ m = 4 ∨ m = 5 ∨ m = 6 ∨ m = 7 ∨ m = 8 ∨ m = 9 ∨ m = 10 ∨ m = 11 ∨ m = 12 := by omega
theorem len2 (y : Int) : m_month_length y 2 = 28 + leap y := by
  unfold m_month_length b_month_length leap
  by_cases h : y % 4 = 0
  · rw [if_pos (by simp [h]), if_pos h]
    rfl
  · rw [if_neg (by simp [h]), if_neg h]
    rfl
theorem lenO (y m : Int) (h : m ≠ 2) : m_month_length y m = ixg k_LENGTHS (m - 1) := by
  unfold m_month_length b_month_length
  rw [if_neg (by simp [h])]
  rfl
theorem leap01 (y : Int) : 0 ≤ leap y ∧ leap y ≤ 1 := by
  unfold leap
  split <;> decide
theorem ystep2 {y m left : Int} (h : 1 ≤ m ∧ m ≤ 12) (h0 : 0 ≤ left) (h1 : left < ytot y m) (h2 : m_month_length y m ≤ left) : m < 12 ∧ 0 ≤ left - m_month_length y m ∧ left - m_month_length y m < ytot y (m + 1) := by
  have hl := leap01 y
  refine ⟨?_, by omega, ?_⟩
  · rcases months m h with e | e | e | e | e | e | e | e | e | e | e | e
    all_goals (try omega)
    subst e
    have e1 : m_month_length y 12 = 31 := rfl
    have e2 : ytot y 12 = 31 := rfl
    omega
  · rcases months m h with e | e | e | e | e | e | e | e | e | e | e | e
    · subst e
      have e1 : m_month_length y 1 = 31 := rfl
      have e2 : ytot y 1 = 365 + leap y := rfl
      have e3 : ytot y (1 + 1) = 334 + leap y := rfl
      omega
    · subst e
      have e1 := len2 y
      have e2 : ytot y 2 = 334 + leap y := rfl
      have e3 : ytot y (2 + 1) = 306 := rfl
      omega
    · subst e
      have e1 : m_month_length y 3 = 31 := rfl
      have e2 : ytot y 3 = 306 := rfl
      have e3 : ytot y (3 + 1) = 275 := rfl
      omega
    · subst e
      have e1 : m_month_length y 4 = 30 := rfl
      have e2 : ytot y 4 = 275 := rfl
      have e3 : ytot y (4 + 1) = 245 := rfl
      omega
    · subst e
      have e1 : m_month_length y 5 = 31 := rfl
      have e2 : ytot y 5 = 245 := rfl
      have e3 : ytot y (5 + 1) = 214 := rfl
      omega
    · subst e
      have e1 : m_month_length y 6 = 30 := rfl
      have e2 : ytot y 6 = 214 := rfl
      have e3 : ytot y (6 + 1) = 184 := rfl
      omega
    · subst e
      have e1 : m_month_length y 7 = 31 := rfl
      have e2 : ytot y 7 = 184 := rfl
      have e3 : ytot y (7 + 1) = 153 := rfl
      omega
    · subst e
      have e1 : m_month_length y 8 = 31 := rfl
      have e2 : ytot y 8 = 153 := rfl
      have e3 : ytot y (8 + 1) = 122 := rfl
      omega
    · subst e
      have e1 : m_month_length y 9 = 30 := rfl
      have e2 : ytot y 9 = 122 := rfl
      have e3 : ytot y (9 + 1) = 92 := rfl
      omega
    · subst e
      have e1 : m_month_length y 10 = 31 := rfl
      have e2 : ytot y 10 = 92 := rfl
      have e3 : ytot y (10 + 1) = 61 := rfl
      omega
    · subst e
      have e1 : m_month_length y 11 = 30 := rfl
      have e2 : ytot y 11 = 61 := rfl
      have e3 : ytot y (11 + 1) = 31 := rfl
      omega
    · subst e
      have e1 : m_month_length y 12 = 31 := rfl
      have e2 : ytot y 12 = 31 := rfl
      omega
theorem check_ok {d : Int} {u : Unit} (h : m_check_day d = .ok u) : 0 ≤ d ∧ d ≤ 36524 := by
  unfold m_check_day b_check_day m_is_day b_is_day at h
  by_cases c : 0 ≤ d ∧ d ≤ 36524
  · exact c
  · have e : (decide (0 ≤ d) && decide (d ≤ 36524)) = false := by simp; omega
    rw [show (Out.rt (decide (0 ≤ d) && decide (d ≤ 36524)) : Out Empty Unit Empty Bool).val = false from e] at h
    cases h
theorem check_in {d : Int} (h : 0 ≤ d ∧ d ≤ 36524) : m_check_day d = .ok () := by
  unfold m_check_day b_check_day m_is_day b_is_day
  have e : (decide (0 ≤ d) && decide (d ≤ 36524)) = true := by simp; omega
  rw [show (Out.rt (decide (0 ≤ d) && decide (d ≤ 36524)) : Out Empty Unit Empty Bool).val = true from e]
  rfl
theorem ystart {d y : Int} (h : 0 ≤ d ∧ d ≤ 36524) (e : y = 2000 + d / 366) : 2000 ≤ y ∧ y ≤ 2099 ∧ yfst y ≤ d := by
  unfold yfst
  omega
theorem yend {d y : Int} (h : d ≤ 36524) (hy : 2000 ≤ y ∧ y ≤ 2099 ∧ yfst y ≤ d) (he : ¬ (y < 2099 ∧ yfst (y + 1) ≤ d)) : 0 ≤ d - yfst y ∧ d - yfst y < ytot y 1 := by
  have e : ytot y 1 = 365 + leap y := rfl
  rw [e]
  unfold leap
  unfold yfst at *
  split <;> omega
theorem ends1 {d y : Int} (h : 2000 ≤ y) : Ends (wc_date_of_1 d) (st_date_of_1 d) 100 y :=
  ends_by (fun y => 2000 ≤ y) (fun y => (2099 - y).toNat) (fun y hy hc => by
    unfold wc_date_of_1 at hc
    rw [Bool.and_eq_true, decide_eq_true_eq] at hc
    refine ⟨by (try dsimp only); omega, fun y' h => ?_⟩
    rcases h with h | h
    · have e : y + 1 = y' := Out.nx.inj h
      (try dsimp only)
      omega
    · cases h) h (by (try dsimp only); omega)
theorem out1 {d y z : Int} (h : 2000 ≤ y) (e : (whileN (wc_date_of_1 d) (st_date_of_1 d) 100 y : Out (_root_.Fin 7) Int Empty (Int × Int × Int)) = .nx z) : ¬ (z < 2099 ∧ yfst (z + 1) ≤ d) := by
  have q := while_out (fun s s' h => by cases h) (ends1 h) e
  unfold wc_date_of_1 at q
  rw [fst_is] at q
  simpa using q
theorem ends2 {y l : Int} (h0 : 0 ≤ l) (h1 : l < ytot y 1) : Ends (wc_date_of_2 y) (st_date_of_2 y) 12 (l, 1) :=
  ends_by (fun s => 1 ≤ s.2 ∧ s.2 ≤ 12 ∧ 0 ≤ s.1 ∧ s.1 < ytot y s.2) (fun s => (12 - s.2).toNat) (fun s hs hc => by
    unfold wc_date_of_2 at hc
    rw [decide_eq_true_eq] at hc
    obtain ⟨q1, q2, q3⟩ := ystep2 ⟨hs.1, hs.2.1⟩ hs.2.2.1 hs.2.2.2 hc
    refine ⟨by (try dsimp only); omega, fun s' h => ?_⟩
    rcases h with h | h
    · have e : (s.1 - m_month_length y s.2, s.2 + 1) = s' := Out.nx.inj h
      rw [← e]
      refine ⟨⟨?_, ?_, q2, q3⟩, ?_⟩ <;> (try dsimp only) <;> omega
    · cases h) ⟨Int.le_refl 1, show (1 : Int) ≤ 12 by decide, h0, h1⟩ (by (try dsimp only); omega)
/-- what a day's date is -/
structure DateOk (d : Int) (t : Int × Int × Int) : Prop where
  yr : 2000 ≤ t.1 ∧ t.1 ≤ 2099
  mon : 1 ≤ t.2.1 ∧ t.2.1 ≤ 12
  dom : 1 ≤ t.2.2 ∧ t.2.2 ≤ m_month_length t.1 t.2.1
  sum : yfst t.1 + (ytot t.1 1 - ytot t.1 t.2.1) + t.2.2 - 1 = d
theorem tot_step (y m : Int) (h : 1 ≤ m ∧ m ≤ 11) : ytot y m = m_month_length y m + ytot y (m + 1) := by
  rcases months m ⟨h.1, by omega⟩ with e | e | e | e | e | e | e | e | e | e | e | e
  · subst e
    show 365 + leap y = 31 + (334 + leap y)
    omega
  · subst e
    rw [len2]
    show 334 + leap y = 28 + leap y + 306
    omega
  all_goals first | (subst e; rfl) | omega
theorem date_is {d : Int} (h : 0 ≤ d ∧ d ≤ 36524) : ∃ t, m_date_of d = .ok t ∧ DateOk d t := by
  have hs := ystart h rfl
  obtain ⟨y, ey, iy, cy⟩ := while_run (L := Empty) (fun y => 2000 ≤ y ∧ y ≤ 2099 ∧ yfst y ≤ d) (fun y hy hc => by
    refine ⟨y + 1, rfl, ?_⟩
    unfold wc_date_of_1 at hc
    rw [Bool.and_eq_true, decide_eq_true_eq, decide_eq_true_eq, fst_is] at hc
    omega) (ends1 (d := d) hs.1) hs
  have oy := out1 hs.1 ey
  obtain ⟨l0, l1⟩ := yend h.2 iy oy
  obtain ⟨z, ez, iz, cz⟩ := while_run (L := Empty) (fun s => (1 ≤ s.2 ∧ s.2 ≤ 12 ∧ 0 ≤ s.1 ∧ s.1 < ytot y s.2) ∧ yfst y + (ytot y 1 - ytot y s.2) + s.1 = d) (fun s hs hc => by
    refine ⟨(s.1 - m_month_length y s.2, s.2 + 1), rfl, ?_⟩
    unfold wc_date_of_2 at hc
    rw [decide_eq_true_eq] at hc
    obtain ⟨⟨i1, i2, i3, i4⟩, i5⟩ := hs
    obtain ⟨q1, q2, q3⟩ := ystep2 ⟨i1, i2⟩ i3 i4 hc
    have t := tot_step y s.2 ⟨i1, by omega⟩
    refine ⟨⟨?_, ?_, q2, q3⟩, ?_⟩ <;> (try dsimp only) <;> omega) (ends2 (y := y) l0 l1) ⟨⟨Int.le_refl 1, show (1 : Int) ≤ 12 by decide, l0, l1⟩, by (try dsimp only); omega⟩
  unfold wc_date_of_2 at cz
  rw [decide_eq_false_iff_not] at cz
  refine ⟨(y, z.2, z.1 + 1), ?_, ⟨⟨iy.1, iy.2.1⟩, ⟨iz.1.1, iz.1.2.1⟩, ⟨?_, ?_⟩, ?_⟩⟩
  · unfold m_date_of b_date_of letV
    rw [check_in h]
    simp only [callE_ok]
    rw [ey]
    simp only [Out.bind_nx]
    rw [fst_is, ez]
    rfl
  · (try dsimp only)
    have := iz.1.2.2.1
    omega
  · (try dsimp only)
    omega
  · (try dsimp only)
    have := iz.2
    omega
theorem date_sure {d : Int} (h : 0 ≤ d ∧ d ≤ 36524) : m_date_of d = .ok (okV (m_date_of d)) := by
  obtain ⟨t, e, _⟩ := date_is h
  rw [e]
  rfl
theorem date_right {d : Int} (h : 0 ≤ d ∧ d ≤ 36524) : DateOk d (okV (m_date_of d)) := by
  obtain ⟨t, e, q⟩ := date_is h
  rw [e]
  exact q
theorem sum_is (y m : Int) (h : 1 ≤ m ∧ m ≤ 12) : ((rng 1 m).map (fun e : Int => m_month_length y e)).sum = ytot y 1 - ytot y m := by
  have hl := len2 y
  rcases months m h with e | e | e | e | e | e | e | e | e | e | e | e
  · subst e
    show (0 : Int) = _
    omega
  · subst e
    show 31 + (0 : Int) = 365 + leap y - (334 + leap y)
    omega
  · subst e
    show 31 + (m_month_length y 2 + (0 : Int)) = 365 + leap y - 306
    omega
  · subst e
    show 31 + (m_month_length y 2 + (31 + (0 : Int))) = 365 + leap y - 275
    omega
  · subst e
    show 31 + (m_month_length y 2 + (31 + (30 + (0 : Int)))) = 365 + leap y - 245
    omega
  · subst e
    show 31 + (m_month_length y 2 + (31 + (30 + (31 + (0 : Int))))) = 365 + leap y - 214
    omega
  · subst e
    show 31 + (m_month_length y 2 + (31 + (30 + (31 + (30 + (0 : Int)))))) = 365 + leap y - 184
    omega
  · subst e
    show 31 + (m_month_length y 2 + (31 + (30 + (31 + (30 + (31 + (0 : Int))))))) = 365 + leap y - 153
    omega
  · subst e
    show 31 + (m_month_length y 2 + (31 + (30 + (31 + (30 + (31 + (31 + (0 : Int)))))))) = 365 + leap y - 122
    omega
  · subst e
    show 31 + (m_month_length y 2 + (31 + (30 + (31 + (30 + (31 + (31 + (30 + (0 : Int))))))))) = 365 + leap y - 92
    omega
  · subst e
    show 31 + (m_month_length y 2 + (31 + (30 + (31 + (30 + (31 + (31 + (30 + (31 + (0 : Int)))))))))) = 365 + leap y - 61
    omega
  · subst e
    show 31 + (m_month_length y 2 + (31 + (30 + (31 + (30 + (31 + (31 + (30 + (31 + (30 + (0 : Int))))))))))) = 365 + leap y - 31
    omega
theorem check_out {d : Int} (h : ¬ (0 ≤ d ∧ d ≤ 36524)) : m_check_day d = .error 1 := by
  unfold m_check_day b_check_day m_is_day b_is_day
  have e : (decide (0 ≤ d) && decide (d ≤ 36524)) = false := by simp; omega
  rw [show (Out.rt (decide (0 ≤ d) && decide (d ≤ 36524)) : Out Empty Unit Empty Bool).val = false from e]
  rfl
theorem date_out {d : Int} (h : ¬ (0 ≤ d ∧ d ≤ 36524)) : m_date_of d = .error 1 := by
  unfold m_date_of b_date_of
  rw [check_out h]
  rfl
theorem yfst_step (y : Int) : yfst (y + 1) = yfst y + ytot y 1 := by
  show _ = _ + (365 + leap y)
  unfold yfst leap
  split <;> omega
theorem yfst_mono {a b : Int} (h : a < b) : yfst a + ytot a 1 ≤ yfst b := by
  show _ + (365 + leap a) ≤ _
  unfold yfst leap
  split <;> omega
theorem tot_dec (y m n : Int) (h : 1 ≤ m) (g : m < n) (k : n ≤ 12) : ytot y n + m_month_length y m ≤ ytot y m := by
  rw [tot_step y m ⟨h, by omega⟩]
  have mono : ∀ j : Nat, ∀ a : Int, 1 ≤ a → a + j ≤ 12 → ytot y (a + j) ≤ ytot y a := by
    intro j
    induction j with
    | zero => intro a _ _; rw [show a + ((0 : Nat) : Int) = a by omega]; exact Int.le_refl _
    | succ j ih =>
      intro a h1 h2
      have q := ih (a + 1) (by omega) (by omega)
      rw [show a + 1 + (j : Int) = a + ((j + 1 : Nat) : Int) by omega] at q
      have t := tot_step y a ⟨h1, by omega⟩
      have p : 0 ≤ m_month_length y a := by
        have hl := leap01 y
        by_cases e : a = 2
        · rw [e, len2]; omega
        · rcases months a ⟨h1, by omega⟩ with e | e | e | e | e | e | e | e | e | e | e | e
          all_goals first | omega | (subst e; rw [lenO _ _ (by decide)]; decide)
      omega
  have q := mono (n - (m + 1)).toNat (m + 1) (by omega) (by omega)
  rw [show m + 1 + ((n - (m + 1)).toNat : Int) = n by omega] at q
  omega
theorem dom_le {y m x : Int} (h : 1 ≤ m ∧ m ≤ 12) (d : 1 ≤ x ∧ x ≤ m_month_length y m) : 0 ≤ ytot y 1 - ytot y m ∧ ytot y 1 - ytot y m + x ≤ ytot y 1 := by
  constructor
  · by_cases e : m = 1
    · rw [e]; omega
    · have q := tot_dec y 1 m (by decide) (by omega) h.2
      have e1 : m_month_length y 1 = 31 := rfl
      omega
  · by_cases e : m = 12
    · subst e
      have e1 : m_month_length y 12 = 31 := rfl
      have e2 : ytot y 12 = 31 := rfl
      omega
    · have q := tot_dec y m 12 h.1 (by omega) (by decide)
      have e2 : ytot y 12 = 31 := rfl
      omega
theorem DateOk.uniq {d : Int} {s t : Int × Int × Int} (a : DateOk d s) (b : DateOk d t) : s = t := by
  obtain ⟨y, m, x⟩ := s
  obtain ⟨y', m', x'⟩ := t
  obtain ⟨a1, a2, a3, a4⟩ := a
  obtain ⟨b1, b2, b3, b4⟩ := b
  dsimp only at *
  have p := dom_le a2 a3
  have q := dom_le b2 b3
  have ey : y = y' := by
    rcases Int.lt_trichotomy y y' with c | c | c
    · have := yfst_mono c; omega
    · exact c
    · have := yfst_mono c; omega
  subst ey
  have em : m = m' := by
    rcases Int.lt_trichotomy m m' with c | c | c
    · have := tot_dec y m m' a2.1 c b2.2; omega
    · exact c
    · have := tot_dec y m' m b2.1 c a2.2; omega
  subst em
  have ex : x = x' := by omega
  rw [ex]
theorem date_eq {d : Int} {t : Int × Int × Int} (h : 0 ≤ d ∧ d ≤ 36524) (b : DateOk d t) : okV (m_date_of d) = t := (date_right h).uniq b
theorem lens (y m : Int) (h : 1 ≤ m ∧ m ≤ 12) : m_month_length y m = if m = 2 ∧ y % 4 = 0 then 29 else ixg [31, 28, 31, 30, 31, 30, 31, 31, 30, 31, 30, 31] (m - 1) := by
  by_cases e : m = 2
  · subst e
    rw [len2]
    unfold leap
    by_cases c : y % 4 = 0
    · rw [if_pos c, if_pos ⟨rfl, c⟩]; rfl
    · rw [if_neg c, if_neg (by omega)]; rfl
  · rw [lenO _ _ e, if_neg (by omega)]
    rfl
theorem week_sure {d : Int} (h : 0 ≤ d ∧ d ≤ 36524) : m_weekday d = .ok (okV (m_weekday d)) := by
  unfold m_weekday b_weekday
  rw [check_in h]
  rfl
theorem week_out {d : Int} (h : ¬ (0 ≤ d ∧ d ≤ 36524)) : m_weekday d = .error 1 := by
  unfold m_weekday b_weekday
  rw [check_out h]
  rfl
theorem week_is {d : Int} (h : 0 ≤ d ∧ d ≤ 36524) : okV (m_weekday d) = (d + 5) % 7 := by
  unfold m_weekday b_weekday
  rw [check_in h]
  rfl
theorem rng_cons {a b : Int} (h : a < b) : rng a b = a :: rng (a + 1) b := by
  unfold rng
  have e : (b - a).toNat = (b - (a + 1)).toNat + 1 := by omega
  rw [e, List.range_succ_eq_map, List.map_cons, List.map_map]
  rw [show ((fun k : Nat => a + (k : Int)) ∘ Nat.succ) = fun k : Nat => a + 1 + (k : Int) from funext fun k => by
    show a + ((k + 1 : Nat) : Int) = a + 1 + (k : Int)
    omega]
  simp
theorem rng_nil {a b : Int} (h : b ≤ a) : rng a b = [] := by
  unfold rng
  rw [show (b - a).toNat = 0 by omega]
  rfl
theorem llen {y m : Int} (h : 1 ≤ m ∧ m ≤ 12) : m_law_length y m = m_month_length y m := by
  rw [lens y m h]
  unfold m_law_length b_law_length
  by_cases c : m = 2 ∧ y % 4 = 0
  · rw [if_pos (by simpa using c), if_pos c]
    rfl
  · rw [if_neg (by simpa using c), if_neg c]
    rfl
theorem len_pos {y m : Int} (h : 1 ≤ m ∧ m ≤ 12) : 28 ≤ m_month_length y m ∧ m_month_length y m ≤ 31 := by
  rw [lens y m h]
  split
  · omega
  · rcases months m h with e | e | e | e | e | e | e | e | e | e | e | e
    all_goals (subst e; decide)
/-- the months' loop -/
theorem months_loop (y0 y : Int) : ∀ (k : Nat) (m left : Int), m = 13 - (k : Int) → 1 ≤ m → m ≤ 12 → 0 ≤ left → left < ytot y m →
    ∃ m' x, (forL (st_law_date_2 (y0, y)) left (rng m 13) : Out Empty Int Empty (Option (Int × Int × Int))) = .rt (some (y, m', x)) ∧ m ≤ m' ∧ m' ≤ 12 ∧ 1 ≤ x ∧ x ≤ m_month_length y m' ∧ (ytot y m - ytot y m') + x - 1 = left := by
  intro k
  induction k with
  | zero => intro m left e h1 h2; omega
  | succ k ih =>
    intro m left e h1 h2 l0 l1
    rw [rng_cons (by omega), forL_cons]
    unfold st_law_date_2
    dsimp only
    rw [llen ⟨h1, h2⟩]
    by_cases c : left < m_month_length y m
    · rw [if_pos (by simpa using c)]
      exact ⟨m, left + 1, rfl, Int.le_refl _, h2, by omega, by omega, by omega⟩
    · rw [if_neg (by simpa using c)]
      obtain ⟨q1, q2, q3⟩ := ystep2 ⟨h1, h2⟩ l0 l1 (by omega)
      obtain ⟨m', x, e1, e2, e3, e4, e5, e6⟩ := ih (m + 1) (left - m_month_length y m) (by omega) (by omega) (by omega) q2 q3
      have t := tot_step y m ⟨h1, by omega⟩
      refine ⟨m', x, ?_, by omega, e3, e4, e5, by omega⟩
      unfold letV
      exact e1
theorem years_loop (r y : Int) : (forL st_law_date_1 (r, y) (rng 0 3) : Out Empty (Int × Int) Empty (Option (Int × Int × Int))) =
    .nx (if r < 366 then (r, y) else if r - 366 < 365 then (r - 366, y + 1) else if r - 731 < 365 then (r - 731, y + 2) else (r - 1096, y + 3)) := by
  rw [show rng 0 3 = [0, 1, 2] from rfl]
  rw [forL_cons]
  unfold st_law_date_1 letV
  dsimp only
  by_cases c : r < 366
  · rw [if_pos c, if_pos (by simp; omega)]
  · rw [if_neg c, if_neg (by simp; omega)]
    dsimp only
    rw [forL_cons]
    dsimp only
    by_cases c : r - 366 < 365
    · rw [if_pos c, if_pos (by simp; omega)]
      rfl
    · rw [if_neg c, if_neg (by simp; omega)]
      dsimp only
      rw [forL_cons]
      dsimp only
      by_cases c : r - 731 < 365
      · rw [if_pos c, if_pos (by simp; omega)]
        simp only [Out.nx.injEq, Prod.mk.injEq]
        constructor <;> (try simp) <;> omega
      · rw [if_neg c, if_neg (by simp; omega)]
        show Out.nx _ = Out.nx _
        simp only [Out.nx.injEq, Prod.mk.injEq]
        constructor <;> (try simp) <;> omega
theorem ldate_is {d : Int} (h : 0 ≤ d ∧ d ≤ 36524) : ∃ t, m_law_date d = some t ∧ DateOk d t := by
  have key : ∃ y l, (forL st_law_date_1 (d % 1461, 2000 + 4 * (d / 1461)) (rng 0 3) : Out Empty (Int × Int) Empty (Option (Int × Int × Int))) = .nx (l, y) ∧ 2000 ≤ y ∧ y ≤ 2099 ∧ 0 ≤ l ∧ l < ytot y 1 ∧ yfst y + l = d := by
    rw [years_loop]
    have e : ∀ y, ytot y 1 = 365 + leap y := fun _ => rfl
    simp only [e]
    unfold yfst leap
    by_cases c1 : d % 1461 < 366
    · rw [if_pos c1]
      exact ⟨_, _, rfl, by omega, by omega, by omega, by (split <;> omega), by omega⟩
    · rw [if_neg c1]
      by_cases c2 : d % 1461 - 366 < 365
      · rw [if_pos c2]
        exact ⟨_, _, rfl, by omega, by omega, by omega, by (split <;> omega), by omega⟩
      · rw [if_neg c2]
        by_cases c3 : d % 1461 - 731 < 365
        · rw [if_pos c3]
          exact ⟨_, _, rfl, by omega, by omega, by omega, by (split <;> omega), by omega⟩
        · rw [if_neg c3]
          exact ⟨_, _, rfl, by omega, by omega, by omega, by (split <;> omega), by omega⟩
  obtain ⟨y, l, e1, y0, y1, l0, l1, es⟩ := key
  obtain ⟨m, x, e2, m1, m2, x1, x2, e3⟩ := months_loop l y 12 1 l rfl (by decide) (by decide) l0 l1
  refine ⟨(y, m, x), ?_, ⟨⟨y0, y1⟩, ⟨m1, m2⟩, ⟨x1, x2⟩, by dsimp only; omega⟩⟩
  unfold m_law_date b_law_date letV
  dsimp only
  rw [e1]
  simp only [Out.bind_nx]
  rw [e2]
  rfl
theorem ldate_some {d : Int} (h : 0 ≤ d ∧ d ≤ 36524) : (m_law_date d).isSome = true := by
  obtain ⟨t, e, _⟩ := ldate_is h
  rw [e]
  rfl
theorem ldate_ok {d : Int} (h : 0 ≤ d ∧ d ≤ 36524) : DateOk d (oGet (m_law_date d)) := by
  obtain ⟨t, e, q⟩ := ldate_is h
  rw [e]
  exact q
end Ck08

namespace Ck08
open J
theorem work_is {d : Int} (hs : List Int) (h : 0 ≤ d ∧ d ≤ 36524) : m_is_working d hs = .ok (m_law_works d hs) := by
  have e := week_is h
  have s := week_sure h
  rw [e] at s
  unfold m_is_working b_is_working
  rw [s]
  simp [m_law_works, b_law_works, callE, Out.res, Out.val]
theorem work_sure {d : Int} {hs : List Int} (h : 0 ≤ d ∧ d ≤ 36524) : m_is_working d hs = .ok (okV (m_is_working d hs)) := by
  rw [work_is hs h]
  rfl
/-- the first item at which a loop leaves -/
theorem forL_first {L R : Type} (f : Unit → Int → Out Empty Unit Unit R) (h : ∀ x, f () x = .nx () ∨ ∃ r, f () x = .rt r) : ∀ (k : Nat) (a b : Int), (b - a).toNat = k →
    ((forL f () (rng a b) : Out Empty Unit L R) = .nx () ∧ ∀ x, a ≤ x → x < b → f () x = .nx ()) ∨
    ∃ x r, a ≤ x ∧ x < b ∧ f () x = .rt r ∧ (forL f () (rng a b) : Out Empty Unit L R) = .rt r ∧ ∀ y, a ≤ y → y < x → f () y = .nx () := by
  intro k
  induction k with
  | zero =>
    intro a b e
    rw [rng_nil (by omega)]
    exact .inl ⟨rfl, fun x h1 h2 => by omega⟩
  | succ k ih =>
    intro a b e
    rw [rng_cons (by omega), forL_cons]
    rcases h a with e1 | ⟨r, e1⟩
    · rw [e1]
      dsimp only
      rcases ih (a + 1) b (by omega) with ⟨q1, q2⟩ | ⟨x, r, q1, q2, q3, q4, q5⟩
      · refine .inl ⟨q1, fun x h1 h2 => ?_⟩
        by_cases c : x = a
        · rw [c]; exact e1
        · exact q2 x (by omega) h2
      · refine .inr ⟨x, r, by omega, q2, q3, q4, fun y h1 h2 => ?_⟩
        by_cases c : y = a
        · rw [c]; exact e1
        · exact q5 y (by omega) h2
    · rw [e1]
      exact .inr ⟨a, r, Int.le_refl _, by omega, e1, rfl, fun y h1 h2 => by omega⟩
/-- o is the first working day of those from d to the last one, by steps of s (1 or -1) -/
def FirstW (hs : List Int) (d s : Int) (o : Option Int) : Prop :=
  (o = none ∧ ∀ k, 0 ≤ k → 0 ≤ d + s * k → d + s * k ≤ 36524 → m_law_works (d + s * k) hs = false) ∨
  ∃ k, 0 ≤ k ∧ 0 ≤ d + s * k ∧ d + s * k ≤ 36524 ∧ o = some (d + s * k) ∧ m_law_works (d + s * k) hs = true ∧ ∀ j, 0 ≤ j → j < k → 0 ≤ d + s * j → d + s * j ≤ 36524 → m_law_works (d + s * j) hs = false
theorem FirstW.uniq {hs : List Int} {d s : Int} {o o' : Option Int} (a : FirstW hs d s o) (b : FirstW hs d s o') : o = o' := by
  rcases a with ⟨rfl, a⟩ | ⟨k, k0, l0, l1, rfl, w, a⟩
  · rcases b with ⟨rfl, b⟩ | ⟨k, k0, l0, l1, rfl, w, b⟩
    · rfl
    · rw [a k k0 l0 l1] at w
      cases w
  · rcases b with ⟨rfl, b⟩ | ⟨k', k0', l0', l1', rfl, w', b⟩
    · rw [b k k0 l0 l1] at w
      cases w
    · rcases Int.lt_trichotomy k k' with c | c | c
      · rw [b k k0 c l0 l1] at w
        cases w
      · rw [c]
      · rw [a k' k0' c l0' l1'] at w'
        cases w'
theorem next_is {d : Int} {hs : List Int} (h : 0 ≤ d ∧ d ≤ 36524) : FirstW hs d 1 (m_next_working d hs) := by
  have st : ∀ x, st_next_working_1 hs () x = if okV (m_is_working x hs) = true then .rt (some x) else .nx () := fun _ => rfl
  rcases forL_first (L := Empty) (st_next_working_1 hs) (fun x => by rw [st]; split; exact .inr ⟨_, rfl⟩; exact .inl rfl) _ d (36524 + 1) rfl with ⟨q1, q2⟩ | ⟨x, r, q1, q2, q3, q4, q5⟩
  · refine .inl ⟨?_, fun k k0 l0 l1 => ?_⟩
    · unfold m_next_working b_next_working
      rw [q1]
      rfl
    · have e := q2 (d + 1 * k) (by omega) (by omega)
      rw [st, work_is hs (by omega), okV_ok] at e
      cases c : m_law_works (d + 1 * k) hs with
      | false => rfl
      | true =>
        rw [c, if_pos rfl] at e
        cases e
  · have e3 : m_next_working d hs = r := by
      unfold m_next_working b_next_working
      rw [q4]
      rfl
    rw [st, work_is hs (by omega), okV_ok] at q3
    cases c : m_law_works x hs with
    | false =>
      rw [c, if_neg (by decide)] at q3
      cases q3
    | true =>
      rw [c, if_pos rfl] at q3
      have er : some x = r := Out.rt.inj q3
      have ex : d + 1 * (x - d) = x := by omega
      refine .inr ⟨x - d, by omega, by omega, by omega, by rw [e3, ← er, ex], by rw [ex]; exact c, fun j j0 j1 l0 l1 => ?_⟩
      have e := q5 (d + 1 * j) (by omega) (by omega)
      rw [st, work_is hs (by omega), okV_ok] at e
      cases c : m_law_works (d + 1 * j) hs with
      | false => rfl
      | true =>
        rw [c, if_pos rfl] at e
        cases e
theorem prev_is {d : Int} {hs : List Int} (h : 0 ≤ d ∧ d ≤ 36524) : FirstW hs d (-1) (m_previous_working d hs) := by
  have st : ∀ x, st_previous_working_1 d hs () x = if okV (m_is_working (d - x) hs) = true then .rt (some (d - x)) else .nx () := fun _ => rfl
  have sub : ∀ k : Int, d + -1 * k = d - k := fun k => by omega
  simp only [FirstW, sub]
  rcases forL_first (L := Empty) (st_previous_working_1 d hs) (fun x => by rw [st]; split; exact .inr ⟨_, rfl⟩; exact .inl rfl) _ 0 (d + 1) rfl with ⟨q1, q2⟩ | ⟨x, r, q1, q2, q3, q4, q5⟩
  · refine .inl ⟨?_, fun k k0 l0 l1 => ?_⟩
    · unfold m_previous_working b_previous_working
      rw [q1]
      rfl
    · have e := q2 k (by omega) (by omega)
      rw [st, work_is hs (by omega), okV_ok] at e
      cases c : m_law_works (d - k) hs with
      | false => rfl
      | true =>
        rw [c, if_pos rfl] at e
        cases e
  · have e3 : m_previous_working d hs = r := by
      unfold m_previous_working b_previous_working
      rw [q4]
      rfl
    rw [st, work_is hs (by omega), okV_ok] at q3
    cases c : m_law_works (d - x) hs with
    | false =>
      rw [c, if_neg (by decide)] at q3
      cases q3
    | true =>
      rw [c, if_pos rfl] at q3
      have er : some (d - x) = r := Out.rt.inj q3
      refine .inr ⟨x, by omega, by omega, by omega, by rw [e3, ← er], c, fun j j0 j1 l0 l1 => ?_⟩
      have e := q5 j (by omega) (by omega)
      rw [st, work_is hs (by omega), okV_ok] at e
      cases c : m_law_works (d - j) hs with
      | false => rfl
      | true =>
        rw [c, if_pos rfl] at e
        cases e
theorem next_in {d : Int} {hs : List Int} (h : 0 ≤ d ∧ d ≤ 36524) (s : (m_next_working d hs).isSome = true) : 0 ≤ oGet (m_next_working d hs) ∧ oGet (m_next_working d hs) ≤ 36524 := by
  rcases next_is h (hs := hs) with ⟨e, _⟩ | ⟨k, k0, l0, l1, e, _⟩
  · rw [e] at s
    cases s
  · rw [e]
    exact ⟨l0, l1⟩
theorem search_st (d s : Int) (hs : List Int) (x : Int) : st_law_search_1 d s hs () x = if (decide (d + s * x < 0) || decide (36524 < d + s * x)) = true then .rt none else if m_law_works (d + s * x) hs = true then .rt (some (d + s * x)) else .nx () := rfl
theorem search_or (d s : Int) (hs : List Int) (x : Int) : st_law_search_1 d s hs () x = .nx () ∨ ∃ r, st_law_search_1 d s hs () x = .rt r := by
  rw [search_st]
  split
  · exact .inr ⟨_, rfl⟩
  · split
    · exact .inr ⟨_, rfl⟩
    · exact .inl rfl
theorem search_in {d s : Int} {hs : List Int} (h : (m_law_search d s hs).isSome = true) : 0 ≤ oGet (m_law_search d s hs) ∧ oGet (m_law_search d s hs) ≤ 36524 := by
  rcases forL_first (L := Empty) (st_law_search_1 d s hs) (search_or d s hs) _ 0 120 rfl with ⟨q1, q2⟩ | ⟨x, r, q1, q2, q3, q4, q5⟩
  · have e : m_law_search d s hs = none := by
      unfold m_law_search b_law_search
      rw [q1]
      rfl
    rw [e] at h
    cases h
  · have e : m_law_search d s hs = r := by
      unfold m_law_search b_law_search
      rw [q4]
      rfl
    rw [search_st] at q3
    by_cases c : (decide (d + s * x < 0) || decide (36524 < d + s * x)) = true
    · rw [if_pos c] at q3
      rw [e, ← Out.rt.inj q3] at h
      cases h
    · rw [if_neg c] at q3
      by_cases c2 : m_law_works (d + s * x) hs = true
      · rw [if_pos c2] at q3
        rw [e, ← Out.rt.inj q3]
        simp at c
        exact c
      · rw [if_neg c2] at q3
        cases q3
theorem day_in {ns : List Int} (h : Nums 32 ns) : 0 ≤ m_law_day ns ∧ m_law_day ns ≤ 36524 := by
  unfold m_law_day b_law_day
  split
  · simp only [Out.val_rt]; omega
  · split
    · simp only [Out.val_rt]; omega
    · simp only [Out.val_rt]; omega
theorem hows_is (w : List Nat) (h : w ∈ [[110, 111, 110, 101], [110, 101, 120, 116], [112, 114, 101, 118, 105, 111, 117, 115], [109, 111, 100, 105, 102, 105, 101, 100]]) : 4 ≤ w.length ∧ w.length ≤ 8 ∧ ∀ c ∈ w, 97 ≤ c ∧ c ≤ 122 := by
  revert w
  decide
theorem ascii_at {w : List Nat} {i : Int} (h : ∀ c ∈ w, 97 ≤ c ∧ c ≤ 122) (h0 : 0 ≤ i) (h1 : i < (w.length : Int)) : ([ixg w i].all fun c => decide (c < 128)) = true := by
  have q := h _ (ixg_mem h0 h1)
  simp
  omega
theorem ok_kinds (k : _root_.Fin 7) : ∀ s ∈ m_law_kinds k, ∀ c ∈ s, c < 1114112 := by
  revert k
  decide
/-- may be compared -/
abbrev okS (z : Bool ⊕ List (List Nat)) : Prop := match z with
  | .inl _ => True
  | .inr l => ∀ s ∈ l, ∀ c ∈ s, c < 1114112
theorem ok_try {m : Except (_root_.Fin 7) Bool} {z : Bool ⊕ List (List Nat)} (h : (tryO (ε' := _root_.Fin 7) (callE m fun x => .nx (Sum.inl x) : Out (_root_.Fin 7) (Bool ⊕ List (List Nat)) Unit Bool) (fun k => .nx (Sum.inr (m_law_kinds k))) : Out Empty (Bool ⊕ List (List Nat)) Unit Bool) = .nx z) : okS z := by
  cases m with
  | ok x =>
    rw [← Out.nx.inj h]
    trivial
  | error k =>
    rw [← Out.nx.inj h]
    exact ok_kinds k
theorem ok_told (y : Int) (m : List Int) (d : List Nat) : (∀ c ∈ (m_law_told y m d).1, c < 1114112) ∧ ∀ x ∈ (m_law_told y m d).2, match x with
    | .inl _ => True
    | .inr l => ∀ c ∈ l, c < 1114112 := by
  unfold m_law_told b_law_told letV
  dsimp only
  cases m_adjust y m d with
  | ok x =>
    simp only [callE_ok, tryO_nx, Out.bind_nx]
    rw [if_neg (by simp)]
    refine ⟨?_, ?_⟩
    · show ∀ c ∈ ([100, 97, 121] : List Nat), c < 1114112
      decide
    · show ∀ z ∈ [(Sum.inl x : Int ⊕ List Nat)], _
      intro z hz
      rw [List.mem_singleton.mp hz]
      trivial
  | error k =>
    refine ⟨?_, ?_⟩
    · show ∀ c ∈ ([114, 97, 105, 115, 101, 100] : List Nat), c < 1114112
      decide
    · show ∀ z ∈ (m_law_kinds k).map (Sum.inr : List Nat → Int ⊕ List Nat), _
      intro z hz
      obtain ⟨l, hl, rfl⟩ := List.mem_map.mp hz
      exact ok_kinds k l hl
theorem ok_due (y : Int) (m : List Int) (d : List Nat) : (∀ c ∈ (m_law_due y m d).1, c < 1114112) ∧ ∀ x ∈ (m_law_due y m d).2, match x with
    | .inl _ => True
    | .inr l => ∀ c ∈ l, c < 1114112 := by
  have fin : ∀ o : Option Int, (∀ c ∈ (if o.isNone = true then (Out.rt ([114, 97, 105, 115, 101, 100], [(Sum.inr [66, 97, 100, 68, 97, 121])]) : Out Empty Unit Empty ((List Nat) × (List (Int ⊕ (List Nat))))) else .rt ([100, 97, 121], [(Sum.inl (oGet o))])).val.1, c < 1114112) ∧ ∀ x ∈ (if o.isNone = true then (Out.rt ([114, 97, 105, 115, 101, 100], [(Sum.inr [66, 97, 100, 68, 97, 121])]) : Out Empty Unit Empty ((List Nat) × (List (Int ⊕ (List Nat))))) else .rt ([100, 97, 121], [(Sum.inl (oGet o))])).val.2, match x with
    | .inl _ => True
    | .inr l => ∀ c ∈ l, c < 1114112 := by
    intro o
    cases o with
    | none =>
      refine ⟨by decide, fun z hz => ?_⟩
      rw [List.mem_singleton.mp hz]
      show ∀ c ∈ _, _
      decide
    | some x =>
      refine ⟨show ∀ c ∈ ([100, 97, 121] : List Nat), c < 1114112 by decide, fun z hz => ?_⟩
      rw [List.mem_singleton.mp hz]
      trivial
  unfold m_law_due b_law_due letV
  dsimp only
  split
  · refine ⟨show ∀ c ∈ ([100, 97, 121] : List Nat), c < 1114112 by decide, fun z hz => ?_⟩
    rw [List.mem_singleton.mp hz]
    trivial
  · split
    · exact fin _
    · split
      · exact fin _
      · exact fin _
end Ck08

namespace Ck08
open J
theorem works_is (d : Int) (hs : List Int) : m_law_works d hs = (decide ((d + 5) % 7 < 5) && !inB d hs) := rfl
theorem pig : ∀ (n : Nat) (f : Nat → Int) (hs : List Int), (∀ i j, i < n → j < n → f i = f j → i = j) → (∀ i, i < n → f i ∈ hs) → n ≤ hs.length := by
  intro n
  induction n with
  | zero => intro f hs _ _; exact Nat.zero_le _
  | succ n ih =>
    intro f hs inj al
    have hm := al n (Nat.lt_succ_self n)
    have q := ih f (hs.erase (f n)) (fun i j hi hj e => inj i j (by omega) (by omega) e) (fun i hi => (List.mem_erase_of_ne (fun e => by have := inj i n (by omega) (by omega) e; omega)).mpr (al i (by omega)))
    rw [List.length_erase_of_mem hm] at q
    have : 0 < hs.length := List.length_pos_of_mem hm
    omega
/-- few holidays, or all of them close to one another -/
def Thin (hs : List Int) : Prop := hs.length ≤ 64 ∨ ∃ f, ∀ y ∈ hs, f ≤ y ∧ y ≤ f + 99
theorem thin_work {hs : List Int} (h : Thin hs) (a : Int) : ∃ k, 0 ≤ k ∧ k < 120 ∧ m_law_works (a + k) hs = true := by
  rcases h with h | ⟨f, h⟩
  · refine Classical.byContradiction fun no => ?_
    have no' : ∀ k, 0 ≤ k → k < 120 → m_law_works (a + k) hs = false := fun k k0 k1 => by
      cases c : m_law_works (a + k) hs with
      | false => rfl
      | true => exact absurd ⟨k, k0, k1, c⟩ no
    have q := pig 80 (fun j => a + (2 - a) % 7 + 7 * ((j / 5 : Nat) : Int) + ((j % 5 : Nat) : Int)) hs (fun i j hi hj e => by (try dsimp only at e); omega) (fun j hj => by
      have e := no' ((2 - a) % 7 + 7 * ((j / 5 : Nat) : Int) + ((j % 5 : Nat) : Int)) (by omega) (by omega)
      rw [show a + ((2 - a) % 7 + 7 * ((j / 5 : Nat) : Int) + ((j % 5 : Nat) : Int)) = a + (2 - a) % 7 + 7 * ((j / 5 : Nat) : Int) + ((j % 5 : Nat) : Int) by omega, works_is, Bool.and_eq_false_iff] at e
      rcases e with e | e
      · have := of_decide_eq_false e
        omega
      · exact inB_iff.mp (by simpa using e))
    omega
  · have free : ∀ b, (b + 2 < f ∨ f + 99 < b) → ∃ k, 0 ≤ k ∧ k ≤ 2 ∧ m_law_works (b + k) hs = true := by
      intro b hb
      have fr : ∀ k, 0 ≤ k → k ≤ 2 → inB (b + k) hs = false := fun k k0 k1 => by
        cases c : inB (b + k) hs with
        | false => rfl
        | true =>
          have := h _ (inB_iff.mp c)
          omega
      have w : ∃ k, 0 ≤ k ∧ k ≤ 2 ∧ (b + k + 5) % 7 < 5 := by
        by_cases c0 : (b + 0 + 5) % 7 < 5
        · exact ⟨0, by decide, by decide, c0⟩
        · by_cases c1 : (b + 1 + 5) % 7 < 5
          · exact ⟨1, by decide, by decide, c1⟩
          · exact ⟨2, by decide, by decide, by omega⟩
      obtain ⟨k, k0, k1, c⟩ := w
      exact ⟨k, k0, k1, by rw [works_is, fr k k0 k1, decide_eq_true c]; rfl⟩
    by_cases c : a + 2 < f ∨ f + 99 < a
    · obtain ⟨k, k0, k1, w⟩ := free a c
      exact ⟨k, k0, by omega, w⟩
    · obtain ⟨k, k0, k1, w⟩ := free (f + 100) (.inr (by omega))
      exact ⟨f + 100 + k - a, by omega, by omega, by rw [show a + (f + 100 + k - a) = f + 100 + k by omega]; exact w⟩
theorem search_is {d s : Int} {hs : List Int} (h : 0 ≤ d ∧ d ≤ 36524) (t : Thin hs) (hs1 : s = 1 ∨ s = -1) : FirstW hs d s (m_law_search d s hs) := by
  rcases forL_first (L := Empty) (st_law_search_1 d s hs) (search_or d s hs) _ 0 120 rfl with ⟨q1, q2⟩ | ⟨x, r, q1, q2, q3, q4, q5⟩
  · exfalso
    have no : ∀ k, 0 ≤ k → k < 120 → m_law_works (d + s * k) hs = false := fun k k0 k1 => by
      have e := q2 k k0 k1
      rw [search_st] at e
      split at e
      · cases e
      · split at e
        · cases e
        · rename_i c
          simpa using c
    rcases hs1 with rfl | rfl
    · obtain ⟨k, k0, k1, w⟩ := thin_work t d
      have e := no k k0 k1
      rw [Int.one_mul, w] at e
      cases e
    · obtain ⟨k, k0, k1, w⟩ := thin_work t (d - 119)
      have e := no (119 - k) (by omega) (by omega)
      rw [show d + -1 * (119 - k) = d - 119 + k by omega, w] at e
      cases e
  · have e : m_law_search d s hs = r := by
      unfold m_law_search b_law_search
      rw [q4]
      rfl
    rw [e]
    have bef : ∀ y, 0 ≤ y → y < x → 0 ≤ d + s * y ∧ d + s * y ≤ 36524 ∧ m_law_works (d + s * y) hs = false := fun y y0 y1 => by
      have e := q5 y y0 y1
      rw [search_st] at e
      split at e
      · cases e
      · split at e
        · cases e
        · rename_i c1 c2
          simp at c1
          exact ⟨c1.1, c1.2, by simpa using c2⟩
    rw [search_st] at q3
    split at q3
    · rename_i c
      refine .inl ⟨(Out.rt.inj q3).symm, fun k k0 l0 l1 => ?_⟩
      by_cases kx : k < x
      · exact (bef k k0 kx).2.2
      · simp at c
        rcases hs1 with rfl | rfl <;> omega
    · split at q3
      · rename_i c1 c2
        simp at c1
        exact .inr ⟨x, q1, c1.1, c1.2, (Out.rt.inj q3).symm, c2, fun j j0 j1 _ _ => (bef j j0 j1).2.2⟩
      · cases q3
theorem hol_thin {ns : List Int} (h : Nums 32 ns) (d : Int) : Thin (m_law_holidays ns d) := by
  have fl : ∀ l : List Int, ((l.filter (fun near_ : Int => decide (0 ≤ near_) && decide (near_ ≤ 36524))).map (fun near_ : Int => near_)).length ≤ l.length := fun l => by
    rw [List.length_map]
    exact List.length_filter_le _ _
  have fm : ∀ (l : List Int) y, y ∈ ((l.filter (fun near_ : Int => decide (0 ≤ near_) && decide (near_ ≤ 36524))).map (fun near_ : Int => near_)) → y ∈ l := fun l y hy => by
    rw [List.map_id' ] at hy
    exact (List.mem_filter.mp hy).1
  unfold m_law_holidays b_law_holidays letV
  dsimp only
  split
  · split
    · simp only [Out.bind_nx, Out.val_rt]
      refine .inr ⟨d - ixg ns 2 % 11, fun y hy => ?_⟩
      obtain ⟨k, hk, rfl⟩ := List.mem_map.mp (fm _ _ hy)
      have hk2 := rng_mem.mp hk
      have m := ixg_mem (xs := (rng 0 (ixg ns 3 % 101)).map fun k => d - ixg ns 2 % 11 + k) (i := (((rng 0 (ixg ns 3 % 101)).map fun k => d - ixg ns 2 % 11 + k).length : Int) - 1 - k) (by omega) (by omega)
      obtain ⟨j, hj, e⟩ := List.mem_map.mp m
      have hj2 := rng_mem.mp hj
      rw [← e]
      omega
    · simp only [Out.bind_nx, Out.val_rt]
      refine .inr ⟨d - ixg ns 2 % 11, fun y hy => ?_⟩
      obtain ⟨j, hj, e⟩ := List.mem_map.mp (fm _ _ hy)
      have hj2 := rng_mem.mp hj
      rw [← e]
      omega
  · simp only [Out.bind_nx, Out.val_rt]
    refine .inl (Nat.le_trans (fl _) ?_)
    rw [List.length_append, List.length_map, rng_length]
    have c := cutL_le ((rng 0 (ixg ns 3 % 21)).map (fun k_ : Int => (d - ixg ns 2 % 11 + k_)) ++ (rng 0 (ixg ns 4 % 13)).map (fun k_ : Int => ((d - 12) + ((ixg ns (10 + k_)) % 25)))) none (some ((ixg ns 5) % 16))
    have l : ((rng 0 (ixg ns 3 % 21)).map (fun k_ : Int => (d - ixg ns 2 % 11 + k_)) ++ (rng 0 (ixg ns 4 % 13)).map (fun k_ : Int => ((d - 12) + ((ixg ns (10 + k_)) % 25)))).length ≤ 32 := by
      rw [List.length_append, List.length_map, List.length_map, rng_length, rng_length]
      omega
    omega
theorem told_ok {d x : Int} {hs : List Int} {how : List Nat} (h : m_adjust d hs how = .ok x) : m_law_told d hs how = ([100, 97, 121], [Sum.inl x]) := by
  unfold m_law_told b_law_told letV
  dsimp only
  rw [h]
  simp only [callE_ok, tryO_nx, Out.bind_nx]
  rw [if_neg (by simp)]
  rfl
theorem told_er {d : Int} {hs : List Int} {how : List Nat} {k} (h : m_adjust d hs how = .error k) : m_law_told d hs how = ([114, 97, 105, 115, 101, 100], (m_law_kinds k).map Sum.inr) := by
  unfold m_law_told b_law_told letV
  dsimp only
  rw [h]
  rfl
theorem adj_in {d : Int} {hs : List Int} {how : List Nat} (h : 0 ≤ d ∧ d ≤ 36524) (hw : how ∈ k_HOWS) : m_adjust d hs how = match m_adjusted d hs how with
    | none => .error 1
    | some x => .ok x := by
  unfold m_adjust b_adjust letV
  rw [check_in h]
  simp only [callE_ok]
  rw [if_neg (by rw [inB_iff.mpr hw]; decide)]
  cases m_adjusted d hs how with
  | none => rfl
  | some x => rfl
theorem told_adj {d : Int} {hs : List Int} {how : List Nat} (h : 0 ≤ d ∧ d ≤ 36524) (hw : how ∈ k_HOWS) : m_law_told d hs how = match m_adjusted d hs how with
    | none => ([114, 97, 105, 115, 101, 100], [Sum.inr [66, 97, 100, 68, 97, 121]])
    | some x => ([100, 97, 121], [Sum.inl x]) := by
  have e := adj_in (hs := hs) h hw
  cases c : m_adjusted d hs how with
  | none =>
    rw [c] at e
    rw [told_er e]
    decide
  | some x =>
    rw [c] at e
    rw [told_ok e]
theorem dates {d : Int} (h : 0 ≤ d ∧ d ≤ 36524) : oGet (m_law_date d) = okV (m_date_of d) := (ldate_ok h).uniq (date_right h)
theorem how_ok {d : Int} {hs : List Int} {how : List Nat} (h : 0 ≤ d ∧ d ≤ 36524) (t : Thin hs) (hw : how ∈ k_HOWS) : m_law_told d hs how = m_law_due d hs how := by
  rw [told_adj h hw]
  have n1 := (search_is h t (.inl rfl)).uniq (next_is h)
  have p1 := (search_is h t (.inr rfl)).uniq (prev_is h)
  have fin : ∀ o : Option Int, (match o with
    | none => ([114, 97, 105, 115, 101, 100], [Sum.inr [66, 97, 100, 68, 97, 121]])
    | some x => ([100, 97, 121], [Sum.inl x])) = (if o.isNone = true then (Out.rt ([114, 97, 105, 115, 101, 100], [(Sum.inr [66, 97, 100, 68, 97, 121])]) : Out Empty Unit Empty ((List Nat) × (List (Int ⊕ (List Nat))))) else .rt ([100, 97, 121], [(Sum.inl (oGet o))])).val := by
    intro o
    cases o with
    | none => rfl
    | some x => rfl
  have hw4 : how = [110, 111, 110, 101] ∨ how = [110, 101, 120, 116] ∨ how = [112, 114, 101, 118, 105, 111, 117, 115] ∨ how = [109, 111, 100, 105, 102, 105, 101, 100] := by
    unfold k_HOWS at hw
    simpa using hw
  unfold m_law_due b_law_due m_adjusted b_adjusted letV
  dsimp only
  rw [n1, p1]
  rcases hw4 with rfl | rfl | rfl | rfl
  · rfl
  · rw [if_neg (by decide), if_neg (by decide), if_pos (by decide), if_neg (by decide), if_neg (by decide), if_neg (by simp)]
    simp only [Out.bind_nx, Out.val_rt]
    exact fin _
  · rw [if_neg (by decide), if_pos (by decide), if_neg (by decide), if_pos (by decide)]
    simp only [Out.bind_nx, Out.val_rt]
    exact fin _
  · rw [if_neg (by decide), if_neg (by decide), if_neg (by decide)]
    cases c : m_next_working d hs with
    | none =>
      rw [if_neg (by simp), if_neg (by decide), if_neg (by decide), if_pos (by simp)]
      simp only [Out.bind_nx, Out.val_rt]
      exact fin _
    | some x =>
      have hx := next_in (hs := hs) h (by rw [c]; rfl)
      rw [c] at hx
      have hx2 : 0 ≤ x ∧ x ≤ 36524 := hx
      have e1 : m_same_month d (oGet (some x)) = decide (((okV (m_date_of d)).1, (okV (m_date_of d)).2.1) = ((okV (m_date_of x)).1, (okV (m_date_of x)).2.1)) := rfl
      have e2 : oGet (m_law_date (oGet (some x))) = okV (m_date_of x) := dates hx2
      rw [e1, e2, dates h]
      generalize (okV (m_date_of d)).1 = a
      generalize (okV (m_date_of d)).2.1 = b
      generalize (okV (m_date_of x)).1 = a'
      generalize (okV (m_date_of x)).2.1 = b'
      by_cases s : (a, b) = (a', b')
      · rw [if_pos (by rw [decide_eq_true s]; rfl), if_neg (by decide), if_neg (by decide), if_neg (by rw [decide_eq_true s.symm]; simp)]
        simp only [Out.bind_nx, Out.val_rt]
        exact fin (some x)
      · rw [if_neg (by rw [decide_eq_false s]; simp), if_neg (by decide), if_neg (by decide), if_pos (by rw [decide_eq_false (fun z : (a', b') = (a, b) => s z.symm)]; simp)]
        simp only [Out.bind_nx, Out.val_rt]
        exact fin _
theorem bad_how {d : Int} {hs : List Int} {how : List Nat} (h : 0 ≤ d ∧ d ≤ 36524) (hw : inB how k_HOWS = false) : m_law_told d hs how = ([114, 97, 105, 115, 101, 100], [Sum.inr [66, 97, 100, 86, 97, 108, 117, 101]]) := by
  have e : m_adjust d hs how = .error 0 := by
    unfold m_adjust b_adjust
    rw [check_in h]
    simp only [callE_ok]
    rw [if_pos (by rw [hw]; rfl)]
    rfl
  rw [told_er e]
  decide
theorem bad_day {d : Int} {hs : List Int} {how : List Nat} (h : ¬ (0 ≤ d ∧ d ≤ 36524)) : m_law_told d hs how = ([114, 97, 105, 115, 101, 100], [Sum.inr [66, 97, 100, 68, 97, 121]]) := by
  have e : m_adjust d hs how = .error 1 := by
    unfold m_adjust b_adjust
    rw [check_out h]
    rfl
  rw [told_er e]
  decide
theorem tells_true (d : Int) (hs : List Int) : m_law_tells_working d hs = true := by
  unfold m_law_tells_working b_law_tells_working
  rw [forL_unit fun x _ => ?_]
  · rfl
  · unfold st_law_tells_working_1 letV
    dsimp only
    by_cases h : 0 ≤ x ∧ x ≤ 36524
    · rw [work_is hs h]
      simp only [callE_ok, tryO_nx, Out.bind_nx]
      rw [if_neg (by simp), if_pos (by simpa using h)]
      simp only [Out.bind_nx]
      rw [if_neg (by simp [kSum])]
    · have e : m_is_working x hs = .error 1 := by
        unfold m_is_working b_is_working
        rw [week_out h]
        rfl
      rw [e]
      simp only [callE_er, tryO_er, Out.bind_nx]
      rw [if_neg (by simp), if_neg (by simpa using h)]
      simp only [Out.bind_nx]
      rw [show m_law_kinds 1 = [[66, 97, 100, 68, 97, 121]] by decide, if_neg (by simp [kSum])]
theorem turn_ok (x : Int) : st_law_1 k_HOWS () x = .nx () := by
  have hN : Nums 32 (m_law_numbers x 32) := J.nums x 32
  have h6 := hN.bd 6
  have h7 := hN.bd 7
  have hd := day_in hN
  have th := hol_thin hN (m_law_day (m_law_numbers x 32))
  unfold st_law_1 letV
  dsimp only
  generalize m_law_holidays (m_law_numbers x 32) (m_law_day (m_law_numbers x 32)) = hs at *
  generalize m_law_day (m_law_numbers x 32) = d at *
  generalize m_law_numbers x 32 = ns at *
  rw [tells_true, if_neg (by decide)]
  rw [forL_unit fun w hw => by
    unfold st_law_2
    rw [how_ok hd th hw, if_neg (by simp)]]
  simp only [Out.bind_nx]
  obtain ⟨w, ew, _⟩ := forL_all (ε := Empty) (L := Unit) (R := Bool) (f := st_law_3 ns) (xs := rng 0 (ixg ns 6 % 10)) (s := ([] : List Nat)) (fun _ => True) trivial fun s x _ _ => ⟨_, rfl, trivial⟩
  rw [ew]
  simp only [Out.bind_nx]
  rw [forL_unit fun w hw => by
    unfold st_law_4
    cases c : inB w k_HOWS with
    | true => rfl
    | false =>
      rw [bad_how hd c, if_neg (by simp)]]
  simp only [Out.bind_nx]
  rw [forL_unit fun o ho => by
    unfold st_law_5
    have oo : ¬ (0 ≤ o ∧ o ≤ 36524) := by
      rcases List.mem_cons.mp ho with q | ho
      · omega
      · rcases List.mem_cons.mp ho with q | ho
        · omega
        · rcases List.mem_cons.mp ho with q | ho
          · omega
          · have := List.mem_singleton.mp ho
            omega
    rw [forL_unit fun w hw => by
      unfold st_law_6
      rw [bad_day oo, if_neg (by simp)]]
    rfl]
  rfl
theorem law_true (ns : List Int) : m_law ns = true := by
  have e := forL_unit (ε := Empty) (L := Empty) (R := Bool) (f := st_law_1 k_HOWS) (xs := [6] ++ ns) fun x _ => turn_ok x
  unfold m_law b_law letV
  show ((forL (st_law_1 k_HOWS) () ([6] ++ ns)).bind fun _ => .rt true : Out Empty Unit Empty Bool).val = true
  rw [e]
  rfl
end Ck08

namespace Ck08
open PySem L2 PyProof.Rows J
abbrev s_law_numbers : Stmt := PySem.Challenge.pw_corebank_k08_whole_adjust.main.body.getD 28 (.Pass ⟨0, 0, 0, 0⟩)
abbrev N_law_numbers : List Str := ["_law_cell", "_law_count", "_law_rest", "_law_numbers_here", "_law_k", "_law_mixed"]
theorem sc_law_numbers : FnScope ["_law_cell", "_law_count", "_law_rest", "_law_numbers_here", "_law_k", "_law_mixed"] ["_law_cell", "_law_count"] (defScope s_law_numbers) := ⟨rfl, rfl, rfl, by decide +kernel, rfl, by decide +kernel, by decide +kernel⟩
theorem ok_law_numbers {P : Program} {w : World} {K : PySem.W.Frag} {mg : Str → Option Value} {base : Heap} {f : Addr} {fd : FuncData} (F : Fun K "_law_numbers" "_law_numbers" s_law_numbers f fd) (b : Binds K fd ["_law_cell", "_law_count"] []) (hmg : mg "_law_numbers" = some (.ref f)) {adr : _root_.Fin 7 → Addr} {B0 : Addr} (Er : Errs K mg nm_ adr B0) (m_int : mg "int" = none) (m_range : mg "range" = none) :
    Fn0 P w K mg base CX0 1 "_law_numbers" 2 (sp_law_numbers K) := by
  have hsl := sizeLine_eq
  refine fn_mk F sc_law_numbers b hmg (fun i : (Int × Int) => b_law_numbers i.1 i.2) (fun i G vs h => ?_) (fun cdv A outer s H E i G cs vs hr hp => ?_)
  · obtain ⟨v0_, v1_, h, _⟩ := h
    rw [h]
    rfl
  obtain ⟨cell_, count_⟩ := i
  obtain ⟨v0_, v1_, rfl, h0_, h1_, hpre⟩ := hp
  cases h0_
  cases h1_
  show B _ _ _ [some (.int cell_), some (.int count_), none, none, none, none] G cs _ (b_law_numbers cell_ count_)
  unfold b_law_numbers
  try dsimp only at hpre
  refine b_setV (r := rI) 2 sc_law_numbers.nd d_int (fun rest_1 erest_1 v3 Gs2 s2 h4 => ?_)
  cases h4
  refine b_if (S' := (Int)) (fun (z7 : (Int)) σ_ G_ cs_ => ∃ o8 : Option V, ∃ o9 : Option V, ∃ o10 : Option V, σ_ = [some (.int cell_), some (.int count_), some (.int z7), o8, o9, o10] ∧ cs = cs_) (t_cmp op_ge (nomark _) (d_var 0 (P := rI cell_) rfl rfl) (d_pow (z := 1000000000000000000) d_int d_int ⟨by decide, by decide, by decide⟩ (by decide +kernel)) fun _ _ _ _ _ _ hx hy _ q => c_ge hx hy q) ?_ ?_ ?_
  · intro hc5 Gs6 s6
    have dhc5 := hc5
    try simp only [decide_eq_true_eq, decide_eq_false_iff_not, Bool.and_eq_true, Bool.and_eq_false_imp, Bool.or_eq_true, Bool.or_eq_false_iff, Bool.not_eq_true', Bool.not_eq_false', Bool.not_not, ne_eq, Int.not_lt, Int.not_le] at dhc5
    refine b_setV (r := rI) 2 sc_law_numbers.nd (d_fdiv (d_var 0 (P := rI cell_) rfl rfl) (d_pow (z := 1000000000000000000) d_int d_int ⟨by decide, by decide, by decide⟩ (by decide +kernel)) (divW (by decide) (by decide +kernel))) (fun rest_11 erest_11 v13 Gs12 s12 h14 => ?_)
    cases h14
    exact b_nil (by refine ⟨_, _, _, rfl, rfl⟩)
  · intro hc5 Gs6 s6
    have dhc5 := hc5
    try simp only [decide_eq_true_eq, decide_eq_false_iff_not, Bool.and_eq_true, Bool.and_eq_false_imp, Bool.or_eq_true, Bool.or_eq_false_iff, Bool.not_eq_true', Bool.not_eq_false', Bool.not_not, ne_eq, Int.not_lt, Int.not_le] at dhc5
    exact b_nil (by refine ⟨_, _, _, rfl, rfl⟩)
  · intro z7 _ _ _ sz7 hNz7 hmz7
    obtain ⟨o8, o9, o10, rfl, rfl⟩ := hNz7
    refine b_setN 3 sc_law_numbers.nd (n_lst (r := rI) (xs := ([] : (List Int))) a_nil ls_n) (fun l16 us17 Gs18 s18 h19 => ?_)
    refine letV_intro (fun numbers_here_15 enumbers_here_15 => ?_)
    rw [← enumbers_here_15] at h19
    have nnumbers_here_15 : numbers_here_15.length = 0 := by rw [enumbers_here_15]; rfl
    refine b_for (f := (st_law_numbers_1 cell_)) (s0 := (z7, numbers_here_15)) (xs := (rng 0 count_)) (fun n_ (z20 : (Int × (List Int))) σ_ G_ cs_ => ∃ us23 : List V, ∃ o25 : Option V, ∃ o26 : Option V, σ_ = [some (.int cell_), some (.int count_), some (.int z20.1), some (.ref l16), o25, o26] ∧ (l16, HO.lst us23) :: cs = cs_ ∧ Rs rI G_ z20.2 us23 ∧ z20.2.length ≤ numbers_here_15.length + 1 * n_) (i_rng1 m_range (d_var 1 (P := rI count_) rfl rfl) (by omega) (by omega)) (tg_name 4 sc_law_numbers.nd) rfl PassesOwn.never ?_ ?_ ?_ ?_
    · intro _ s55
      exact ⟨_, _, _, rfl, rfl, (Rs.mono s55 h19), Nat.le_add_right _ _⟩
    · intro _ _ _ _ _ _
      trivial
    · intro pre_ x27 post_ z20 _ _ _ _ _ hxsz20 hrez20 s28 hNz20 s29 hSz20
      obtain ⟨us23, o25, o26, rfl, rfl, h24, hbz20⟩ := hNz20
      obtain ⟨v21, h22, rfl⟩ := hSz20
      have hltz20 : pre_.length < (rng 0 count_).length := by rw [hxsz20, List.length_append, List.length_cons]; omega
      have hmemz20 : x27 ∈ (rng 0 count_) := by rw [hxsz20]; exact List.mem_append_right _ List.mem_cons_self
      try simp only [rng_length, rng_mem, enumL_length] at hltz20 hmemz20
      show B _ _ _ _ _ _ _ (st_law_numbers_1 cell_ z20 x27)
      unfold st_law_numbers_1
      cases h22
      refine b_ifl (t_cmp op_gt (nomark _) (d_var 2 (P := rI z20.1) rfl rfl) d_int fun _ _ _ _ _ _ hx hy _ q => c_gt hx hy q) ?_ ?_
      · intro hc31 Gs32 s32
        have dhc31 := hc31
        try simp only [decide_eq_true_eq, decide_eq_false_iff_not, Bool.and_eq_true, Bool.and_eq_false_imp, Bool.or_eq_true, Bool.or_eq_false_iff, Bool.not_eq_true', Bool.not_eq_false', Bool.not_not, ne_eq, Int.not_lt, Int.not_le] at dhc31
        refine b_app 0 (P := rI (z20.1 % 10000000000000)) rfl (d_var 3 (P := rV (.ref l16)) rfl rfl) (d_mod (d_int1 m_int (d_var 2 (P := rI z20.1) rfl rfl)) (d_pow (z := 10000000000000) d_int d_int ⟨by decide, by decide, by decide⟩ (by decide +kernel)) (by decide)) (by have hq := Rs.length h24; omega) (fun v33 Gs34 s34 h35 => ?_)
        have h37 := Rs.snoc h35 (Rs.mono (s29.trans (s32.trans s34)) h24)
        refine letV_intro (fun numbers_here_36 enumbers_here_36 => ?_)
        rw [← enumbers_here_36] at h37
        have nnumbers_here_36 : numbers_here_36.length = z20.2.length + 1 := by rw [enumbers_here_36, List.length_append]; rfl
        refine b_setV (r := rI) 2 sc_law_numbers.nd (d_fdiv (d_var 2 (P := rI z20.1) rfl rfl) (d_pow (z := 10000000000000) d_int d_int ⟨by decide, by decide, by decide⟩ (by decide +kernel)) (divW (by decide) (by decide +kernel))) (fun rest_38 erest_38 v40 Gs39 s39 h41 => ?_)
        cases h41
        exact b_nil (by refine ⟨_, _, _, rfl, rfl, (Rs.mono s39 h37), by first | omega | (simp only [List.length_append, List.length_cons, List.length_nil] at *; omega)⟩)
      · intro hc31 Gs32 s32
        have dhc31 := hc31
        try simp only [decide_eq_true_eq, decide_eq_false_iff_not, Bool.and_eq_true, Bool.and_eq_false_imp, Bool.or_eq_true, Bool.or_eq_false_iff, Bool.not_eq_true', Bool.not_eq_false', Bool.not_not, ne_eq, Int.not_lt, Int.not_le] at dhc31
        refine b_setV (r := rI) 5 sc_law_numbers.nd (d_mod (d_int1 m_int (d_add (d_add (d_mul (d_var 0 (P := rI cell_) rfl rfl) d_int (.inr ⟨by omega, by omega⟩)) (d_mul (d_var 4 (P := rI x27) rfl rfl) d_int (.inr ⟨by omega, by omega⟩))) d_int)) d_int (by decide)) (fun mixed_42 emixed_42 v44 Gs43 s43 h45 => ?_)
        cases h45
        refine b_setV (r := rI) 5 sc_law_numbers.nd (d_mod (d_int1 m_int (d_add (d_add (d_mul (d_var 5 (P := rI mixed_42) rfl rfl) (d_var 5 (P := rI mixed_42) rfl rfl) (by first | exact .inr ⟨by omega, by omega⟩ | exact .inl ⟨by omega, by omega⟩)) (d_mul d_int (d_var 4 (P := rI x27) rfl rfl) (.inl ⟨by omega, by omega⟩))) d_int)) d_int (by decide)) (fun mixed_46 emixed_46 v48 Gs47 s47 h49 => ?_)
        cases h49
        refine b_app 0 (P := rI (((((mixed_46 * mixed_46) + mixed_46) % 2147483587) * 4001) + x27)) rfl (d_var 3 (P := rV (.ref l16)) rfl rfl) (d_add (d_mul (d_mod (d_int1 m_int (d_add (d_mul (d_var 5 (P := rI mixed_46) rfl rfl) (d_var 5 (P := rI mixed_46) rfl rfl) (by first | exact .inr ⟨by omega, by omega⟩ | exact .inl ⟨by omega, by omega⟩)) (d_var 5 (P := rI mixed_46) rfl rfl))) d_int (by decide)) d_int (.inr ⟨by omega, by omega⟩)) (d_var 4 (P := rI x27) rfl rfl)) (by have hq := Rs.length h24; omega) (fun v50 Gs51 s51 h52 => ?_)
        have h54 := Rs.snoc h52 (Rs.mono (s29.trans (s32.trans (s43.trans (s47.trans s51)))) h24)
        refine letV_intro (fun numbers_here_53 enumbers_here_53 => ?_)
        rw [← enumbers_here_53] at h54
        have nnumbers_here_53 : numbers_here_53.length = z20.2.length + 1 := by rw [enumbers_here_53, List.length_append]; rfl
        exact b_nil (by refine ⟨_, _, _, rfl, rfl, h54, by first | omega | (simp only [List.length_append, List.length_cons, List.length_nil] at *; omega)⟩)
    · intro n_ z20 _ _ _ hnz20 s56 hNz20 hfz20
      obtain ⟨us23, o25, o26, rfl, rfl, h24, hbz20⟩ := hNz20
      try simp only [rng_length, enumL_length] at hnz20
      have hzs57 := h24
      refine b_freeze 0 rfl (fun s57 h58 => ?_)
      have kh58 : (rL K rI) z20.2 _ (.ref l16) := ⟨_, _, rfl, SqL.of h58, Rs.mono s57 hzs57⟩
      exact b_ret (P := (rL K rI) z20.2) (d_var 3 (P := (rL K rI) z20.2) rfl kh58) (fun _ _ _ h => ⟨⟨[], rfl⟩, h⟩)
end Ck08

namespace Ck08
open PySem L2 PyProof.Rows J
abbrev s_law_day : Stmt := PySem.Challenge.pw_corebank_k08_whole_adjust.main.body.getD 32 (.Pass ⟨0, 0, 0, 0⟩)
abbrev N_law_day : List Str := ["_law_numbers_here"]
theorem sc_law_day : FnScope ["_law_numbers_here"] ["_law_numbers_here"] (defScope s_law_day) := ⟨rfl, rfl, rfl, by decide +kernel, rfl, by decide +kernel, by decide +kernel⟩
theorem ok_law_day {P : Program} {w : World} {K : PySem.W.Frag} {mg : Str → Option Value} {base : Heap} {f : Addr} {fd : FuncData} (F : Fun K "_law_day" "_law_day" s_law_day f fd) (b : Binds K fd ["_law_numbers_here"] []) (hmg : mg "_law_day" = some (.ref f)) {adr : _root_.Fin 7 → Addr} {B0 : Addr} (Er : Errs K mg nm_ adr B0)  :
    Fn0 P w K mg base CX0 1 "_law_day" 1 (sp_law_day K) := by
  have hsl := sizeLine_eq
  refine fn_mk F sc_law_day b hmg (fun i : ((List Int)) => b_law_day i) (fun i G vs h => ?_) (fun cdv A outer s H E numbers_here_ G cs vs hr hp => ?_)
  · obtain ⟨v0_, h, _⟩ := h
    rw [h]
    rfl
  obtain ⟨v0_, rfl, h0_, hpre⟩ := hp
  show B _ _ _ [some v0_] G cs _ (b_law_day numbers_here_)
  unfold b_law_day
  try dsimp only at hpre
  have hlen := hpre.len
  refine b_ifx (t_cmp op_eq (nomark _) (d_mod (d_ixL (r := rI) (xs := numbers_here_) (i := 1) (x := (ixg numbers_here_ 1)) (D.imp (P := (rL K rI) numbers_here_) (d_var 0 (P := (rL K rI) numbers_here_) rfl h0_) fun _ _ => rdL_of) d_int (atI_ixg (by first | (constructor <;> omega) | (simp only [List.length_cons, List.length_nil]; constructor <;> omega) | exact ix_mod (by omega) | (simp only [decide_eq_true_eq, decide_eq_false_iff_not] at *; constructor <;> omega)))) d_int (by decide)) d_int fun _ _ _ _ _ _ hx hy _ q => c_eqI hx hy q) ?_ ?_
  · intro hc1 Gs2 s2
    have dhc1 := hc1
    try simp only [decide_eq_true_eq, decide_eq_false_iff_not, Bool.and_eq_true, Bool.and_eq_false_imp, Bool.or_eq_true, Bool.or_eq_false_iff, Bool.not_eq_true', Bool.not_eq_false', Bool.not_not, ne_eq, Int.not_lt, Int.not_le] at dhc1
    exact b_ret (P := rI ((ixg numbers_here_ 0) % 12)) (d_mod (d_ixL (r := rI) (xs := numbers_here_) (i := 0) (x := (ixg numbers_here_ 0)) (D.imp (P := (rL K rI) numbers_here_) (d_var 0 (P := (rL K rI) numbers_here_) rfl (Mono.mono s2 h0_)) fun _ _ => rdL_of) d_int (atI_ixg (by first | (constructor <;> omega) | (simp only [List.length_cons, List.length_nil]; constructor <;> omega) | exact ix_mod (by omega) | (simp only [decide_eq_true_eq, decide_eq_false_iff_not] at *; constructor <;> omega)))) d_int (by decide)) (fun _ _ _ h => ⟨⟨[], rfl⟩, h⟩)
  · intro hc1 Gs2 s2
    have dhc1 := hc1
    try simp only [decide_eq_true_eq, decide_eq_false_iff_not, Bool.and_eq_true, Bool.and_eq_false_imp, Bool.or_eq_true, Bool.or_eq_false_iff, Bool.not_eq_true', Bool.not_eq_false', Bool.not_not, ne_eq, Int.not_lt, Int.not_le] at dhc1
    refine b_ifx (t_cmp op_eq (nomark _) (d_mod (d_ixL (r := rI) (xs := numbers_here_) (i := 1) (x := (ixg numbers_here_ 1)) (D.imp (P := (rL K rI) numbers_here_) (d_var 0 (P := (rL K rI) numbers_here_) rfl (Mono.mono s2 h0_)) fun _ _ => rdL_of) d_int (atI_ixg (by first | (constructor <;> omega) | (simp only [List.length_cons, List.length_nil]; constructor <;> omega) | exact ix_mod (by omega) | (simp only [decide_eq_true_eq, decide_eq_false_iff_not] at *; constructor <;> omega)))) d_int (by decide)) d_int fun _ _ _ _ _ _ hx hy _ q => c_eqI hx hy q) ?_ ?_
    · intro hc3 Gs4 s4
      have dhc3 := hc3
      try simp only [decide_eq_true_eq, decide_eq_false_iff_not, Bool.and_eq_true, Bool.and_eq_false_imp, Bool.or_eq_true, Bool.or_eq_false_iff, Bool.not_eq_true', Bool.not_eq_false', Bool.not_not, ne_eq, Int.not_lt, Int.not_le] at dhc3
      exact b_ret (P := rI (36524 - ((ixg numbers_here_ 0) % 12))) (d_sub d_int (d_mod (d_ixL (r := rI) (xs := numbers_here_) (i := 0) (x := (ixg numbers_here_ 0)) (D.imp (P := (rL K rI) numbers_here_) (d_var 0 (P := (rL K rI) numbers_here_) rfl (Mono.mono (s2.trans s4) h0_)) fun _ _ => rdL_of) d_int (atI_ixg (by first | (constructor <;> omega) | (simp only [List.length_cons, List.length_nil]; constructor <;> omega) | exact ix_mod (by omega) | (simp only [decide_eq_true_eq, decide_eq_false_iff_not] at *; constructor <;> omega)))) d_int (by decide))) (fun _ _ _ h => ⟨⟨[], rfl⟩, h⟩)
    · intro hc3 Gs4 s4
      have dhc3 := hc3
      try simp only [decide_eq_true_eq, decide_eq_false_iff_not, Bool.and_eq_true, Bool.and_eq_false_imp, Bool.or_eq_true, Bool.or_eq_false_iff, Bool.not_eq_true', Bool.not_eq_false', Bool.not_not, ne_eq, Int.not_lt, Int.not_le] at dhc3
      exact b_ret (P := rI ((ixg numbers_here_ 0) % 36525)) (d_mod (d_ixL (r := rI) (xs := numbers_here_) (i := 0) (x := (ixg numbers_here_ 0)) (D.imp (P := (rL K rI) numbers_here_) (d_var 0 (P := (rL K rI) numbers_here_) rfl (Mono.mono (s2.trans s4) h0_)) fun _ _ => rdL_of) d_int (atI_ixg (by first | (constructor <;> omega) | (simp only [List.length_cons, List.length_nil]; constructor <;> omega) | exact ix_mod (by omega) | (simp only [decide_eq_true_eq, decide_eq_false_iff_not] at *; constructor <;> omega)))) d_int (by decide)) (fun _ _ _ h => ⟨⟨[], rfl⟩, h⟩)
end Ck08

namespace Ck08
open PySem L2 PyProof.Rows J
abbrev s_law_holidays : Stmt := PySem.Challenge.pw_corebank_k08_whole_adjust.main.body.getD 33 (.Pass ⟨0, 0, 0, 0⟩)
abbrev N_law_holidays : List Str := ["_law_numbers_here", "_law_day_here", "_law_first", "_law_days", "_law_again", "_law_k", "_law_near"]
theorem sc_law_holidays : FnScope ["_law_numbers_here", "_law_day_here", "_law_first", "_law_days", "_law_again", "_law_k", "_law_near"] ["_law_numbers_here", "_law_day_here"] (defScope s_law_holidays) := ⟨rfl, rfl, rfl, by decide +kernel, rfl, by decide +kernel, by decide +kernel⟩
theorem ok_law_holidays {P : Program} {w : World} {K : PySem.W.Frag} {mg : Str → Option Value} {base : Heap} {f : Addr} {fd : FuncData} (F : Fun K "_law_holidays" "_law_holidays" s_law_holidays f fd) (b : Binds K fd ["_law_numbers_here", "_law_day_here"] []) (hmg : mg "_law_holidays" = some (.ref f)) {adr : _root_.Fin 7 → Addr} {B0 : Addr} (Er : Errs K mg nm_ adr B0) (m_len : mg "len" = none) (m_range : mg "range" = none) :
    Fn0 P w K mg base CX0 1 "_law_holidays" 2 (sp_law_holidays K) := by
  have hsl := sizeLine_eq
  refine fn_mk F sc_law_holidays b hmg (fun i : ((List Int) × Int) => b_law_holidays i.1 i.2) (fun i G vs h => ?_) (fun cdv A outer s H E i G cs vs hr hp => ?_)
  · obtain ⟨v0_, v1_, h, _⟩ := h
    rw [h]
    rfl
  obtain ⟨numbers_here_, day_here_⟩ := i
  obtain ⟨v0_, v1_, rfl, h0_, h1_, hpre⟩ := hp
  cases h1_
  show B _ _ _ [some v0_, some (.int day_here_), none, none, none, none, none] G cs _ (b_law_holidays numbers_here_ day_here_)
  unfold b_law_holidays
  try dsimp only at hpre
  have hlen := hpre.len
  refine b_setV (r := rI) 2 sc_law_holidays.nd (d_sub (d_var 1 (P := rI day_here_) rfl rfl) (d_mod (d_ixL (r := rI) (xs := numbers_here_) (i := 2) (x := (ixg numbers_here_ 2)) (D.imp (P := (rL K rI) numbers_here_) (d_var 0 (P := (rL K rI) numbers_here_) rfl h0_) fun _ _ => rdL_of) d_int (atI_ixg (by first | (constructor <;> omega) | (simp only [List.length_cons, List.length_nil]; constructor <;> omega) | exact ix_mod (by omega) | (simp only [decide_eq_true_eq, decide_eq_false_iff_not] at *; constructor <;> omega)))) d_int (by decide))) (fun first_1 efirst_1 v3 Gs2 s2 h4 => ?_)
  cases h4
  refine b_setV (r := (rL K rI)) 3 sc_law_holidays.nd (d_new (n_lc (C := fun _ => True) (own := [("_law_k", 5)]) (xs := (rng 0 ((ixg numbers_here_ 3) % 21))) (r := rI) (f := (fun k_ : Int => (first_1 + k_))) rfl sc_law_holidays.nd (blkOk_by (N := N_law_holidays) (sc := defScope s_law_holidays) (by decide +kernel)) (i_rng1 m_range (d_mod (d_ixL (r := rI) (xs := numbers_here_) (i := 3) (x := (ixg numbers_here_ 3)) (D.imp (P := (rL K rI) numbers_here_) (d_var 0 (P := (rL K rI) numbers_here_) rfl (Mono.mono s2 h0_)) fun _ _ => rdL_of) d_int (atI_ixg (by first | (constructor <;> omega) | (simp only [List.length_cons, List.length_nil]; constructor <;> omega) | exact ix_mod (by omega) | (simp only [decide_eq_true_eq, decide_eq_false_iff_not] at *; constructor <;> omega)))) d_int (by decide)) (by omega) (by omega)) (tgb_name 5 sc_law_holidays.nd) (fun _ _ => trivial) (fun _ _ _ ⟨_, _, e⟩ => by subst e; exact wipe1) (fun (k_ : Int) hx8 _ _ _ s7 ⟨c0_, ec⟩ hS _ _ _ _ _ => by subst ec; obtain ⟨v5, h6, rfl⟩ := hS; cases h6; have hmhx8 := hx8; (try simp only [rng_mem, rng_length] at hmhx8); exact (d_add (d_var 2 (P := rI first_1) rfl rfl) (d_var 5 (P := rI k_) rfl rfl))) (by (try simp only [List.length_map, rng_length]); omega))) (fun days_9 edays_9 v11 Gs10 s10 h12 => ?_)
  have hl1 : days_9.length ≤ 20 := by rw [edays_9, List.length_map, rng_length]; omega
  refine b_setV (r := (rL K rI)) 3 sc_law_holidays.nd (d_new (n_cat (r := rI) (D.imp (P := (rL K rI) days_9) (d_var 3 (P := (rL K rI) days_9) rfl h12) fun _ _ => rdL_of) (D.imp (P := (rL K rI) ((rng 0 ((ixg numbers_here_ 4) % 13)).map (fun k_ : Int => ((day_here_ - 12) + ((ixg numbers_here_ (10 + k_)) % 25))))) (d_new (n_lc (C := fun _ => True) (own := [("_law_k", 5)]) (xs := (rng 0 ((ixg numbers_here_ 4) % 13))) (r := rI) (f := (fun k_ : Int => ((day_here_ - 12) + ((ixg numbers_here_ (10 + k_)) % 25)))) rfl sc_law_holidays.nd (blkOk_by (N := N_law_holidays) (sc := defScope s_law_holidays) (by decide +kernel)) (i_rng1 m_range (d_mod (d_ixL (r := rI) (xs := numbers_here_) (i := 4) (x := (ixg numbers_here_ 4)) (D.imp (P := (rL K rI) numbers_here_) (d_var 0 (P := (rL K rI) numbers_here_) rfl (Mono.mono (s2.trans s10) h0_)) fun _ _ => rdL_of) d_int (atI_ixg (by first | (constructor <;> omega) | (simp only [List.length_cons, List.length_nil]; constructor <;> omega) | exact ix_mod (by omega) | (simp only [decide_eq_true_eq, decide_eq_false_iff_not] at *; constructor <;> omega)))) d_int (by decide)) (by omega) (by omega)) (tgb_name 5 sc_law_holidays.nd) (fun _ _ => trivial) (fun _ _ _ ⟨_, _, e⟩ => by subst e; exact wipe1) (fun (k_ : Int) hx16 _ _ _ s15 ⟨c0_, ec⟩ hS _ _ _ _ _ => by subst ec; obtain ⟨v13, h14, rfl⟩ := hS; cases h14; have hmhx16 := hx16; (try simp only [rng_mem, rng_length] at hmhx16); exact (d_add (d_sub (d_var 1 (P := rI day_here_) rfl rfl) d_int) (d_mod (d_ixL (r := rI) (xs := numbers_here_) (i := (10 + k_)) (x := (ixg numbers_here_ (10 + k_))) (D.imp (P := (rL K rI) numbers_here_) (d_var 0 (P := (rL K rI) numbers_here_) rfl (Mono.mono (s2.trans (s10.trans s15)) h0_)) fun _ _ => rdL_of) (d_add d_int (d_var 5 (P := rI k_) rfl rfl)) (atI_ixg (by first | (constructor <;> omega) | (simp only [List.length_cons, List.length_nil]; constructor <;> omega) | exact ix_mod (by omega) | (simp only [decide_eq_true_eq, decide_eq_false_iff_not] at *; constructor <;> omega)))) d_int (by decide)))) (by (try simp only [List.length_map, rng_length]); omega))) fun _ _ => rdL_of) (by (try simp only [List.length_map, rng_length]); omega))) (fun days_17 edays_17 v19 Gs18 s18 h20 => ?_)
  have hl2 : days_17.length ≤ 32 := by rw [edays_17, List.length_append, List.length_map, rng_length]; omega
  refine b_setV (r := (rL K rI)) 4 sc_law_holidays.nd (d_new (n_slL (r := rI) (D.imp (P := (rL K rI) days_17) (d_var 3 (P := (rL K rI) days_17) rfl h20) fun _ _ => rdL_of) do_none (do_some (d_mod (d_ixL (r := rI) (xs := numbers_here_) (i := 5) (x := (ixg numbers_here_ 5)) (D.imp (P := (rL K rI) numbers_here_) (d_var 0 (P := (rL K rI) numbers_here_) rfl (Mono.mono (s2.trans (s10.trans s18)) h0_)) fun _ _ => rdL_of) d_int (atI_ixg (by first | (constructor <;> omega) | (simp only [List.length_cons, List.length_nil]; constructor <;> omega) | exact ix_mod (by omega) | (simp only [decide_eq_true_eq, decide_eq_false_iff_not] at *; constructor <;> omega)))) d_int (by decide))))) (fun again_21 eagain_21 v23 Gs22 s22 h24 => ?_)
  have hl3 : again_21.length ≤ 32 := by rw [eagain_21]; exact Nat.le_trans (cutL_le _ _ _) hl2
  refine b_setV (r := (rL K rI)) 3 sc_law_holidays.nd (d_new (n_cat (r := rI) (D.imp (P := (rL K rI) ((rng 0 (days_17.length : Int)).map (fun k_ : Int => (ixg days_17 (((days_17.length : Int) - 1) - k_))))) (d_new (n_lc (C := fun _ => True) (own := [("_law_k", 5)]) (xs := (rng 0 (days_17.length : Int))) (r := rI) (f := (fun k_ : Int => (ixg days_17 (((days_17.length : Int) - 1) - k_)))) rfl sc_law_holidays.nd (blkOk_by (N := N_law_holidays) (sc := defScope s_law_holidays) (by decide +kernel)) (i_rng1 m_range (d_lenL (r := rI) m_len (D.imp (P := (rL K rI) days_17) (d_var 3 (P := (rL K rI) days_17) rfl (Mono.mono s22 h20)) fun _ _ => rdL_of)) (by omega) (by omega)) (tgb_name 5 sc_law_holidays.nd) (fun _ _ => trivial) (fun _ _ _ ⟨_, _, e⟩ => by subst e; exact wipe1) (fun (k_ : Int) hx28 _ _ _ s27 ⟨c0_, ec⟩ hS _ _ _ _ _ => by subst ec; obtain ⟨v25, h26, rfl⟩ := hS; cases h26; have hmhx28 := hx28; (try simp only [rng_mem, rng_length] at hmhx28); exact (d_ixL (r := rI) (xs := days_17) (i := (((days_17.length : Int) - 1) - k_)) (x := (ixg days_17 (((days_17.length : Int) - 1) - k_))) (D.imp (P := (rL K rI) days_17) (d_var 3 (P := (rL K rI) days_17) rfl (Mono.mono (s22.trans s27) h20)) fun _ _ => rdL_of) (d_sub (d_sub (d_lenL (r := rI) m_len (D.imp (P := (rL K rI) days_17) (d_var 3 (P := (rL K rI) days_17) rfl (Mono.mono (s22.trans s27) h20)) fun _ _ => rdL_of)) d_int) (d_var 5 (P := rI k_) rfl rfl)) (atI_ixg (by first | (constructor <;> omega) | (simp only [List.length_cons, List.length_nil]; constructor <;> omega) | exact ix_mod (by omega) | (simp only [decide_eq_true_eq, decide_eq_false_iff_not] at *; constructor <;> omega))))) (by (try simp only [List.length_map, rng_length]); omega))) fun _ _ => rdL_of) (D.imp (P := (rL K rI) again_21) (d_var 4 (P := (rL K rI) again_21) rfl h24) fun _ _ => rdL_of) (by (try simp only [List.length_map, rng_length]); omega))) (fun days_29 edays_29 v31 Gs30 s30 h32 => ?_)
  have hl4 : days_29.length ≤ 64 := by rw [edays_29, List.length_append, List.length_map, rng_length]; omega
  refine b_if (S' := ((List Int))) (fun (z35 : ((List Int))) σ_ G_ cs_ => ∃ v36 : V, ∃ o38 : Option V, ∃ o39 : Option V, σ_ = [some v0_, some (.int day_here_), some (.int first_1), some v36, some v23, o38, o39] ∧ cs = cs_ ∧ (rL K rI) z35 G_ v36) (t_cmp op_eq (nomark _) (d_mod (d_ixL (r := rI) (xs := numbers_here_) (i := 9) (x := (ixg numbers_here_ 9)) (D.imp (P := (rL K rI) numbers_here_) (d_var 0 (P := (rL K rI) numbers_here_) rfl (Mono.mono (s2.trans (s10.trans (s18.trans (s22.trans s30)))) h0_)) fun _ _ => rdL_of) d_int (atI_ixg (by first | (constructor <;> omega) | (simp only [List.length_cons, List.length_nil]; constructor <;> omega) | exact ix_mod (by omega) | (simp only [decide_eq_true_eq, decide_eq_false_iff_not] at *; constructor <;> omega)))) d_int (by decide)) d_int fun _ _ _ _ _ _ hx hy _ q => c_eqI hx hy q) ?_ ?_ ?_
  · intro hc33 Gs34 s34
    have dhc33 := hc33
    try simp only [decide_eq_true_eq, decide_eq_false_iff_not, Bool.and_eq_true, Bool.and_eq_false_imp, Bool.or_eq_true, Bool.or_eq_false_iff, Bool.not_eq_true', Bool.not_eq_false', Bool.not_not, ne_eq, Int.not_lt, Int.not_le] at dhc33
    refine b_setV (r := (rL K rI)) 3 sc_law_holidays.nd (d_new (n_lc (C := fun _ => True) (own := [("_law_k", 5)]) (xs := (rng 0 ((ixg numbers_here_ 3) % 101))) (r := rI) (f := (fun k_ : Int => (first_1 + k_))) rfl sc_law_holidays.nd (blkOk_by (N := N_law_holidays) (sc := defScope s_law_holidays) (by decide +kernel)) (i_rng1 m_range (d_mod (d_ixL (r := rI) (xs := numbers_here_) (i := 3) (x := (ixg numbers_here_ 3)) (D.imp (P := (rL K rI) numbers_here_) (d_var 0 (P := (rL K rI) numbers_here_) rfl (Mono.mono (s2.trans (s10.trans (s18.trans (s22.trans (s30.trans s34))))) h0_)) fun _ _ => rdL_of) d_int (atI_ixg (by first | (constructor <;> omega) | (simp only [List.length_cons, List.length_nil]; constructor <;> omega) | exact ix_mod (by omega) | (simp only [decide_eq_true_eq, decide_eq_false_iff_not] at *; constructor <;> omega)))) d_int (by decide)) (by omega) (by omega)) (tgb_name 5 sc_law_holidays.nd) (fun _ _ => trivial) (fun _ _ _ ⟨_, _, e⟩ => by subst e; exact wipe1) (fun (k_ : Int) hx43 _ _ _ s42 ⟨c0_, ec⟩ hS _ _ _ _ _ => by subst ec; obtain ⟨v40, h41, rfl⟩ := hS; cases h41; have hmhx43 := hx43; (try simp only [rng_mem, rng_length] at hmhx43); exact (d_add (d_var 2 (P := rI first_1) rfl rfl) (d_var 5 (P := rI k_) rfl rfl))) (by (try simp only [List.length_map, rng_length]); omega))) (fun days_44 edays_44 v46 Gs45 s45 h47 => ?_)
    have hl5 : days_44.length ≤ 100 := by rw [edays_44, List.length_map, rng_length]; omega
    refine b_ifl (t_cmp op_eq (nomark _) (d_mod (d_ixL (r := rI) (xs := numbers_here_) (i := 4) (x := (ixg numbers_here_ 4)) (D.imp (P := (rL K rI) numbers_here_) (d_var 0 (P := (rL K rI) numbers_here_) rfl (Mono.mono (s2.trans (s10.trans (s18.trans (s22.trans (s30.trans (s34.trans s45)))))) h0_)) fun _ _ => rdL_of) d_int (atI_ixg (by first | (constructor <;> omega) | (simp only [List.length_cons, List.length_nil]; constructor <;> omega) | exact ix_mod (by omega) | (simp only [decide_eq_true_eq, decide_eq_false_iff_not] at *; constructor <;> omega)))) d_int (by decide)) d_int fun _ _ _ _ _ _ hx hy _ q => c_eqI hx hy q) ?_ ?_
    · intro hc48 Gs49 s49
      have dhc48 := hc48
      try simp only [decide_eq_true_eq, decide_eq_false_iff_not, Bool.and_eq_true, Bool.and_eq_false_imp, Bool.or_eq_true, Bool.or_eq_false_iff, Bool.not_eq_true', Bool.not_eq_false', Bool.not_not, ne_eq, Int.not_lt, Int.not_le] at dhc48
      refine b_setV (r := (rL K rI)) 3 sc_law_holidays.nd (d_new (n_lc (C := fun _ => True) (own := [("_law_k", 5)]) (xs := (rng 0 (days_44.length : Int))) (r := rI) (f := (fun k_ : Int => (ixg days_44 (((days_44.length : Int) - 1) - k_)))) rfl sc_law_holidays.nd (blkOk_by (N := N_law_holidays) (sc := defScope s_law_holidays) (by decide +kernel)) (i_rng1 m_range (d_lenL (r := rI) m_len (D.imp (P := (rL K rI) days_44) (d_var 3 (P := (rL K rI) days_44) rfl (Mono.mono s49 h47)) fun _ _ => rdL_of)) (by omega) (by omega)) (tgb_name 5 sc_law_holidays.nd) (fun _ _ => trivial) (fun _ _ _ ⟨_, _, e⟩ => by subst e; exact wipe1) (fun (k_ : Int) hx53 _ _ _ s52 ⟨c0_, ec⟩ hS _ _ _ _ _ => by subst ec; obtain ⟨v50, h51, rfl⟩ := hS; cases h51; have hmhx53 := hx53; (try simp only [rng_mem, rng_length] at hmhx53); exact (d_ixL (r := rI) (xs := days_44) (i := (((days_44.length : Int) - 1) - k_)) (x := (ixg days_44 (((days_44.length : Int) - 1) - k_))) (D.imp (P := (rL K rI) days_44) (d_var 3 (P := (rL K rI) days_44) rfl (Mono.mono (s49.trans s52) h47)) fun _ _ => rdL_of) (d_sub (d_sub (d_lenL (r := rI) m_len (D.imp (P := (rL K rI) days_44) (d_var 3 (P := (rL K rI) days_44) rfl (Mono.mono (s49.trans s52) h47)) fun _ _ => rdL_of)) d_int) (d_var 5 (P := rI k_) rfl rfl)) (atI_ixg (by first | (constructor <;> omega) | (simp only [List.length_cons, List.length_nil]; constructor <;> omega) | exact ix_mod (by omega) | (simp only [decide_eq_true_eq, decide_eq_false_iff_not] at *; constructor <;> omega))))) (by (try simp only [List.length_map, rng_length]); omega))) (fun days_54 edays_54 v56 Gs55 s55 h57 => ?_)
      exact b_nil (by refine ⟨_, _, _, rfl, rfl, h57⟩)
    · intro hc48 Gs49 s49
      have dhc48 := hc48
      try simp only [decide_eq_true_eq, decide_eq_false_iff_not, Bool.and_eq_true, Bool.and_eq_false_imp, Bool.or_eq_true, Bool.or_eq_false_iff, Bool.not_eq_true', Bool.not_eq_false', Bool.not_not, ne_eq, Int.not_lt, Int.not_le] at dhc48
      exact b_nil (by refine ⟨_, _, _, rfl, rfl, (Mono.mono s49 h47)⟩)
  · intro hc33 Gs34 s34
    have dhc33 := hc33
    try simp only [decide_eq_true_eq, decide_eq_false_iff_not, Bool.and_eq_true, Bool.and_eq_false_imp, Bool.or_eq_true, Bool.or_eq_false_iff, Bool.not_eq_true', Bool.not_eq_false', Bool.not_not, ne_eq, Int.not_lt, Int.not_le] at dhc33
    exact b_nil (by refine ⟨_, _, _, rfl, rfl, (Mono.mono s34 h32)⟩)
  · intro z35 _ _ _ sz35 hNz35 hmz35
    obtain ⟨v36, o38, o39, rfl, rfl, h37⟩ := hNz35
    have hlz35 : z35.length ≤ 100 := by (try unfold letV at hmz35); (try split at hmz35) <;> (try split at hmz35) <;> cases hmz35 <;> (try simp only [List.length_map, rng_length]) <;> omega
    exact b_ret (P := (rL K rI) ((z35.filter (fun near_ : Int => (decide (0 ≤ near_)) && (decide (near_ ≤ 36524)))).map (fun near_ : Int => near_))) (d_new (n_lcIf (C := fun _ => True) (own := [("_law_near", 6)]) (xs := z35) (r := rI) (f := (fun near_ : Int => near_)) (q := fun near_ : Int => (decide (0 ≤ near_)) && (decide (near_ ≤ 36524))) rfl sc_law_holidays.nd (blkOk_by (N := N_law_holidays) (sc := defScope s_law_holidays) (by decide +kernel)) (i_listF (r := rI) (d_var 3 (P := (rL K rI) z35) rfl h37)) (tgb_name 6 sc_law_holidays.nd) (fun _ _ => trivial) (fun _ _ _ ⟨_, _, e⟩ => by subst e; exact wipe1) (fun (near_ : Int) hx61 _ _ _ s60 ⟨c0_, ec⟩ hS _ _ _ _ _ => by subst ec; obtain ⟨v58, h59, rfl⟩ := hS; cases h59; have hmhx61 := hx61; (try simp only [rng_mem, rng_length] at hmhx61); exact (t_w (w_and (t_cmp op_le (nomark _) d_int (d_var 6 (P := rI near_) rfl rfl) fun _ _ _ _ _ _ hx hy _ q => c_le hx hy q) fun hk62 => (w_and1 (t_cmp op_le (nomark _) (d_var 6 (P := rI near_) rfl rfl) d_int fun _ _ _ _ _ _ hx hy _ q => c_le hx hy q))))) (fun (near_ : Int) hx61 hq63 _ _ _ s60 ⟨c0_, ec⟩ hS _ _ _ _ _ => by subst ec; obtain ⟨v58, h59, rfl⟩ := hS; cases h59; have hmhx61 := hx61; (try simp only [rng_mem, rng_length] at hmhx61); exact (d_var 6 (P := rI near_) rfl rfl)) (by (try simp only [List.length_map, rng_length]); omega))) (fun _ _ _ h => ⟨⟨[], rfl⟩, h⟩)
end Ck08

namespace Ck08
open PySem L2 PyProof.Rows J
abbrev s_is_day : Stmt := PySem.Challenge.pw_corebank_k08_whole_adjust.main.body.getD 15 (.Pass ⟨0, 0, 0, 0⟩)
abbrev N_is_day : List Str := ["number"]
theorem sc_is_day : FnScope ["number"] ["number"] (defScope s_is_day) := ⟨rfl, rfl, rfl, by decide +kernel, rfl, by decide +kernel, by decide +kernel⟩
theorem ok_is_day {P : Program} {w : World} {K : PySem.W.Frag} {mg : Str → Option Value} {base : Heap} {f : Addr} {fd : FuncData} (F : Fun K "is_day" "is_day" s_is_day f fd) (b : Binds K fd ["number"] []) (hmg : mg "is_day" = some (.ref f)) {adr : _root_.Fin 7 → Addr} {B0 : Addr} (Er : Errs K mg nm_ adr B0) (c_LAST_DAY : GlobR mg "LAST_DAY" (rI 36524)) :
    Fn0 P w K mg base CX0 1 "is_day" 1 (sp_is_day K) := by
  have hsl := sizeLine_eq
  refine fn_mk F sc_is_day b hmg (fun i : (Int) => b_is_day i) (fun i G vs h => ?_) (fun cdv A outer s H E number_ G cs vs hr hp => ?_)
  · obtain ⟨v0_, h, _⟩ := h
    rw [h]
    rfl
  obtain ⟨v0_, rfl, h0_⟩ := hp
  cases h0_
  show B _ _ _ [some (.int number_)] G cs _ (b_is_day number_)
  unfold b_is_day
  exact b_ret (P := rB (decide (0 ≤ number_) && decide (number_ ≤ 36524))) (d_chain op_le op_le d_int (d_var 0 (P := rI number_) rfl rfl) (d_globR c_LAST_DAY) (fun _ _ _ _ _ _ hx hy _ q => c_le hx hy q) (fun _ _ _ _ _ _ hx hy _ q => c_le hx hy q)) (fun _ _ _ h => ⟨⟨[], rfl⟩, h⟩)
end Ck08

namespace Ck08
open PySem L2 PyProof.Rows J
abbrev s_check_day : Stmt := PySem.Challenge.pw_corebank_k08_whole_adjust.main.body.getD 16 (.Pass ⟨0, 0, 0, 0⟩)
abbrev N_check_day : List Str := ["day"]
theorem sc_check_day : FnScope ["day"] ["day"] (defScope s_check_day) := ⟨rfl, rfl, rfl, by decide +kernel, rfl, by decide +kernel, by decide +kernel⟩
theorem ok_check_day {P : Program} {w : World} {K : PySem.W.Frag} {mg : Str → Option Value} {base : Heap} {f : Addr} {fd : FuncData} (F : Fun K "check_day" "check_day" s_check_day f fd) (b : Binds K fd ["day"] []) (hmg : mg "check_day" = some (.ref f)) {adr : _root_.Fin 7 → Addr} {B0 : Addr} (Er : Errs K mg nm_ adr B0) (F_is_day : Fn0 P w K mg base CX0 1 "is_day" 1 (sp_is_day K)) :
    Fn0 P w K mg base (L2.CX P w) 2 "check_day" 1 (sp_check_day K adr) := by
  have hsl := sizeLine_eq
  refine fn_mkE (cE := cE adr) F sc_check_day b hmg (fun i : (Int) => b_check_day i) (fun i G vs h => ?_) (fun cdv A outer s H E day_ G cs vs hr hp => ?_)
  · obtain ⟨v0_, h, _⟩ := h
    rw [h]
    rfl
  obtain ⟨v0_, rfl, h0_⟩ := hp
  cases h0_
  show B _ (wE2 adr (fun c d _ H => E c d H)) _ [some (.int day_)] G cs _ (b_check_day day_)
  unfold b_check_day
  refine b_ifx (t_not (t_val (d_callQ (P := rB (m_is_day day_)) (day_) F_is_day hr (by decide) (a_cons (P := rI day_) (d_var 0 (P := rI day_) rfl rfl) a_nil) (fun _ _ _ h => by obtain ⟨v0, w0, rfl, h0, rfl⟩ := h; exact ⟨v0, rfl, h0⟩) fun _ _ h => h))) ?_ ?_
  · intro hc1 Gs2 s2
    have dhc1 := hc1
    try simp only [decide_eq_true_eq, decide_eq_false_iff_not, Bool.and_eq_true, Bool.and_eq_false_imp, Bool.or_eq_true, Bool.or_eq_false_iff, Bool.not_eq_true', Bool.not_eq_false', Bool.not_not, ne_eq, Int.not_lt, Int.not_le] at dhc1
    exact b_raise 1 Er rfl (takes_of rfl rfl rfl rfl) rfl ⟨[], rfl⟩
  · intro hc1 Gs2 s2
    have dhc1 := hc1
    try simp only [decide_eq_true_eq, decide_eq_false_iff_not, Bool.and_eq_true, Bool.and_eq_false_imp, Bool.or_eq_true, Bool.or_eq_false_iff, Bool.not_eq_true', Bool.not_eq_false', Bool.not_not, ne_eq, Int.not_lt, Int.not_le] at dhc1
    exact b_nil ⟨⟨[], rfl⟩, rfl⟩
end Ck08

namespace Ck08
open PySem L2 PyProof.Rows J
abbrev s_weekday : Stmt := PySem.Challenge.pw_corebank_k08_whole_adjust.main.body.getD 20 (.Pass ⟨0, 0, 0, 0⟩)
abbrev N_weekday : List Str := ["day"]
theorem sc_weekday : FnScope ["day"] ["day"] (defScope s_weekday) := ⟨rfl, rfl, rfl, by decide +kernel, rfl, by decide +kernel, by decide +kernel⟩
theorem ok_weekday {P : Program} {w : World} {K : PySem.W.Frag} {mg : Str → Option Value} {base : Heap} {f : Addr} {fd : FuncData} (F : Fun K "weekday" "weekday" s_weekday f fd) (b : Binds K fd ["day"] []) (hmg : mg "weekday" = some (.ref f)) {adr : _root_.Fin 7 → Addr} {B0 : Addr} (Er : Errs K mg nm_ adr B0) (F_check_day : Fn0 P w K mg base (L2.CX P w) 2 "check_day" 1 (sp_check_day K adr)) :
    Fn0 P w K mg base (L2.CX P w) 3 "weekday" 1 (sp_weekday K adr) := by
  have hsl := sizeLine_eq
  refine fn_mkE (cE := cE adr) F sc_weekday b hmg (fun i : (Int) => b_weekday i) (fun i G vs h => ?_) (fun cdv A outer s H E day_ G cs vs hr hp => ?_)
  · obtain ⟨v0_, h, _⟩ := h
    rw [h]
    rfl
  obtain ⟨v0_, rfl, h0_⟩ := hp
  cases h0_
  show B _ (wE2 adr (fun c d _ H => E c d H)) _ [some (.int day_)] G cs _ (b_weekday day_)
  unfold b_weekday
  refine b_exprE (P := rN) ?_ (fun _ _ _ _ => ⟨[], rfl⟩) (fun o2 eo2 Gs1 s1 => ?_)
  · exact (de_callQ (adr := adr) (P := rN) (day_) F_check_day (takes_of rfl rfl rfl rfl) hr (by decide) (a_cons (P := rI day_) (d_var 0 (P := rI day_) rfl rfl) a_nil) (fun _ _ _ h => by obtain ⟨v0, w0, rfl, h0, rfl⟩ := h; exact ⟨v0, rfl, h0⟩) fun _ _ _ h => h)
  exact b_ret (P := rI ((day_ + 5) % 7)) (d_mod (d_add (d_var 0 (P := rI day_) rfl rfl) d_int) d_int (by decide)) (fun _ _ _ h => ⟨⟨[], rfl⟩, h⟩)
end Ck08

namespace Ck08
open PySem L2 PyProof.Rows J
abbrev s_is_working : Stmt := PySem.Challenge.pw_corebank_k08_whole_adjust.main.body.getD 21 (.Pass ⟨0, 0, 0, 0⟩)
abbrev N_is_working : List Str := ["day", "holidays"]
theorem sc_is_working : FnScope ["day", "holidays"] ["day", "holidays"] (defScope s_is_working) := ⟨rfl, rfl, rfl, by decide +kernel, rfl, by decide +kernel, by decide +kernel⟩
theorem ok_is_working {P : Program} {w : World} {K : PySem.W.Frag} {mg : Str → Option Value} {base : Heap} {f : Addr} {fd : FuncData} (F : Fun K "is_working" "is_working" s_is_working f fd) (b : Binds K fd ["day", "holidays"] []) (hmg : mg "is_working" = some (.ref f)) {adr : _root_.Fin 7 → Addr} {B0 : Addr} (Er : Errs K mg nm_ adr B0) (F_weekday : Fn0 P w K mg base (L2.CX P w) 3 "weekday" 1 (sp_weekday K adr)) :
    Fn0 P w K mg base (L2.CX P w) 4 "is_working" 2 (sp_is_working K adr) := by
  have hsl := sizeLine_eq
  refine fn_mkE (cE := cE adr) F sc_is_working b hmg (fun i : (Int × (List Int)) => b_is_working i.1 i.2) (fun i G vs h => ?_) (fun cdv A outer s H E i G cs vs hr hp => ?_)
  · obtain ⟨v0_, v1_, h, _⟩ := h
    rw [h]
    rfl
  obtain ⟨day_, holidays_⟩ := i
  obtain ⟨v0_, v1_, rfl, h0_, h1_⟩ := hp
  cases h0_
  show B _ (wE2 adr (fun c d _ H => E c d H)) _ [some (.int day_), some v1_] G cs _ (b_is_working day_ holidays_)
  unfold b_is_working
  refine b_retE (P := fun o1 => rB ((decide (o1 < 5)) && (!(inB day_ holidays_)))) (g := fun o1 => ((decide (o1 < 5)) && (!(inB day_ holidays_)))) ?_ (fun _ _ _ _ => ⟨[], rfl⟩) (fun _ _ _ _ _ h => ⟨⟨[], rfl⟩, h⟩)
  exact (de_and (k := fun o1 => (decide (o1 < 5))) (k' := fun o1 => (!(inB day_ holidays_))) (de_cmp (k := fun o1 => decide (o1 < 5)) op_lt (nomark _) (de_callQ (adr := adr) (P := rI) (day_) F_weekday (takes_of rfl rfl rfl rfl) hr (by decide) (a_cons (P := rI day_) (d_var 0 (P := rI day_) rfl rfl) a_nil) (fun _ _ _ h => by obtain ⟨v0, w0, rfl, h0, rfl⟩ := h; exact ⟨v0, rfl, h0⟩) fun _ _ _ h => h) d_int fun _ _ _ _ _ _ _ hx hy _ q => c_lt hx hy q) fun o1 _ => (d_one (d_nin (r := rI) (d_var 0 (P := rI day_) rfl rfl) (D.imp (P := rdL K _ rI holidays_) (D.imp (P := (rL K rI) holidays_) (d_var 1 (P := (rL K rI) holidays_) rfl h1_) fun _ _ => rdL_of) fun _ _ => rRow_l))))
end Ck08

namespace Ck08
open PySem L2 PyProof.Rows J
abbrev s_law_works : Stmt := PySem.Challenge.pw_corebank_k08_whole_adjust.main.body.getD 34 (.Pass ⟨0, 0, 0, 0⟩)
abbrev N_law_works : List Str := ["_law_day_here", "_law_holidays_here"]
theorem sc_law_works : FnScope ["_law_day_here", "_law_holidays_here"] ["_law_day_here", "_law_holidays_here"] (defScope s_law_works) := ⟨rfl, rfl, rfl, by decide +kernel, rfl, by decide +kernel, by decide +kernel⟩
theorem ok_law_works {P : Program} {w : World} {K : PySem.W.Frag} {mg : Str → Option Value} {base : Heap} {f : Addr} {fd : FuncData} (F : Fun K "_law_works" "_law_works" s_law_works f fd) (b : Binds K fd ["_law_day_here", "_law_holidays_here"] []) (hmg : mg "_law_works" = some (.ref f)) {adr : _root_.Fin 7 → Addr} {B0 : Addr} (Er : Errs K mg nm_ adr B0)  :
    Fn0 P w K mg base CX0 1 "_law_works" 2 (sp_law_works K) := by
  have hsl := sizeLine_eq
  refine fn_mk F sc_law_works b hmg (fun i : (Int × (List Int)) => b_law_works i.1 i.2) (fun i G vs h => ?_) (fun cdv A outer s H E i G cs vs hr hp => ?_)
  · obtain ⟨v0_, v1_, h, _⟩ := h
    rw [h]
    rfl
  obtain ⟨day_here_, holidays_here_⟩ := i
  obtain ⟨v0_, v1_, rfl, h0_, h1_⟩ := hp
  cases h0_
  show B _ _ _ [some (.int day_here_), some v1_] G cs _ (b_law_works day_here_ holidays_here_)
  unfold b_law_works
  exact b_ret (P := rB (((decide (((day_here_ + 5) % 7) < 5))) && ((!(inB day_here_ holidays_here_))))) (d_and (d_cmp op_lt (nomark _) (d_mod (d_add (d_var 0 (P := rI day_here_) rfl rfl) d_int) d_int (by decide)) d_int fun _ _ _ _ _ _ hx hy _ q => c_lt hx hy q) fun hk1 => (d_one (d_nin (r := rI) (d_var 0 (P := rI day_here_) rfl rfl) (D.imp (P := rdL K _ rI holidays_here_) (D.imp (P := (rL K rI) holidays_here_) (d_var 1 (P := (rL K rI) holidays_here_) rfl h1_) fun _ _ => rdL_of) fun _ _ => rRow_l)))) (fun _ _ _ h => ⟨⟨[], rfl⟩, h⟩)
end Ck08

namespace Ck08
open PySem L2 PyProof.Rows J
abbrev s_law_kinds : Stmt := PySem.Challenge.pw_corebank_k08_whole_adjust.main.body.getD 29 (.Pass ⟨0, 0, 0, 0⟩)
abbrev N_law_kinds : List Str := ["_law_error", "_law_kinds_here"]
theorem sc_law_kinds : FnScope ["_law_error", "_law_kinds_here"] ["_law_error"] (defScope s_law_kinds) := ⟨rfl, rfl, rfl, by decide +kernel, rfl, by decide +kernel, by decide +kernel⟩
theorem ok_law_kinds {P : Program} {w : World} {K : PySem.W.Frag} {mg : Str → Option Value} {base : Heap} {f : Addr} {fd : FuncData} (F : Fun K "_law_kinds" "_law_kinds" s_law_kinds f fd) (b : Binds K fd ["_law_error"] []) (hmg : mg "_law_kinds" = some (.ref f)) {adr : _root_.Fin 7 → Addr} {B0 : Addr} (Er : Errs K mg nm_ adr B0) (m_isinstance : mg "isinstance" = none) :
    FnX P w K mg base 1 "_law_kinds" 1 (sp_law_kinds K adr) := by
  have hsl := sizeLine_eq
  refine fn_mkX F sc_law_kinds b hmg b_law_kinds (fun cdv A outer s H E p error_ G cs hr hz hf => ?_)
  show B _ _ _ [some (.ref p.1), none] G cs _ (b_law_kinds error_)
  unfold b_law_kinds
  refine b_setN 1 sc_law_kinds.nd (n_lst (r := rS) (xs := ([] : (List (List Nat)))) a_nil ls_n) (fun l2 us3 Gs4 s4 h5 => ?_)
  refine letV_intro (fun kinds_here_1 ekinds_here_1 => ?_)
  rw [← ekinds_here_1] at h5
  have nkinds_here_1 : kinds_here_1.length = 0 := by rw [ekinds_here_1]; rfl
  refine b_if (S' := ((List (List Nat)))) (fun (z8 : ((List (List Nat)))) σ_ G_ cs_ => ∃ us9 : List V, σ_ = [some (.ref p.1), some (.ref l2)] ∧ (l2, HO.lst us9) :: cs = cs_ ∧ Rs rS G_ z8 us9 ∧ z8.length ≤ kinds_here_1.length + 1) (t_val (d_isE error_ 0 Er hz hf List.mem_cons_self m_isinstance (d_var 0 (P := rV (.ref p.1)) rfl rfl) rfl)) ?_ ?_ ?_
  · intro hc6 Gs7 s7
    have dhc6 := hc6
    try simp only [decide_eq_true_eq, decide_eq_false_iff_not, Bool.and_eq_true, Bool.and_eq_false_imp, Bool.or_eq_true, Bool.or_eq_false_iff, Bool.not_eq_true', Bool.not_eq_false', Bool.not_not, ne_eq, Int.not_lt, Int.not_le] at dhc6
    refine b_app 0 (P := rS [66, 97, 100, 86, 97, 108, 117, 101]) rfl (d_var 1 (P := rV (.ref l2)) rfl rfl) (d_str (l := [66, 97, 100, 86, 97, 108, 117, 101]) (by decide +kernel)) (by have hq := Rs.length h5; omega) (fun v11 Gs12 s12 h13 => ?_)
    have h15 := Rs.snoc h13 (Rs.mono (s7.trans s12) h5)
    refine letV_intro (fun kinds_here_14 ekinds_here_14 => ?_)
    rw [← ekinds_here_14] at h15
    have nkinds_here_14 : kinds_here_14.length = kinds_here_1.length + 1 := by rw [ekinds_here_14, List.length_append]; rfl
    exact b_nil (by refine ⟨_, rfl, rfl, h15, by first | omega | (simp only [List.length_append, List.length_cons, List.length_nil] at *; omega)⟩)
  · intro hc6 Gs7 s7
    have dhc6 := hc6
    try simp only [decide_eq_true_eq, decide_eq_false_iff_not, Bool.and_eq_true, Bool.and_eq_false_imp, Bool.or_eq_true, Bool.or_eq_false_iff, Bool.not_eq_true', Bool.not_eq_false', Bool.not_not, ne_eq, Int.not_lt, Int.not_le] at dhc6
    exact b_nil (by refine ⟨_, rfl, rfl, (Rs.mono s7 h5), by first | omega | (simp only [List.length_append, List.length_cons, List.length_nil] at *; omega)⟩)
  · intro z8 _ _ _ sz8 hNz8 hmz8
    obtain ⟨us9, rfl, rfl, h10, hbz8⟩ := hNz8
    refine b_if (S' := ((List (List Nat)))) (fun (z18 : ((List (List Nat)))) σ_ G_ cs_ => ∃ us19 : List V, σ_ = [some (.ref p.1), some (.ref l2)] ∧ (l2, HO.lst us19) :: cs = cs_ ∧ Rs rS G_ z18 us19 ∧ z18.length ≤ z8.length + 1) (t_val (d_isE error_ 1 Er hz hf List.mem_cons_self m_isinstance (d_var 0 (P := rV (.ref p.1)) rfl rfl) rfl)) ?_ ?_ ?_
    · intro hc16 Gs17 s17
      have dhc16 := hc16
      try simp only [decide_eq_true_eq, decide_eq_false_iff_not, Bool.and_eq_true, Bool.and_eq_false_imp, Bool.or_eq_true, Bool.or_eq_false_iff, Bool.not_eq_true', Bool.not_eq_false', Bool.not_not, ne_eq, Int.not_lt, Int.not_le] at dhc16
      refine b_app 0 (P := rS [66, 97, 100, 68, 97, 121]) rfl (d_var 1 (P := rV (.ref l2)) rfl rfl) (d_str (l := [66, 97, 100, 68, 97, 121]) (by decide +kernel)) (by have hq := Rs.length h10; omega) (fun v21 Gs22 s22 h23 => ?_)
      have h25 := Rs.snoc h23 (Rs.mono (s17.trans s22) h10)
      refine letV_intro (fun kinds_here_24 ekinds_here_24 => ?_)
      rw [← ekinds_here_24] at h25
      have nkinds_here_24 : kinds_here_24.length = z8.length + 1 := by rw [ekinds_here_24, List.length_append]; rfl
      exact b_nil (by refine ⟨_, rfl, rfl, h25, by first | omega | (simp only [List.length_append, List.length_cons, List.length_nil] at *; omega)⟩)
    · intro hc16 Gs17 s17
      have dhc16 := hc16
      try simp only [decide_eq_true_eq, decide_eq_false_iff_not, Bool.and_eq_true, Bool.and_eq_false_imp, Bool.or_eq_true, Bool.or_eq_false_iff, Bool.not_eq_true', Bool.not_eq_false', Bool.not_not, ne_eq, Int.not_lt, Int.not_le] at dhc16
      exact b_nil (by refine ⟨_, rfl, rfl, (Rs.mono s17 h10), by first | omega | (simp only [List.length_append, List.length_cons, List.length_nil] at *; omega)⟩)
    · intro z18 _ _ _ sz18 hNz18 hmz18
      obtain ⟨us19, rfl, rfl, h20, hbz18⟩ := hNz18
      refine b_if (S' := ((List (List Nat)))) (fun (z28 : ((List (List Nat)))) σ_ G_ cs_ => ∃ us29 : List V, σ_ = [some (.ref p.1), some (.ref l2)] ∧ (l2, HO.lst us29) :: cs = cs_ ∧ Rs rS G_ z28 us29 ∧ z28.length ≤ z18.length + 1) (t_val (d_isE error_ 2 Er hz hf List.mem_cons_self m_isinstance (d_var 0 (P := rV (.ref p.1)) rfl rfl) rfl)) ?_ ?_ ?_
      · intro hc26 Gs27 s27
        have dhc26 := hc26
        try simp only [decide_eq_true_eq, decide_eq_false_iff_not, Bool.and_eq_true, Bool.and_eq_false_imp, Bool.or_eq_true, Bool.or_eq_false_iff, Bool.not_eq_true', Bool.not_eq_false', Bool.not_not, ne_eq, Int.not_lt, Int.not_le] at dhc26
        refine b_app 0 (P := rS [77, 105, 115, 115, 105, 110, 103]) rfl (d_var 1 (P := rV (.ref l2)) rfl rfl) (d_str (l := [77, 105, 115, 115, 105, 110, 103]) (by decide +kernel)) (by have hq := Rs.length h20; omega) (fun v31 Gs32 s32 h33 => ?_)
        have h35 := Rs.snoc h33 (Rs.mono (s27.trans s32) h20)
        refine letV_intro (fun kinds_here_34 ekinds_here_34 => ?_)
        rw [← ekinds_here_34] at h35
        have nkinds_here_34 : kinds_here_34.length = z18.length + 1 := by rw [ekinds_here_34, List.length_append]; rfl
        exact b_nil (by refine ⟨_, rfl, rfl, h35, by first | omega | (simp only [List.length_append, List.length_cons, List.length_nil] at *; omega)⟩)
      · intro hc26 Gs27 s27
        have dhc26 := hc26
        try simp only [decide_eq_true_eq, decide_eq_false_iff_not, Bool.and_eq_true, Bool.and_eq_false_imp, Bool.or_eq_true, Bool.or_eq_false_iff, Bool.not_eq_true', Bool.not_eq_false', Bool.not_not, ne_eq, Int.not_lt, Int.not_le] at dhc26
        exact b_nil (by refine ⟨_, rfl, rfl, (Rs.mono s27 h20), by first | omega | (simp only [List.length_append, List.length_cons, List.length_nil] at *; omega)⟩)
      · intro z28 _ _ _ sz28 hNz28 hmz28
        obtain ⟨us29, rfl, rfl, h30, hbz28⟩ := hNz28
        refine b_if (S' := ((List (List Nat)))) (fun (z38 : ((List (List Nat)))) σ_ G_ cs_ => ∃ us39 : List V, σ_ = [some (.ref p.1), some (.ref l2)] ∧ (l2, HO.lst us39) :: cs = cs_ ∧ Rs rS G_ z38 us39 ∧ z38.length ≤ z28.length + 1) (t_val (d_isE error_ 3 Er hz hf List.mem_cons_self m_isinstance (d_var 0 (P := rV (.ref p.1)) rfl rfl) rfl)) ?_ ?_ ?_
        · intro hc36 Gs37 s37
          have dhc36 := hc36
          try simp only [decide_eq_true_eq, decide_eq_false_iff_not, Bool.and_eq_true, Bool.and_eq_false_imp, Bool.or_eq_true, Bool.or_eq_false_iff, Bool.not_eq_true', Bool.not_eq_false', Bool.not_not, ne_eq, Int.not_lt, Int.not_le] at dhc36
          refine b_app 0 (P := rS [82, 101, 102, 117, 115, 101, 100]) rfl (d_var 1 (P := rV (.ref l2)) rfl rfl) (d_str (l := [82, 101, 102, 117, 115, 101, 100]) (by decide +kernel)) (by have hq := Rs.length h30; omega) (fun v41 Gs42 s42 h43 => ?_)
          have h45 := Rs.snoc h43 (Rs.mono (s37.trans s42) h30)
          refine letV_intro (fun kinds_here_44 ekinds_here_44 => ?_)
          rw [← ekinds_here_44] at h45
          have nkinds_here_44 : kinds_here_44.length = z28.length + 1 := by rw [ekinds_here_44, List.length_append]; rfl
          exact b_nil (by refine ⟨_, rfl, rfl, h45, by first | omega | (simp only [List.length_append, List.length_cons, List.length_nil] at *; omega)⟩)
        · intro hc36 Gs37 s37
          have dhc36 := hc36
          try simp only [decide_eq_true_eq, decide_eq_false_iff_not, Bool.and_eq_true, Bool.and_eq_false_imp, Bool.or_eq_true, Bool.or_eq_false_iff, Bool.not_eq_true', Bool.not_eq_false', Bool.not_not, ne_eq, Int.not_lt, Int.not_le] at dhc36
          exact b_nil (by refine ⟨_, rfl, rfl, (Rs.mono s37 h30), by first | omega | (simp only [List.length_append, List.length_cons, List.length_nil] at *; omega)⟩)
        · intro z38 _ _ _ sz38 hNz38 hmz38
          obtain ⟨us39, rfl, rfl, h40, hbz38⟩ := hNz38
          refine b_if (S' := ((List (List Nat)))) (fun (z48 : ((List (List Nat)))) σ_ G_ cs_ => ∃ us49 : List V, σ_ = [some (.ref p.1), some (.ref l2)] ∧ (l2, HO.lst us49) :: cs = cs_ ∧ Rs rS G_ z48 us49 ∧ z48.length ≤ z38.length + 1) (t_val (d_isE error_ 4 Er hz hf List.mem_cons_self m_isinstance (d_var 0 (P := rV (.ref p.1)) rfl rfl) rfl)) ?_ ?_ ?_
          · intro hc46 Gs47 s47
            have dhc46 := hc46
            try simp only [decide_eq_true_eq, decide_eq_false_iff_not, Bool.and_eq_true, Bool.and_eq_false_imp, Bool.or_eq_true, Bool.or_eq_false_iff, Bool.not_eq_true', Bool.not_eq_false', Bool.not_not, ne_eq, Int.not_lt, Int.not_le] at dhc46
            refine b_app 0 (P := rS [70, 117, 108, 108]) rfl (d_var 1 (P := rV (.ref l2)) rfl rfl) (d_str (l := [70, 117, 108, 108]) (by decide +kernel)) (by have hq := Rs.length h40; omega) (fun v51 Gs52 s52 h53 => ?_)
            have h55 := Rs.snoc h53 (Rs.mono (s47.trans s52) h40)
            refine letV_intro (fun kinds_here_54 ekinds_here_54 => ?_)
            rw [← ekinds_here_54] at h55
            have nkinds_here_54 : kinds_here_54.length = z38.length + 1 := by rw [ekinds_here_54, List.length_append]; rfl
            exact b_nil (by refine ⟨_, rfl, rfl, h55, by first | omega | (simp only [List.length_append, List.length_cons, List.length_nil] at *; omega)⟩)
          · intro hc46 Gs47 s47
            have dhc46 := hc46
            try simp only [decide_eq_true_eq, decide_eq_false_iff_not, Bool.and_eq_true, Bool.and_eq_false_imp, Bool.or_eq_true, Bool.or_eq_false_iff, Bool.not_eq_true', Bool.not_eq_false', Bool.not_not, ne_eq, Int.not_lt, Int.not_le] at dhc46
            exact b_nil (by refine ⟨_, rfl, rfl, (Rs.mono s47 h40), by first | omega | (simp only [List.length_append, List.length_cons, List.length_nil] at *; omega)⟩)
          · intro z48 _ _ _ sz48 hNz48 hmz48
            obtain ⟨us49, rfl, rfl, h50, hbz48⟩ := hNz48
            refine b_if (S' := ((List (List Nat)))) (fun (z58 : ((List (List Nat)))) σ_ G_ cs_ => ∃ us59 : List V, σ_ = [some (.ref p.1), some (.ref l2)] ∧ (l2, HO.lst us59) :: cs = cs_ ∧ Rs rS G_ z58 us59 ∧ z58.length ≤ z48.length + 1) (t_val (d_isE error_ 5 Er hz hf List.mem_cons_self m_isinstance (d_var 0 (P := rV (.ref p.1)) rfl rfl) rfl)) ?_ ?_ ?_
            · intro hc56 Gs57 s57
              have dhc56 := hc56
              try simp only [decide_eq_true_eq, decide_eq_false_iff_not, Bool.and_eq_true, Bool.and_eq_false_imp, Bool.or_eq_true, Bool.or_eq_false_iff, Bool.not_eq_true', Bool.not_eq_false', Bool.not_not, ne_eq, Int.not_lt, Int.not_le] at dhc56
              refine b_app 0 (P := rS [78, 111, 116, 65, 108, 108, 111, 119, 101, 100]) rfl (d_var 1 (P := rV (.ref l2)) rfl rfl) (d_str (l := [78, 111, 116, 65, 108, 108, 111, 119, 101, 100]) (by decide +kernel)) (by have hq := Rs.length h50; omega) (fun v61 Gs62 s62 h63 => ?_)
              have h65 := Rs.snoc h63 (Rs.mono (s57.trans s62) h50)
              refine letV_intro (fun kinds_here_64 ekinds_here_64 => ?_)
              rw [← ekinds_here_64] at h65
              have nkinds_here_64 : kinds_here_64.length = z48.length + 1 := by rw [ekinds_here_64, List.length_append]; rfl
              exact b_nil (by refine ⟨_, rfl, rfl, h65, by first | omega | (simp only [List.length_append, List.length_cons, List.length_nil] at *; omega)⟩)
            · intro hc56 Gs57 s57
              have dhc56 := hc56
              try simp only [decide_eq_true_eq, decide_eq_false_iff_not, Bool.and_eq_true, Bool.and_eq_false_imp, Bool.or_eq_true, Bool.or_eq_false_iff, Bool.not_eq_true', Bool.not_eq_false', Bool.not_not, ne_eq, Int.not_lt, Int.not_le] at dhc56
              exact b_nil (by refine ⟨_, rfl, rfl, (Rs.mono s57 h50), by first | omega | (simp only [List.length_append, List.length_cons, List.length_nil] at *; omega)⟩)
            · intro z58 _ _ _ sz58 hNz58 hmz58
              obtain ⟨us59, rfl, rfl, h60, hbz58⟩ := hNz58
              refine b_if (S' := ((List (List Nat)))) (fun (z68 : ((List (List Nat)))) σ_ G_ cs_ => ∃ us69 : List V, σ_ = [some (.ref p.1), some (.ref l2)] ∧ (l2, HO.lst us69) :: cs = cs_ ∧ Rs rS G_ z68 us69 ∧ z68.length ≤ z58.length + 1) (t_val (d_isE error_ 6 Er hz hf List.mem_cons_self m_isinstance (d_var 0 (P := rV (.ref p.1)) rfl rfl) rfl)) ?_ ?_ ?_
              · intro hc66 Gs67 s67
                have dhc66 := hc66
                try simp only [decide_eq_true_eq, decide_eq_false_iff_not, Bool.and_eq_true, Bool.and_eq_false_imp, Bool.or_eq_true, Bool.or_eq_false_iff, Bool.not_eq_true', Bool.not_eq_false', Bool.not_not, ne_eq, Int.not_lt, Int.not_le] at dhc66
                refine b_app 0 (P := rS [68, 97, 109, 97, 103, 101, 100]) rfl (d_var 1 (P := rV (.ref l2)) rfl rfl) (d_str (l := [68, 97, 109, 97, 103, 101, 100]) (by decide +kernel)) (by have hq := Rs.length h60; omega) (fun v71 Gs72 s72 h73 => ?_)
                have h75 := Rs.snoc h73 (Rs.mono (s67.trans s72) h60)
                refine letV_intro (fun kinds_here_74 ekinds_here_74 => ?_)
                rw [← ekinds_here_74] at h75
                have nkinds_here_74 : kinds_here_74.length = z58.length + 1 := by rw [ekinds_here_74, List.length_append]; rfl
                exact b_nil (by refine ⟨_, rfl, rfl, h75, by first | omega | (simp only [List.length_append, List.length_cons, List.length_nil] at *; omega)⟩)
              · intro hc66 Gs67 s67
                have dhc66 := hc66
                try simp only [decide_eq_true_eq, decide_eq_false_iff_not, Bool.and_eq_true, Bool.and_eq_false_imp, Bool.or_eq_true, Bool.or_eq_false_iff, Bool.not_eq_true', Bool.not_eq_false', Bool.not_not, ne_eq, Int.not_lt, Int.not_le] at dhc66
                exact b_nil (by refine ⟨_, rfl, rfl, (Rs.mono s67 h60), by first | omega | (simp only [List.length_append, List.length_cons, List.length_nil] at *; omega)⟩)
              · intro z68 _ _ _ sz68 hNz68 hmz68
                obtain ⟨us69, rfl, rfl, h70, hbz68⟩ := hNz68
                have hzs76 := h70
                refine b_freeze 0 rfl (fun s76 h77 => ?_)
                have kh77 : (rL K rS) z68 _ (.ref l2) := ⟨_, _, rfl, SqL.of h77, Rs.mono s76 hzs76⟩
                exact b_ret (P := (rL K rS) z68) (d_var 1 (P := (rL K rS) z68) rfl kh77) (fun _ _ _ h => ⟨⟨[], rfl⟩, h⟩)
end Ck08

namespace Ck08
open PySem L2 PyProof.Rows J
abbrev s_law_tells_working : Stmt := PySem.Challenge.pw_corebank_k08_whole_adjust.main.body.getD 38 (.Pass ⟨0, 0, 0, 0⟩)
abbrev N_law_tells_working : List Str := ["_law_day_here", "_law_holidays_here", "_law_near", "_law_copy", "_law_told_here", "e", "_law_due_here"]
theorem sc_law_tells_working : FnScope ["_law_day_here", "_law_holidays_here", "_law_near", "_law_copy", "_law_told_here", "e", "_law_due_here"] ["_law_day_here", "_law_holidays_here"] (defScope s_law_tells_working) := ⟨rfl, rfl, rfl, by decide +kernel, rfl, by decide +kernel, by decide +kernel⟩
theorem ok_law_tells_working {P : Program} {w : World} {K : PySem.W.Frag} {mg : Str → Option Value} {base : Heap} {f : Addr} {fd : FuncData} (F : Fun K "_law_tells_working" "_law_tells_working" s_law_tells_working f fd) (b : Binds K fd ["_law_day_here", "_law_holidays_here"] []) (hmg : mg "_law_tells_working" = some (.ref f)) {adr : _root_.Fin 7 → Addr} {B0 : Addr} (Er : Errs K mg nm_ adr B0) (m_bool : mg "bool" = none) (m_int : mg "int" = none) (m_isinstance : mg "isinstance" = none) (m_list : mg "list" = none) (m_range : mg "range" = none) (F_law_kinds : FnX P w K mg base 1 "_law_kinds" 1 (sp_law_kinds K adr)) (F_law_works : Fn0 P w K mg base CX0 1 "_law_works" 2 (sp_law_works K)) (F_is_working : Fn0 P w K mg base (L2.CX P w) 4 "is_working" 2 (sp_is_working K adr)) :
    Fn0 P w K mg base CX0 5 "_law_tells_working" 2 (sp_law_tells_working K) := by
  have hsl := sizeLine_eq
  refine fn_mk F sc_law_tells_working b hmg (fun i : (Int × (List Int)) => b_law_tells_working i.1 i.2) (fun i G vs h => ?_) (fun cdv A outer s H E i G cs vs hr hp => ?_)
  · obtain ⟨v0_, v1_, h, _⟩ := h
    rw [h]
    rfl
  obtain ⟨day_here_, holidays_here_⟩ := i
  obtain ⟨v0_, v1_, rfl, h0_, h1_, hpre⟩ := hp
  cases h0_
  show B _ _ _ [some (.int day_here_), some v1_, none, none, none, none, none] G cs _ (b_law_tells_working day_here_ holidays_here_)
  unfold b_law_tells_working
  try dsimp only at hpre
  refine b_for (f := (st_law_tells_working_1 holidays_here_)) (s0 := ()) (xs := (rng (day_here_ - 4) (day_here_ + 5))) (fun n_ (z1 : Unit) σ_ G_ cs_ => ∃ o4 : Option V, ∃ o5 : Option V, ∃ o6 : Option V, ∃ o7 : Option V, ∃ o8 : Option V, σ_ = [some (.int day_here_), some v1_, o4, o5, o6, o7, o8] ∧ cs = cs_) (i_rng2 m_range (d_sub (d_var 0 (P := rI day_here_) rfl rfl) d_int) (d_add (d_var 0 (P := rI day_here_) rfl rfl) d_int) (by refine ⟨?_, ?_, ?_, ?_⟩ <;> omega)) (tg_name 2 sc_law_tells_working.nd) rfl PassesOwn.never ?_ ?_ ?_ ?_
  · intro _ s65
    exact ⟨_, _, _, _, _, rfl, rfl⟩
  · intro _ _ _ _ _ _
    trivial
  · intro pre_ x9 post_ z1 _ _ _ _ _ hxsz1 hrez1 s10 hNz1 s11 hSz1
    obtain ⟨o4, o5, o6, o7, o8, rfl, rfl⟩ := hNz1
    obtain ⟨v2, h3, rfl⟩ := hSz1
    have hltz1 : pre_.length < (rng (day_here_ - 4) (day_here_ + 5)).length := by rw [hxsz1, List.length_append, List.length_cons]; omega
    have hmemz1 : x9 ∈ (rng (day_here_ - 4) (day_here_ + 5)) := by rw [hxsz1]; exact List.mem_append_right _ List.mem_cons_self
    try simp only [rng_length, rng_mem, enumL_length] at hltz1 hmemz1
    show B _ _ _ _ _ _ _ (st_law_tells_working_1 holidays_here_ z1 x9)
    unfold st_law_tells_working_1
    cases h3
    refine b_setV (r := (rL K rI)) 3 sc_law_tells_working.nd (d_new (n_listL (r := rI) m_list (D.imp (P := (rL K rI) holidays_here_) (d_var 1 (P := (rL K rI) holidays_here_) rfl (Mono.mono (s10.trans s11) h1_)) fun _ _ => rdL_of))) (fun copy_13 ecopy_13 v15 Gs14 s14 h16 => ?_)
    refine b_tryAs 5 (S' := ((Bool ⊕ (List (List Nat))))) (fun (z17 : ((Bool ⊕ (List (List Nat))))) σ_ G_ cs_ => ∃ v18 : V, ∃ o20 : Option V, ∃ o21 : Option V, σ_ = [some (.int day_here_), some v1_, some (.int x9), some v15, some v18, o20, o21] ∧ cs = cs_ ∧ (rSum rB (rL K rS)) z17 G_ v18) (fun (k22 : _root_.Fin 7) σ_ G_ cs_ => ∃ o23 : Option V, ∃ o24 : Option V, ∃ o25 : Option V, σ_ = [some (.int day_here_), some v1_, some (.int x9), some v15, o23, o24, o25] ∧ cs = cs_) Er sc_law_tells_working.nd ?_ ?_ ?_
    · intro Wx26 _ _ tk27 po28
      refine b_setE (P := rB) 4 sc_law_tells_working.nd ?_ (fun _ _ _ _ => ⟨_, _, _, rfl, rfl⟩) (fun told_here_32 etold_here_32 v30 Gs29 s29 h31 => ?_)
      · exact (de_callQ (adr := adr) (P := rB) (x9, copy_13) F_is_working tk27 hr (by decide) (a_cons (P := rI x9) (d_var 2 (P := rI x9) rfl rfl) (a_cons (P := (rL K rI) copy_13) (d_var 3 (P := (rL K rI) copy_13) rfl h16) a_nil)) (fun _ _ _ h => by obtain ⟨v0, w0, rfl, h0, v1, w1, rfl, h1, rfl⟩ := h; exact ⟨v0, v1, rfl, h0, h1⟩) fun _ _ _ h => h)
      cases h31
      exact b_nil (by refine ⟨_, _, _, rfl, rfl, rfl⟩)
    · intro k22 hm43 a33 oe34 pn35 _ _ _ s36 hNk22 hz37 hf38
      obtain ⟨o23, o24, o25, rfl, rfl⟩ := hNk22
      refine b_setV (r := (rL K rS)) 4 sc_law_tells_working.nd (d_callX (P := (rL K rS) (m_law_kinds k22)) k22 F_law_kinds (roomX hr (by decide)) List.mem_cons_self hz37 hf38 (d_var 5 (P := rV (.ref a33)) rfl rfl) fun _ _ h => h) (fun told_here_39 etold_here_39 v41 Gs40 s40 h42 => ?_)
      exact b_nil (by refine ⟨_, _, _, rfl, rfl, h42⟩)
    · intro z17 _ _ _ sz17 hNz17 hmz17
      obtain ⟨v18, o20, o21, rfl, rfl, h19⟩ := hNz17
      have hok1 : okS z17 := ok_try hmz17
      refine b_ifx (t_neD (K := K) (r := (rL K rI)) hr (d_var 3 (P := (rL K rI) copy_13) rfl (Mono.mono sz17 h16)) (d_var 1 (P := (rL K rI) holidays_here_) rfl (Mono.mono (s10.trans (s11.trans (s14.trans sz17))) h1_)) (fun _ _ => trivial) (fun _ _ => trivial)) ?_ ?_
      · intro hc44 Gs45 s45
        have dhc44 := hc44
        try simp only [decide_eq_true_eq, decide_eq_false_iff_not, Bool.and_eq_true, Bool.and_eq_false_imp, Bool.or_eq_true, Bool.or_eq_false_iff, Bool.not_eq_true', Bool.not_eq_false', Bool.not_not, ne_eq, Int.not_lt, Int.not_le] at dhc44
        exact b_ret (P := rB false) d_bl (fun _ _ _ h => ⟨⟨[], rfl⟩, h⟩)
      · intro hc44 Gs45 s45
        have dhc44 := hc44
        try simp only [decide_eq_true_eq, decide_eq_false_iff_not, Bool.and_eq_true, Bool.and_eq_false_imp, Bool.or_eq_true, Bool.or_eq_false_iff, Bool.not_eq_true', Bool.not_eq_false', Bool.not_not, ne_eq, Int.not_lt, Int.not_le] at dhc44
        refine b_setV (r := (rL K rS)) 6 sc_law_tells_working.nd (d_new (n_lst (r := rS) (xs := [[66, 97, 100, 68, 97, 121]]) (a_cons (P := rS [66, 97, 100, 68, 97, 121]) (d_str (l := [66, 97, 100, 68, 97, 121]) (by decide +kernel)) a_nil) (ls_c ls_n))) (fun due_here_46 edue_here_46 v48 Gs47 s47 h49 => ?_)
        have hdl : ∀ s ∈ due_here_46, ∀ c ∈ s, c < 1114112 := by rw [edue_here_46]; decide
        refine b_if (S' := ((Bool ⊕ (List (List Nat))))) (fun (z53 : ((Bool ⊕ (List (List Nat))))) σ_ G_ cs_ => ∃ o54 : Option V, ∃ v55 : V, σ_ = [some (.int day_here_), some v1_, some (.int x9), some v15, some v18, o54, some v55] ∧ cs = cs_ ∧ (rSum rB (rL K rS)) z53 G_ v55) (t_w (w_and (t_cmp op_le (nomark _) d_int (d_var 2 (P := rI x9) rfl rfl) fun _ _ _ _ _ _ hx hy _ q => c_le hx hy q) fun hk50 => (w_and1 (t_cmp op_le (nomark _) (d_var 2 (P := rI x9) rfl rfl) d_int fun _ _ _ _ _ _ hx hy _ q => c_le hx hy q)))) ?_ ?_ ?_
        · intro hc51 Gs52 s52
          have dhc51 := hc51
          try simp only [decide_eq_true_eq, decide_eq_false_iff_not, Bool.and_eq_true, Bool.and_eq_false_imp, Bool.or_eq_true, Bool.or_eq_false_iff, Bool.not_eq_true', Bool.not_eq_false', Bool.not_not, ne_eq, Int.not_lt, Int.not_le] at dhc51
          refine b_setV (r := rB) 6 sc_law_tells_working.nd (d_callQ (P := rB (m_law_works x9 holidays_here_)) (x9, holidays_here_) F_law_works hr (by decide) (a_cons (P := rI x9) (d_var 2 (P := rI x9) rfl rfl) (a_cons (P := (rL K rI) holidays_here_) (d_var 1 (P := (rL K rI) holidays_here_) rfl (Mono.mono (s10.trans (s11.trans (s14.trans (sz17.trans (s45.trans (s47.trans s52)))))) h1_)) a_nil)) (fun _ _ _ h => by obtain ⟨v0, w0, rfl, h0, v1, w1, rfl, h1, rfl⟩ := h; exact ⟨v0, v1, rfl, h0, h1⟩) fun _ _ h => h) (fun due_here_57 edue_here_57 v59 Gs58 s58 h60 => ?_)
          cases h60
          exact b_nil (by refine ⟨_, _, rfl, rfl, rfl⟩)
        · intro hc51 Gs52 s52
          have dhc51 := hc51
          try simp only [decide_eq_true_eq, decide_eq_false_iff_not, Bool.and_eq_true, Bool.and_eq_false_imp, Bool.or_eq_true, Bool.or_eq_false_iff, Bool.not_eq_true', Bool.not_eq_false', Bool.not_not, ne_eq, Int.not_lt, Int.not_le] at dhc51
          exact b_nil (by refine ⟨_, _, rfl, rfl, (Mono.mono s52 h49)⟩)
        · intro z53 _ _ _ sz53 hNz53 hmz53
          obtain ⟨o54, v55, rfl, rfl, h56⟩ := hNz53
          have hok2 : okS z53 := by (try unfold letV at hmz53); (try split at hmz53) <;> cases hmz53 <;> first | trivial | exact hdl
          refine b_ifx (t_w (w_or (t_neD (K := K) (r := (rSum rB (rL K rS))) hr (d_var 4 (P := (rSum rB (rL K rS)) z17) rfl (Mono.mono (s45.trans (s47.trans sz53)) h19)) (d_var 6 (P := (rSum rB (rL K rS)) z53) rfl h56) (by first | (revert hok1; cases z17 with | inl _ => exact fun _ => trivial | inr l => exact fun h => h) | (revert hok2; cases z53 with | inl _ => exact fun _ => trivial | inr l => exact fun h => h)) (by first | (revert hok1; cases z17 with | inl _ => exact fun _ => trivial | inr l => exact fun h => h) | (revert hok2; cases z53 with | inl _ => exact fun _ => trivial | inr l => exact fun h => h))) fun hk62 => (w_or1 (t_w (w_and (t_val (d_isiS (r := rB) (r' := (rL K rS)) (h := (inferInstance : HasTy K rB "bool")) (h' := (inferInstance : HasTy K (rL K rS) "list")) (u := "int") (k := true) (k' := false) m_isinstance m_int (d_var 4 (P := (rSum rB (rL K rS)) z17) rfl (Mono.mono (s45.trans (s47.trans sz53)) h19)))) fun hk61 => (w_and1 (t_not (t_val (d_isiS (r := rB) (r' := (rL K rS)) (h := (inferInstance : HasTy K rB "bool")) (h' := (inferInstance : HasTy K (rL K rS) "list")) (u := "bool") (k := true) (k' := false) m_isinstance m_bool (d_var 4 (P := (rSum rB (rL K rS)) z17) rfl (Mono.mono (s45.trans (s47.trans sz53)) h19))))))))))) ?_ ?_
          · intro hc63 Gs64 s64
            have dhc63 := hc63
            try simp only [decide_eq_true_eq, decide_eq_false_iff_not, Bool.and_eq_true, Bool.and_eq_false_imp, Bool.or_eq_true, Bool.or_eq_false_iff, Bool.not_eq_true', Bool.not_eq_false', Bool.not_not, ne_eq, Int.not_lt, Int.not_le] at dhc63
            exact b_ret (P := rB false) d_bl (fun _ _ _ h => ⟨⟨[], rfl⟩, h⟩)
          · intro hc63 Gs64 s64
            have dhc63 := hc63
            try simp only [decide_eq_true_eq, decide_eq_false_iff_not, Bool.and_eq_true, Bool.and_eq_false_imp, Bool.or_eq_true, Bool.or_eq_false_iff, Bool.not_eq_true', Bool.not_eq_false', Bool.not_not, ne_eq, Int.not_lt, Int.not_le] at dhc63
            exact b_nil (by refine ⟨_, _, _, _, _, rfl, rfl⟩)
  · intro n_ z1 _ _ _ hnz1 s66 hNz1 hfz1
    obtain ⟨o4, o5, o6, o7, o8, rfl, rfl⟩ := hNz1
    try simp only [rng_length, enumL_length] at hnz1
    exact b_ret (P := rB true) d_bl (fun _ _ _ h => ⟨⟨[], rfl⟩, h⟩)
end Ck08

namespace Ck08
open PySem L2 PyProof.Rows J
abbrev s_next_working : Stmt := PySem.Challenge.pw_corebank_k08_whole_adjust.main.body.getD 22 (.Pass ⟨0, 0, 0, 0⟩)
abbrev N_next_working : List Str := ["day", "holidays", "later"]
theorem sc_next_working : FnScope ["day", "holidays", "later"] ["day", "holidays"] (defScope s_next_working) := ⟨rfl, rfl, rfl, by decide +kernel, rfl, by decide +kernel, by decide +kernel⟩
theorem ok_next_working {P : Program} {w : World} {K : PySem.W.Frag} {mg : Str → Option Value} {base : Heap} {f : Addr} {fd : FuncData} (F : Fun K "next_working" "next_working" s_next_working f fd) (b : Binds K fd ["day", "holidays"] []) (hmg : mg "next_working" = some (.ref f)) {adr : _root_.Fin 7 → Addr} {B0 : Addr} (Er : Errs K mg nm_ adr B0) (c_LAST_DAY : GlobR mg "LAST_DAY" (rI 36524)) (m_range : mg "range" = none) (F_is_working : Fn0 P w K mg base (L2.CX P w) 4 "is_working" 2 (sp_is_working K adr)) :
    Fn0 P w K mg base CX0 5 "next_working" 2 (sp_next_working K) := by
  have hsl := sizeLine_eq
  refine fn_mk F sc_next_working b hmg (fun i : (Int × (List Int)) => b_next_working i.1 i.2) (fun i G vs h => ?_) (fun cdv A outer s H E i G cs vs hr hp => ?_)
  · obtain ⟨v0_, v1_, h, _⟩ := h
    rw [h]
    rfl
  obtain ⟨day_, holidays_⟩ := i
  obtain ⟨v0_, v1_, rfl, h0_, h1_, hpre⟩ := hp
  cases h0_
  show B _ _ _ [some (.int day_), some v1_, none] G cs _ (b_next_working day_ holidays_)
  unfold b_next_working
  try dsimp only at hpre
  refine b_for (f := (st_next_working_1 holidays_)) (s0 := ()) (xs := (rng day_ (36524 + 1))) (fun n_ (z1 : Unit) σ_ G_ cs_ => ∃ o4 : Option V, σ_ = [some (.int day_), some v1_, o4] ∧ cs = cs_) (i_rng2 m_range (d_var 0 (P := rI day_) rfl rfl) (d_add (d_globR c_LAST_DAY) d_int) (by refine ⟨?_, ?_, ?_, ?_⟩ <;> omega)) (tg_name 2 sc_next_working.nd) rfl PassesOwn.never ?_ ?_ ?_ ?_
  · intro _ s11
    exact ⟨_, rfl, rfl⟩
  · intro _ _ _ _ _ _
    trivial
  · intro pre_ x5 post_ z1 _ _ _ _ _ hxsz1 hrez1 s6 hNz1 s7 hSz1
    obtain ⟨o4, rfl, rfl⟩ := hNz1
    obtain ⟨v2, h3, rfl⟩ := hSz1
    have hltz1 : pre_.length < (rng day_ (36524 + 1)).length := by rw [hxsz1, List.length_append, List.length_cons]; omega
    have hmemz1 : x5 ∈ (rng day_ (36524 + 1)) := by rw [hxsz1]; exact List.mem_append_right _ List.mem_cons_self
    try simp only [rng_length, rng_mem, enumL_length] at hltz1 hmemz1
    show B _ _ _ _ _ _ _ (st_next_working_1 holidays_ z1 x5)
    unfold st_next_working_1
    cases h3
    refine b_ifx (t_val (d_callS (adr := adr) (P := rB (okV (m_is_working x5 holidays_))) (o := okV (m_is_working x5 holidays_)) (x5, holidays_) F_is_working (by exact work_sure (by omega)) hr (by decide) (a_cons (P := rI x5) (d_var 2 (P := rI x5) rfl rfl) (a_cons (P := (rL K rI) holidays_) (d_var 1 (P := (rL K rI) holidays_) rfl (Mono.mono (s6.trans s7) h1_)) a_nil)) (fun _ _ _ h => by obtain ⟨v0, w0, rfl, h0, v1, w1, rfl, h1, rfl⟩ := h; exact ⟨v0, v1, rfl, h0, h1⟩) fun _ _ h => h)) ?_ ?_
    · intro hc9 Gs10 s10
      have dhc9 := hc9
      try simp only [decide_eq_true_eq, decide_eq_false_iff_not, Bool.and_eq_true, Bool.and_eq_false_imp, Bool.or_eq_true, Bool.or_eq_false_iff, Bool.not_eq_true', Bool.not_eq_false', Bool.not_not, ne_eq, Int.not_lt, Int.not_le] at dhc9
      exact b_ret (P := (rO rI) (some x5)) (d_toO (r := rI) (d_var 2 (P := rI x5) rfl rfl)) (fun _ _ _ h => ⟨⟨[], rfl⟩, h⟩)
    · intro hc9 Gs10 s10
      have dhc9 := hc9
      try simp only [decide_eq_true_eq, decide_eq_false_iff_not, Bool.and_eq_true, Bool.and_eq_false_imp, Bool.or_eq_true, Bool.or_eq_false_iff, Bool.not_eq_true', Bool.not_eq_false', Bool.not_not, ne_eq, Int.not_lt, Int.not_le] at dhc9
      exact b_nil (by refine ⟨_, rfl, rfl⟩)
  · intro n_ z1 _ _ _ hnz1 s12 hNz1 hfz1
    obtain ⟨o4, rfl, rfl⟩ := hNz1
    try simp only [rng_length, enumL_length] at hnz1
    exact b_ret (P := (rO rI) none) (d_toN (r := rI) d_non) (fun _ _ _ h => ⟨⟨[], rfl⟩, h⟩)
end Ck08

namespace Ck08
open PySem L2 PyProof.Rows J
abbrev s_previous_working : Stmt := PySem.Challenge.pw_corebank_k08_whole_adjust.main.body.getD 23 (.Pass ⟨0, 0, 0, 0⟩)
abbrev N_previous_working : List Str := ["day", "holidays", "back"]
theorem sc_previous_working : FnScope ["day", "holidays", "back"] ["day", "holidays"] (defScope s_previous_working) := ⟨rfl, rfl, rfl, by decide +kernel, rfl, by decide +kernel, by decide +kernel⟩
theorem ok_previous_working {P : Program} {w : World} {K : PySem.W.Frag} {mg : Str → Option Value} {base : Heap} {f : Addr} {fd : FuncData} (F : Fun K "previous_working" "previous_working" s_previous_working f fd) (b : Binds K fd ["day", "holidays"] []) (hmg : mg "previous_working" = some (.ref f)) {adr : _root_.Fin 7 → Addr} {B0 : Addr} (Er : Errs K mg nm_ adr B0) (m_range : mg "range" = none) (F_is_working : Fn0 P w K mg base (L2.CX P w) 4 "is_working" 2 (sp_is_working K adr)) :
    Fn0 P w K mg base CX0 5 "previous_working" 2 (sp_previous_working K) := by
  have hsl := sizeLine_eq
  refine fn_mk F sc_previous_working b hmg (fun i : (Int × (List Int)) => b_previous_working i.1 i.2) (fun i G vs h => ?_) (fun cdv A outer s H E i G cs vs hr hp => ?_)
  · obtain ⟨v0_, v1_, h, _⟩ := h
    rw [h]
    rfl
  obtain ⟨day_, holidays_⟩ := i
  obtain ⟨v0_, v1_, rfl, h0_, h1_, hpre⟩ := hp
  cases h0_
  show B _ _ _ [some (.int day_), some v1_, none] G cs _ (b_previous_working day_ holidays_)
  unfold b_previous_working
  try dsimp only at hpre
  refine b_for (f := (st_previous_working_1 day_ holidays_)) (s0 := ()) (xs := (rng 0 (day_ + 1))) (fun n_ (z1 : Unit) σ_ G_ cs_ => ∃ o4 : Option V, σ_ = [some (.int day_), some v1_, o4] ∧ cs = cs_) (i_rng1 m_range (d_add (d_var 0 (P := rI day_) rfl rfl) d_int) (by omega) (by omega)) (tg_name 2 sc_previous_working.nd) rfl PassesOwn.never ?_ ?_ ?_ ?_
  · intro _ s11
    exact ⟨_, rfl, rfl⟩
  · intro _ _ _ _ _ _
    trivial
  · intro pre_ x5 post_ z1 _ _ _ _ _ hxsz1 hrez1 s6 hNz1 s7 hSz1
    obtain ⟨o4, rfl, rfl⟩ := hNz1
    obtain ⟨v2, h3, rfl⟩ := hSz1
    have hltz1 : pre_.length < (rng 0 (day_ + 1)).length := by rw [hxsz1, List.length_append, List.length_cons]; omega
    have hmemz1 : x5 ∈ (rng 0 (day_ + 1)) := by rw [hxsz1]; exact List.mem_append_right _ List.mem_cons_self
    try simp only [rng_length, rng_mem, enumL_length] at hltz1 hmemz1
    show B _ _ _ _ _ _ _ (st_previous_working_1 day_ holidays_ z1 x5)
    unfold st_previous_working_1
    cases h3
    refine b_ifx (t_val (d_callS (adr := adr) (P := rB (okV (m_is_working (day_ - x5) holidays_))) (o := okV (m_is_working (day_ - x5) holidays_)) ((day_ - x5), holidays_) F_is_working (by exact work_sure (by omega)) hr (by decide) (a_cons (P := rI (day_ - x5)) (d_sub (d_var 0 (P := rI day_) rfl rfl) (d_var 2 (P := rI x5) rfl rfl)) (a_cons (P := (rL K rI) holidays_) (d_var 1 (P := (rL K rI) holidays_) rfl (Mono.mono (s6.trans s7) h1_)) a_nil)) (fun _ _ _ h => by obtain ⟨v0, w0, rfl, h0, v1, w1, rfl, h1, rfl⟩ := h; exact ⟨v0, v1, rfl, h0, h1⟩) fun _ _ h => h)) ?_ ?_
    · intro hc9 Gs10 s10
      have dhc9 := hc9
      try simp only [decide_eq_true_eq, decide_eq_false_iff_not, Bool.and_eq_true, Bool.and_eq_false_imp, Bool.or_eq_true, Bool.or_eq_false_iff, Bool.not_eq_true', Bool.not_eq_false', Bool.not_not, ne_eq, Int.not_lt, Int.not_le] at dhc9
      exact b_ret (P := (rO rI) (some (day_ - x5))) (d_toO (r := rI) (d_sub (d_var 0 (P := rI day_) rfl rfl) (d_var 2 (P := rI x5) rfl rfl))) (fun _ _ _ h => ⟨⟨[], rfl⟩, h⟩)
    · intro hc9 Gs10 s10
      have dhc9 := hc9
      try simp only [decide_eq_true_eq, decide_eq_false_iff_not, Bool.and_eq_true, Bool.and_eq_false_imp, Bool.or_eq_true, Bool.or_eq_false_iff, Bool.not_eq_true', Bool.not_eq_false', Bool.not_not, ne_eq, Int.not_lt, Int.not_le] at dhc9
      exact b_nil (by refine ⟨_, rfl, rfl⟩)
  · intro n_ z1 _ _ _ hnz1 s12 hNz1 hfz1
    obtain ⟨o4, rfl, rfl⟩ := hNz1
    try simp only [rng_length, enumL_length] at hnz1
    exact b_ret (P := (rO rI) none) (d_toN (r := rI) d_non) (fun _ _ _ h => ⟨⟨[], rfl⟩, h⟩)
end Ck08

namespace Ck08
open PySem L2 PyProof.Rows J
abbrev s_first_of_year : Stmt := PySem.Challenge.pw_corebank_k08_whole_adjust.main.body.getD 18 (.Pass ⟨0, 0, 0, 0⟩)
abbrev N_first_of_year : List Str := ["year", "past"]
theorem sc_first_of_year : FnScope ["year", "past"] ["year"] (defScope s_first_of_year) := ⟨rfl, rfl, rfl, by decide +kernel, rfl, by decide +kernel, by decide +kernel⟩
theorem ok_first_of_year {P : Program} {w : World} {K : PySem.W.Frag} {mg : Str → Option Value} {base : Heap} {f : Addr} {fd : FuncData} (F : Fun K "first_of_year" "first_of_year" s_first_of_year f fd) (b : Binds K fd ["year"] []) (hmg : mg "first_of_year" = some (.ref f)) {adr : _root_.Fin 7 → Addr} {B0 : Addr} (Er : Errs K mg nm_ adr B0) (c_FIRST_YEAR : GlobR mg "FIRST_YEAR" (rI 2000)) :
    Fn0 P w K mg base CX0 1 "first_of_year" 1 (sp_first_of_year K) := by
  have hsl := sizeLine_eq
  refine fn_mk F sc_first_of_year b hmg (fun i : (Int) => b_first_of_year i) (fun i G vs h => ?_) (fun cdv A outer s H E year_ G cs vs hr hp => ?_)
  · obtain ⟨v0_, h, _⟩ := h
    rw [h]
    rfl
  obtain ⟨v0_, rfl, h0_⟩ := hp
  cases h0_
  show B _ _ _ [some (.int year_), none] G cs _ (b_first_of_year year_)
  unfold b_first_of_year
  refine b_setV (r := rI) 1 sc_first_of_year.nd (d_sub (d_var 0 (P := rI year_) rfl rfl) (d_globR c_FIRST_YEAR)) (fun past_1 epast_1 v3 Gs2 s2 h4 => ?_)
  cases h4
  exact b_ret (P := rI ((365 * past_1) + ((past_1 + 3) / 4))) (d_add (d_mul d_int (d_var 1 (P := rI past_1) rfl rfl) (.inl ⟨by omega, by omega⟩)) (d_fdiv (d_add (d_var 1 (P := rI past_1) rfl rfl) d_int) d_int (divW (by decide) (by decide +kernel)))) (fun _ _ _ h => ⟨⟨[], rfl⟩, h⟩)
end Ck08

namespace Ck08
open PySem L2 PyProof.Rows J
abbrev s_month_length : Stmt := PySem.Challenge.pw_corebank_k08_whole_adjust.main.body.getD 17 (.Pass ⟨0, 0, 0, 0⟩)
abbrev N_month_length : List Str := ["year", "month"]
theorem sc_month_length : FnScope ["year", "month"] ["year", "month"] (defScope s_month_length) := ⟨rfl, rfl, rfl, by decide +kernel, rfl, by decide +kernel, by decide +kernel⟩
theorem ok_month_length {P : Program} {w : World} {K : PySem.W.Frag} {mg : Str → Option Value} {base : Heap} {f : Addr} {fd : FuncData} (F : Fun K "month_length" "month_length" s_month_length f fd) (b : Binds K fd ["year", "month"] []) (hmg : mg "month_length" = some (.ref f)) {adr : _root_.Fin 7 → Addr} {B0 : Addr} (Er : Errs K mg nm_ adr B0) (c_LENGTHS : GlobR mg "LENGTHS" ((rU K rI) k_LENGTHS)) :
    Fn0 P w K mg base CX0 1 "month_length" 2 (sp_month_length K) := by
  have hsl := sizeLine_eq
  refine fn_mk F sc_month_length b hmg (fun i : (Int × Int) => b_month_length i.1 i.2) (fun i G vs h => ?_) (fun cdv A outer s H E i G cs vs hr hp => ?_)
  · obtain ⟨v0_, v1_, h, _⟩ := h
    rw [h]
    rfl
  obtain ⟨year_, month_⟩ := i
  obtain ⟨v0_, v1_, rfl, h0_, h1_, hpre⟩ := hp
  cases h0_
  cases h1_
  show B _ _ _ [some (.int year_), some (.int month_)] G cs _ (b_month_length year_ month_)
  unfold b_month_length
  try dsimp only at hpre
  refine b_ifx (t_w (w_and (t_cmp op_eq (nomark _) (d_var 1 (P := rI month_) rfl rfl) d_int fun _ _ _ _ _ _ hx hy _ q => c_eqI hx hy q) fun hk1 => (w_and1 (t_cmp op_eq (nomark _) (d_mod (d_var 0 (P := rI year_) rfl rfl) d_int (by decide)) d_int fun _ _ _ _ _ _ hx hy _ q => c_eqI hx hy q)))) ?_ ?_
  · intro hc2 Gs3 s3
    have dhc2 := hc2
    try simp only [decide_eq_true_eq, decide_eq_false_iff_not, Bool.and_eq_true, Bool.and_eq_false_imp, Bool.or_eq_true, Bool.or_eq_false_iff, Bool.not_eq_true', Bool.not_eq_false', Bool.not_not, ne_eq, Int.not_lt, Int.not_le] at dhc2
    exact b_ret (P := rI 29) d_int (fun _ _ _ h => ⟨⟨[], rfl⟩, h⟩)
  · intro hc2 Gs3 s3
    have dhc2 := hc2
    try simp only [decide_eq_true_eq, decide_eq_false_iff_not, Bool.and_eq_true, Bool.and_eq_false_imp, Bool.or_eq_true, Bool.or_eq_false_iff, Bool.not_eq_true', Bool.not_eq_false', Bool.not_not, ne_eq, Int.not_lt, Int.not_le] at dhc2
    exact b_ret (P := rI (ixg k_LENGTHS (month_ - 1))) (d_ixU (r := rI) (xs := k_LENGTHS) (i := (month_ - 1)) (x := (ixg k_LENGTHS (month_ - 1))) (d_globR c_LENGTHS) (d_sub (d_var 1 (P := rI month_) rfl rfl) d_int) (atI_ixg (by first | (simp only [k_LENGTHS, List.length_cons, List.length_nil]; omega) | (constructor <;> omega)))) (fun _ _ _ h => ⟨⟨[], rfl⟩, h⟩)
end Ck08

namespace Ck08
open PySem L2 PyProof.Rows J
abbrev s_date_of : Stmt := PySem.Challenge.pw_corebank_k08_whole_adjust.main.body.getD 19 (.Pass ⟨0, 0, 0, 0⟩)
abbrev N_date_of : List Str := ["day", "year", "left", "month"]
theorem sc_date_of : FnScope ["day", "year", "left", "month"] ["day"] (defScope s_date_of) := ⟨rfl, rfl, rfl, by decide +kernel, rfl, by decide +kernel, by decide +kernel⟩
theorem ok_date_of {P : Program} {w : World} {K : PySem.W.Frag} {mg : Str → Option Value} {base : Heap} {f : Addr} {fd : FuncData} (F : Fun K "date_of" "date_of" s_date_of f fd) (b : Binds K fd ["day"] []) (hmg : mg "date_of" = some (.ref f)) {adr : _root_.Fin 7 → Addr} {B0 : Addr} (Er : Errs K mg nm_ adr B0) (c_FIRST_YEAR : GlobR mg "FIRST_YEAR" (rI 2000)) (c_LAST_YEAR : GlobR mg "LAST_YEAR" (rI 2099)) (F_check_day : Fn0 P w K mg base (L2.CX P w) 2 "check_day" 1 (sp_check_day K adr)) (F_first_of_year : Fn0 P w K mg base CX0 1 "first_of_year" 1 (sp_first_of_year K)) (F_month_length : Fn0 P w K mg base CX0 1 "month_length" 2 (sp_month_length K)) :
    Fn0 P w K mg base (L2.CX P w) 3 "date_of" 1 (sp_date_of K adr) := by
  have hsl := sizeLine_eq
  refine fn_mkE (cE := cE adr) F sc_date_of b hmg (fun i : (Int) => b_date_of i) (fun i G vs h => ?_) (fun cdv A outer s H E day_ G cs vs hr hp => ?_)
  · obtain ⟨v0_, h, _⟩ := h
    rw [h]
    rfl
  obtain ⟨v0_, rfl, h0_⟩ := hp
  cases h0_
  show B _ (wE2 adr (fun c d _ H => E c d H)) _ [some (.int day_), none, none, none] G cs _ (b_date_of day_)
  unfold b_date_of
  refine b_exprE (P := rN) ?_ (fun _ _ _ _ => ⟨[], rfl⟩) (fun o2 eo2 Gs1 s1 => ?_)
  · exact (de_callQ (adr := adr) (P := rN) (day_) F_check_day (takes_of rfl rfl rfl rfl) hr (by decide) (a_cons (P := rI day_) (d_var 0 (P := rI day_) rfl rfl) a_nil) (fun _ _ _ h => by obtain ⟨v0, w0, rfl, h0, rfl⟩ := h; exact ⟨v0, rfl, h0⟩) fun _ _ _ h => h)
  refine b_setV (r := rI) 1 sc_date_of.nd (d_add (d_globR c_FIRST_YEAR) (d_fdiv (d_var 0 (P := rI day_) rfl rfl) d_int (divW (by decide) (by decide +kernel)))) (fun year_3 eyear_3 v5 Gs4 s4 h6 => ?_)
  cases h6
  refine b_while (cond := (wc_date_of_1 day_)) (f := (st_date_of_1 day_)) (n := (100)) (s0 := (year_3)) (fun (z7 : (Int)) σ_ G_ cs_ => ∃ o8 : Option V, ∃ o9 : Option V, σ_ = [some (.int day_), some (.int z7), o8, o9] ∧ cs = cs_ ∧ (2000 ≤ z7 ∧ z7 ≤ 2099 ∧ yfst z7 ≤ day_)) (passes_of rfl) ?_ ?_ ?_ ?_ ?_
  · intro _ s17
    exact ⟨_, _, rfl, rfl, by exact ystart (check_ok eo2) eyear_3⟩
  · intro z7 _ _ _ s10 hNz7
    obtain ⟨o8, o9, rfl, rfl, hbz7⟩ := hNz7
    show T _ _ _ _ _ ((decide (z7 < 2099)) && (decide ((m_first_of_year (z7 + 1)) ≤ day_)))
    exact (t_w (w_and (t_cmp op_lt (nomark _) (d_var 1 (P := rI z7) rfl rfl) (d_globR c_LAST_YEAR) fun _ _ _ _ _ _ hx hy _ q => c_lt hx hy q) fun hk11 => (w_and1 (t_cmp op_le (nomark _) (d_callQ (P := rI (m_first_of_year (z7 + 1))) ((z7 + 1)) F_first_of_year hr (by decide) (a_cons (P := rI (z7 + 1)) (d_add (d_var 1 (P := rI z7) rfl rfl) d_int) a_nil) (fun _ _ _ h => by obtain ⟨v0, w0, rfl, h0, rfl⟩ := h; exact ⟨v0, rfl, h0⟩) fun _ _ h => h) (d_var 0 (P := rI day_) rfl rfl) fun _ _ _ _ _ _ hx hy _ q => c_le hx hy q))))
  · intro z7 _ _ _ _ s12 hNz7 s13 hc14
    obtain ⟨o8, o9, rfl, rfl, hbz7⟩ := hNz7
    have dhc14 := hc14
    unfold wc_date_of_1 at dhc14
    try simp only [decide_eq_true_eq, decide_eq_false_iff_not, Bool.and_eq_true, Bool.and_eq_false_imp, Bool.or_eq_true, Bool.or_eq_false_iff, Bool.not_eq_true', Bool.not_eq_false', Bool.not_not, ne_eq, Int.not_lt, Int.not_le] at dhc14
    show B _ _ _ _ _ _ _ (st_date_of_1 day_ z7)
    unfold st_date_of_1
    have q1 := fst_is (z7 + 1)
    refine b_augAddV 1 sc_date_of.nd rfl d_int (fun year_16 eyear_16 Gs15 s15 => ?_)
    exact b_nil (by refine ⟨_, _, rfl, rfl, by (unfold yfst at *; omega)⟩)
  · exact ends1 (ystart (check_ok eo2) eyear_3).1
  · intro z7 _ _ _ _ s18 hNz7 s19 hfz7
    obtain ⟨o8, o9, rfl, rfl, hbz7⟩ := hNz7
    refine b_setV (r := rI) 2 sc_date_of.nd (d_sub (d_var 0 (P := rI day_) rfl rfl) (d_callQ (P := rI (m_first_of_year z7)) (z7) F_first_of_year hr (by decide) (a_cons (P := rI z7) (d_var 1 (P := rI z7) rfl rfl) a_nil) (fun _ _ _ h => by obtain ⟨v0, w0, rfl, h0, rfl⟩ := h; exact ⟨v0, rfl, h0⟩) fun _ _ h => h)) (fun left_20 eleft_20 v22 Gs21 s21 h23 => ?_)
    cases h23
    refine b_setV (r := rI) 3 sc_date_of.nd d_int (fun month_24 emonth_24 v26 Gs25 s25 h27 => ?_)
    cases h27
    refine b_while (cond := (wc_date_of_2 z7)) (f := (st_date_of_2 z7)) (n := (12)) (s0 := (left_20, month_24)) (fun (z28 : (Int × Int)) σ_ G_ cs_ => σ_ = [some (.int day_), some (.int z7), some (.int z28.1), some (.int z28.2)] ∧ cs = cs_ ∧ (1 ≤ z28.2 ∧ z28.2 ≤ 12 ∧ 0 ≤ z28.1 ∧ z28.1 < ytot z7 z28.2)) (passes_of rfl) ?_ ?_ ?_ ?_ ?_
    · intro _ s37
      exact ⟨rfl, rfl, by (dsimp only; subst_vars; have q := yend (check_ok eo2).2 hbz7 (out1 (ystart (check_ok eo2) rfl).1 hfz7); (try rw [fst_is]); exact ⟨by decide, by decide, q.1, q.2⟩)⟩
    · intro z28 _ _ _ s29 hNz28
      obtain ⟨rfl, rfl, hbz28⟩ := hNz28
      show T _ _ _ _ _ (decide ((m_month_length z7 z28.2) ≤ z28.1))
      exact (t_cmp op_ge (nomark _) (d_var 2 (P := rI z28.1) rfl rfl) (d_callQ (P := rI (m_month_length z7 z28.2)) (z7, z28.2) F_month_length hr (by decide) (a_cons (P := rI z7) (d_var 1 (P := rI z7) rfl rfl) (a_cons (P := rI z28.2) (d_var 3 (P := rI z28.2) rfl rfl) a_nil)) (fun _ _ _ h => by obtain ⟨v0, w0, rfl, h0, v1, w1, rfl, h1, rfl⟩ := h; exact ⟨v0, v1, rfl, h0, h1, (by (try dsimp only); first | assumption | omega | (refine ⟨?_, ?_⟩ <;> omega) | (refine ⟨?_, ?_, ?_⟩ <;> omega) | simp_all)⟩) fun _ _ h => h) fun _ _ _ _ _ _ hx hy _ q => c_ge hx hy q)
    · intro z28 _ _ _ _ s30 hNz28 s31 hc32
      obtain ⟨rfl, rfl, hbz28⟩ := hNz28
      have dhc32 := hc32
      unfold wc_date_of_2 at dhc32
      try simp only [decide_eq_true_eq, decide_eq_false_iff_not, Bool.and_eq_true, Bool.and_eq_false_imp, Bool.or_eq_true, Bool.or_eq_false_iff, Bool.not_eq_true', Bool.not_eq_false', Bool.not_not, ne_eq, Int.not_lt, Int.not_le] at dhc32
      show B _ _ _ _ _ _ _ (st_date_of_2 z7 z28)
      unfold st_date_of_2
      have q2 := ystep2 ⟨hbz28.1, hbz28.2.1⟩ hbz28.2.2.1 hbz28.2.2.2 dhc32
      refine b_augSubV 2 sc_date_of.nd rfl (d_callQ (P := rI (m_month_length z7 z28.2)) (z7, z28.2) F_month_length hr (by decide) (a_cons (P := rI z7) (d_var 1 (P := rI z7) rfl rfl) (a_cons (P := rI z28.2) (d_var 3 (P := rI z28.2) rfl rfl) a_nil)) (fun _ _ _ h => by obtain ⟨v0, w0, rfl, h0, v1, w1, rfl, h1, rfl⟩ := h; exact ⟨v0, v1, rfl, h0, h1, (by (try dsimp only); first | assumption | omega | (refine ⟨?_, ?_⟩ <;> omega) | (refine ⟨?_, ?_, ?_⟩ <;> omega) | simp_all)⟩) fun _ _ h => h) (fun left_34 eleft_34 Gs33 s33 => ?_)
      refine b_augAddV 3 sc_date_of.nd rfl d_int (fun month_36 emonth_36 Gs35 s35 => ?_)
      exact b_nil (by refine ⟨rfl, rfl, by (dsimp only; subst_vars; omega)⟩)
    · (subst_vars; have q := yend (check_ok eo2).2 hbz7 (out1 (ystart (check_ok eo2) rfl).1 hfz7); (try rw [fst_is]); exact ends2 q.1 q.2)
    · intro z28 _ _ _ _ s38 hNz28 s39 hfz28
      obtain ⟨rfl, rfl, hbz28⟩ := hNz28
      exact b_ret (P := (rT K (cc rI (cc rI (c0 rI)))) (z7, z28.2, (z28.1 + 1))) (d_tup (r := (cc rI (cc rI (c0 rI)))) (x := (z7, z28.2, (z28.1 + 1))) (a_cons (P := rI z7) (d_var 1 (P := rI z7) rfl rfl) (a_cons (P := rI z28.2) (d_var 3 (P := rI z28.2) rfl rfl) (a_cons (P := rI (z28.1 + 1)) (d_add (d_var 2 (P := rI z28.1) rfl rfl) d_int) a_nil))) (tp_c (tp_c tp_1))) (fun _ _ _ h => ⟨⟨[], rfl⟩, h⟩)
end Ck08

namespace Ck08
open PySem L2 PyProof.Rows J
abbrev s_same_month : Stmt := PySem.Challenge.pw_corebank_k08_whole_adjust.main.body.getD 24 (.Pass ⟨0, 0, 0, 0⟩)
abbrev N_same_month : List Str := ["day", "other"]
theorem sc_same_month : FnScope ["day", "other"] ["day", "other"] (defScope s_same_month) := ⟨rfl, rfl, rfl, by decide +kernel, rfl, by decide +kernel, by decide +kernel⟩
theorem ok_same_month {P : Program} {w : World} {K : PySem.W.Frag} {mg : Str → Option Value} {base : Heap} {f : Addr} {fd : FuncData} (F : Fun K "same_month" "same_month" s_same_month f fd) (b : Binds K fd ["day", "other"] []) (hmg : mg "same_month" = some (.ref f)) {adr : _root_.Fin 7 → Addr} {B0 : Addr} (Er : Errs K mg nm_ adr B0) (F_date_of : Fn0 P w K mg base (L2.CX P w) 3 "date_of" 1 (sp_date_of K adr)) :
    Fn0 P w K mg base CX0 4 "same_month" 2 (sp_same_month K) := by
  have hsl := sizeLine_eq
  refine fn_mk F sc_same_month b hmg (fun i : (Int × Int) => b_same_month i.1 i.2) (fun i G vs h => ?_) (fun cdv A outer s H E i G cs vs hr hp => ?_)
  · obtain ⟨v0_, v1_, h, _⟩ := h
    rw [h]
    rfl
  obtain ⟨day_, other_⟩ := i
  obtain ⟨v0_, v1_, rfl, h0_, h1_, hpre⟩ := hp
  cases h0_
  cases h1_
  show B _ _ _ [some (.int day_), some (.int other_)] G cs _ (b_same_month day_ other_)
  unfold b_same_month
  try dsimp only at hpre
  exact b_ret (P := rB (decide (((okV (m_date_of day_)).1, (okV (m_date_of day_)).2.1) = ((okV (m_date_of other_)).1, (okV (m_date_of other_)).2.1)))) (d_eqD (K := K) (r := (rT K (cc rI (c0 rI)))) hr (d_slT (r := (cc rI (cc rI (c0 rI)))) (r2 := (cc rI (c0 rI))) (x := (okV (m_date_of day_))) (y := ((okV (m_date_of day_)).1, (okV (m_date_of day_)).2.1)) (n := 2) (m := 3) (d_callS (adr := adr) (P := (rT K (cc rI (cc rI (c0 rI)))) (okV (m_date_of day_))) (o := okV (m_date_of day_)) (day_) F_date_of (by exact date_sure (by omega)) hr (by decide) (a_cons (P := rI day_) (d_var 0 (P := rI day_) rfl rfl) a_nil) (fun _ _ _ h => by obtain ⟨v0, w0, rfl, h0, rfl⟩ := h; exact ⟨v0, rfl, h0⟩) fun _ _ h => h) (do_some d_int) (tk_c tk_1)) (d_slT (r := (cc rI (cc rI (c0 rI)))) (r2 := (cc rI (c0 rI))) (x := (okV (m_date_of other_))) (y := ((okV (m_date_of other_)).1, (okV (m_date_of other_)).2.1)) (n := 2) (m := 3) (d_callS (adr := adr) (P := (rT K (cc rI (cc rI (c0 rI)))) (okV (m_date_of other_))) (o := okV (m_date_of other_)) (other_) F_date_of (by exact date_sure (by omega)) hr (by decide) (a_cons (P := rI other_) (d_var 1 (P := rI other_) rfl rfl) a_nil) (fun _ _ _ h => by obtain ⟨v0, w0, rfl, h0, rfl⟩ := h; exact ⟨v0, rfl, h0⟩) fun _ _ h => h) (do_some d_int) (tk_c tk_1)) (by exact ⟨trivial, trivial⟩) (by exact ⟨trivial, trivial⟩)) (fun _ _ _ h => ⟨⟨[], rfl⟩, h⟩)
end Ck08

namespace Ck08
open PySem L2 PyProof.Rows J
abbrev s_adjusted : Stmt := PySem.Challenge.pw_corebank_k08_whole_adjust.main.body.getD 25 (.Pass ⟨0, 0, 0, 0⟩)
abbrev N_adjusted : List Str := ["day", "holidays", "how", "found"]
theorem sc_adjusted : FnScope ["day", "holidays", "how", "found"] ["day", "holidays", "how"] (defScope s_adjusted) := ⟨rfl, rfl, rfl, by decide +kernel, rfl, by decide +kernel, by decide +kernel⟩
theorem ok_adjusted {P : Program} {w : World} {K : PySem.W.Frag} {mg : Str → Option Value} {base : Heap} {f : Addr} {fd : FuncData} (F : Fun K "adjusted" "adjusted" s_adjusted f fd) (b : Binds K fd ["day", "holidays", "how"] []) (hmg : mg "adjusted" = some (.ref f)) {adr : _root_.Fin 7 → Addr} {B0 : Addr} (Er : Errs K mg nm_ adr B0) (F_next_working : Fn0 P w K mg base CX0 5 "next_working" 2 (sp_next_working K)) (F_previous_working : Fn0 P w K mg base CX0 5 "previous_working" 2 (sp_previous_working K)) (F_same_month : Fn0 P w K mg base CX0 4 "same_month" 2 (sp_same_month K)) :
    Fn0 P w K mg base CX0 6 "adjusted" 3 (sp_adjusted K) := by
  have hsl := sizeLine_eq
  refine fn_mk F sc_adjusted b hmg (fun i : (Int × (List Int) × (List Nat)) => b_adjusted i.1 i.2.1 i.2.2) (fun i G vs h => ?_) (fun cdv A outer s H E i G cs vs hr hp => ?_)
  · obtain ⟨v0_, v1_, v2_, h, _⟩ := h
    rw [h]
    rfl
  obtain ⟨day_, holidays_, how_⟩ := i
  obtain ⟨v0_, v1_, v2_, rfl, h0_, h1_, h2_, hpre⟩ := hp
  cases h0_
  cases h2_
  show B _ _ _ [some (.int day_), some v1_, some (.str (SX.S how_)), none] G cs _ (b_adjusted day_ holidays_ how_)
  unfold b_adjusted
  try dsimp only at hpre
  refine b_ifx (t_cmp op_eq (nomark _) (d_var 2 (P := rS how_) rfl rfl) (d_str (l := [110, 111, 110, 101]) (by decide +kernel)) fun _ _ _ _ _ _ hx hy _ q => c_eqS hx hy q) ?_ ?_
  · intro hc1 Gs2 s2
    have dhc1 := hc1
    try simp only [decide_eq_true_eq, decide_eq_false_iff_not, Bool.and_eq_true, Bool.and_eq_false_imp, Bool.or_eq_true, Bool.or_eq_false_iff, Bool.not_eq_true', Bool.not_eq_false', Bool.not_not, ne_eq, Int.not_lt, Int.not_le] at dhc1
    exact b_ret (P := (rO rI) (some day_)) (d_toO (r := rI) (d_var 0 (P := rI day_) rfl rfl)) (fun _ _ _ h => ⟨⟨[], rfl⟩, h⟩)
  · intro hc1 Gs2 s2
    have dhc1 := hc1
    try simp only [decide_eq_true_eq, decide_eq_false_iff_not, Bool.and_eq_true, Bool.and_eq_false_imp, Bool.or_eq_true, Bool.or_eq_false_iff, Bool.not_eq_true', Bool.not_eq_false', Bool.not_not, ne_eq, Int.not_lt, Int.not_le] at dhc1
    refine b_ifx (t_cmp op_eq (nomark _) (d_var 2 (P := rS how_) rfl rfl) (d_str (l := [112, 114, 101, 118, 105, 111, 117, 115]) (by decide +kernel)) fun _ _ _ _ _ _ hx hy _ q => c_eqS hx hy q) ?_ ?_
    · intro hc3 Gs4 s4
      have dhc3 := hc3
      try simp only [decide_eq_true_eq, decide_eq_false_iff_not, Bool.and_eq_true, Bool.and_eq_false_imp, Bool.or_eq_true, Bool.or_eq_false_iff, Bool.not_eq_true', Bool.not_eq_false', Bool.not_not, ne_eq, Int.not_lt, Int.not_le] at dhc3
      exact b_ret (P := (rO rI) (m_previous_working day_ holidays_)) (d_callQ (P := (rO rI) (m_previous_working day_ holidays_)) (day_, holidays_) F_previous_working hr (by decide) (a_cons (P := rI day_) (d_var 0 (P := rI day_) rfl rfl) (a_cons (P := (rL K rI) holidays_) (d_var 1 (P := (rL K rI) holidays_) rfl (Mono.mono (s2.trans s4) h1_)) a_nil)) (fun _ _ _ h => by obtain ⟨v0, w0, rfl, h0, v1, w1, rfl, h1, rfl⟩ := h; exact ⟨v0, v1, rfl, h0, h1, (by (try dsimp only); first | assumption | omega | (refine ⟨?_, ?_⟩ <;> omega) | (refine ⟨?_, ?_, ?_⟩ <;> omega) | simp_all)⟩) fun _ _ h => h) (fun _ _ _ h => ⟨⟨[], rfl⟩, h⟩)
    · intro hc3 Gs4 s4
      have dhc3 := hc3
      try simp only [decide_eq_true_eq, decide_eq_false_iff_not, Bool.and_eq_true, Bool.and_eq_false_imp, Bool.or_eq_true, Bool.or_eq_false_iff, Bool.not_eq_true', Bool.not_eq_false', Bool.not_not, ne_eq, Int.not_lt, Int.not_le] at dhc3
      refine b_setV (r := (rO rI)) 3 sc_adjusted.nd (d_callQ (P := (rO rI) (m_next_working day_ holidays_)) (day_, holidays_) F_next_working hr (by decide) (a_cons (P := rI day_) (d_var 0 (P := rI day_) rfl rfl) (a_cons (P := (rL K rI) holidays_) (d_var 1 (P := (rL K rI) holidays_) rfl (Mono.mono (s2.trans s4) h1_)) a_nil)) (fun _ _ _ h => by obtain ⟨v0, w0, rfl, h0, v1, w1, rfl, h1, rfl⟩ := h; exact ⟨v0, v1, rfl, h0, h1, (by (try dsimp only); first | assumption | omega | (refine ⟨?_, ?_⟩ <;> omega) | (refine ⟨?_, ?_, ?_⟩ <;> omega) | simp_all)⟩) fun _ _ h => h) (fun found_5 efound_5 v7 Gs6 s6 h8 => ?_)
      have hfi : found_5.isSome = true → 0 ≤ oGet found_5 ∧ oGet found_5 ≤ 36524 := by rw [efound_5]; exact next_in hpre
      refine b_ifx (t_cmp op_eq (nomark _) (d_var 2 (P := rS how_) rfl rfl) (d_str (l := [110, 101, 120, 116]) (by decide +kernel)) fun _ _ _ _ _ _ hx hy _ q => c_eqS hx hy q) ?_ ?_
      · intro hc9 Gs10 s10
        have dhc9 := hc9
        try simp only [decide_eq_true_eq, decide_eq_false_iff_not, Bool.and_eq_true, Bool.and_eq_false_imp, Bool.or_eq_true, Bool.or_eq_false_iff, Bool.not_eq_true', Bool.not_eq_false', Bool.not_not, ne_eq, Int.not_lt, Int.not_le] at dhc9
        exact b_ret (P := (rO rI) found_5) (d_var 3 (P := (rO rI) found_5) rfl (Mono.mono s10 h8)) (fun _ _ _ h => ⟨⟨[], rfl⟩, h⟩)
      · intro hc9 Gs10 s10
        have dhc9 := hc9
        try simp only [decide_eq_true_eq, decide_eq_false_iff_not, Bool.and_eq_true, Bool.and_eq_false_imp, Bool.or_eq_true, Bool.or_eq_false_iff, Bool.not_eq_true', Bool.not_eq_false', Bool.not_not, ne_eq, Int.not_lt, Int.not_le] at dhc9
        refine b_ifx (t_w (w_and (t_notN (r := rI) (d_var 3 (P := (rO rI) found_5) rfl (Mono.mono s10 h8))) fun hk11 => (w_and1 (t_val (d_callQ (P := rB (m_same_month day_ (oGet found_5))) (day_, (oGet found_5)) F_same_month hr (by decide) (a_cons (P := rI day_) (d_var 0 (P := rI day_) rfl rfl) (a_cons (P := rI (oGet found_5)) (d_unO (r := rI) (d_var 3 (P := (rO rI) found_5) rfl (Mono.mono s10 h8)) (by first | exact oS1 (by assumption) | exact oS2 (by assumption))) a_nil)) (fun _ _ _ h => by obtain ⟨v0, w0, rfl, h0, v1, w1, rfl, h1, rfl⟩ := h; exact ⟨v0, v1, rfl, h0, h1, (by exact ⟨hpre, hfi (by first | exact oS1 (by assumption) | exact oS2 (by assumption))⟩)⟩) fun _ _ h => h))))) ?_ ?_
        · intro hc12 Gs13 s13
          have dhc12 := hc12
          try simp only [decide_eq_true_eq, decide_eq_false_iff_not, Bool.and_eq_true, Bool.and_eq_false_imp, Bool.or_eq_true, Bool.or_eq_false_iff, Bool.not_eq_true', Bool.not_eq_false', Bool.not_not, ne_eq, Int.not_lt, Int.not_le] at dhc12
          exact b_ret (P := (rO rI) found_5) (d_var 3 (P := (rO rI) found_5) rfl (Mono.mono (s10.trans s13) h8)) (fun _ _ _ h => ⟨⟨[], rfl⟩, h⟩)
        · intro hc12 Gs13 s13
          have dhc12 := hc12
          try simp only [decide_eq_true_eq, decide_eq_false_iff_not, Bool.and_eq_true, Bool.and_eq_false_imp, Bool.or_eq_true, Bool.or_eq_false_iff, Bool.not_eq_true', Bool.not_eq_false', Bool.not_not, ne_eq, Int.not_lt, Int.not_le] at dhc12
          exact b_ret (P := (rO rI) (m_previous_working day_ holidays_)) (d_callQ (P := (rO rI) (m_previous_working day_ holidays_)) (day_, holidays_) F_previous_working hr (by decide) (a_cons (P := rI day_) (d_var 0 (P := rI day_) rfl rfl) (a_cons (P := (rL K rI) holidays_) (d_var 1 (P := (rL K rI) holidays_) rfl (Mono.mono (s2.trans (s4.trans (s6.trans (s10.trans s13)))) h1_)) a_nil)) (fun _ _ _ h => by obtain ⟨v0, w0, rfl, h0, v1, w1, rfl, h1, rfl⟩ := h; exact ⟨v0, v1, rfl, h0, h1, (by (try dsimp only); first | assumption | omega | (refine ⟨?_, ?_⟩ <;> omega) | (refine ⟨?_, ?_, ?_⟩ <;> omega) | simp_all)⟩) fun _ _ h => h) (fun _ _ _ h => ⟨⟨[], rfl⟩, h⟩)
end Ck08

namespace Ck08
open PySem L2 PyProof.Rows J
abbrev s_adjust : Stmt := PySem.Challenge.pw_corebank_k08_whole_adjust.main.body.getD 26 (.Pass ⟨0, 0, 0, 0⟩)
abbrev N_adjust : List Str := ["day", "holidays", "how", "found"]
theorem sc_adjust : FnScope ["day", "holidays", "how", "found"] ["day", "holidays", "how"] (defScope s_adjust) := ⟨rfl, rfl, rfl, by decide +kernel, rfl, by decide +kernel, by decide +kernel⟩
theorem ok_adjust {P : Program} {w : World} {K : PySem.W.Frag} {mg : Str → Option Value} {base : Heap} {f : Addr} {fd : FuncData} (F : Fun K "adjust" "adjust" s_adjust f fd) (b : Binds K fd ["day", "holidays", "how"] []) (hmg : mg "adjust" = some (.ref f)) {adr : _root_.Fin 7 → Addr} {B0 : Addr} (Er : Errs K mg nm_ adr B0) (c_HOWS : GlobR mg "HOWS" ((rU K rS) k_HOWS)) (F_adjusted : Fn0 P w K mg base CX0 6 "adjusted" 3 (sp_adjusted K)) (F_check_day : Fn0 P w K mg base (L2.CX P w) 2 "check_day" 1 (sp_check_day K adr)) :
    Fn0 P w K mg base (L2.CX P w) 7 "adjust" 3 (sp_adjust K adr) := by
  have hsl := sizeLine_eq
  refine fn_mkE (cE := cE adr) F sc_adjust b hmg (fun i : (Int × (List Int) × (List Nat)) => b_adjust i.1 i.2.1 i.2.2) (fun i G vs h => ?_) (fun cdv A outer s H E i G cs vs hr hp => ?_)
  · obtain ⟨v0_, v1_, v2_, h, _⟩ := h
    rw [h]
    rfl
  obtain ⟨day_, holidays_, how_⟩ := i
  obtain ⟨v0_, v1_, v2_, rfl, h0_, h1_, h2_⟩ := hp
  cases h0_
  cases h2_
  show B _ (wE2 adr (fun c d _ H => E c d H)) _ [some (.int day_), some v1_, some (.str (SX.S how_)), none] G cs _ (b_adjust day_ holidays_ how_)
  unfold b_adjust
  refine b_exprE (P := rN) ?_ (fun _ _ _ _ => ⟨[], rfl⟩) (fun o2 eo2 Gs1 s1 => ?_)
  · exact (de_callQ (adr := adr) (P := rN) (day_) F_check_day (takes_of rfl rfl rfl rfl) hr (by decide) (a_cons (P := rI day_) (d_var 0 (P := rI day_) rfl rfl) a_nil) (fun _ _ _ h => by obtain ⟨v0, w0, rfl, h0, rfl⟩ := h; exact ⟨v0, rfl, h0⟩) fun _ _ _ h => h)
  refine b_ifx (t_nin (r := rS) (d_var 2 (P := rS how_) rfl rfl) (D.imp (P := (rU K rS) k_HOWS) (d_globR c_HOWS) fun _ _ => rRow_t)) ?_ ?_
  · intro hc3 Gs4 s4
    have dhc3 := hc3
    try simp only [decide_eq_true_eq, decide_eq_false_iff_not, Bool.and_eq_true, Bool.and_eq_false_imp, Bool.or_eq_true, Bool.or_eq_false_iff, Bool.not_eq_true', Bool.not_eq_false', Bool.not_not, ne_eq, Int.not_lt, Int.not_le] at dhc3
    exact b_raise 0 Er rfl (takes_of rfl rfl rfl rfl) rfl ⟨[], rfl⟩
  · intro hc3 Gs4 s4
    have dhc3 := hc3
    try simp only [decide_eq_true_eq, decide_eq_false_iff_not, Bool.and_eq_true, Bool.and_eq_false_imp, Bool.or_eq_true, Bool.or_eq_false_iff, Bool.not_eq_true', Bool.not_eq_false', Bool.not_not, ne_eq, Int.not_lt, Int.not_le] at dhc3
    refine b_setV (r := (rO rI)) 3 sc_adjust.nd (d_callQ (P := (rO rI) (m_adjusted day_ holidays_ how_)) (day_, holidays_, how_) F_adjusted hr (by decide) (a_cons (P := rI day_) (d_var 0 (P := rI day_) rfl rfl) (a_cons (P := (rL K rI) holidays_) (d_var 1 (P := (rL K rI) holidays_) rfl (Mono.mono (s1.trans s4) h1_)) (a_cons (P := rS how_) (d_var 2 (P := rS how_) rfl rfl) a_nil))) (fun _ _ _ h => by obtain ⟨v0, w0, rfl, h0, v1, w1, rfl, h1, v2, w2, rfl, h2, rfl⟩ := h; exact ⟨v0, v1, v2, rfl, h0, h1, h2, (by exact check_ok eo2)⟩) fun _ _ h => h) (fun found_5 efound_5 v7 Gs6 s6 h8 => ?_)
    refine b_ifx (t_isN (r := rI) (d_var 3 (P := (rO rI) found_5) rfl h8)) ?_ ?_
    · intro hc9 Gs10 s10
      have dhc9 := hc9
      try simp only [decide_eq_true_eq, decide_eq_false_iff_not, Bool.and_eq_true, Bool.and_eq_false_imp, Bool.or_eq_true, Bool.or_eq_false_iff, Bool.not_eq_true', Bool.not_eq_false', Bool.not_not, ne_eq, Int.not_lt, Int.not_le] at dhc9
      exact b_raise 1 Er rfl (takes_of rfl rfl rfl rfl) rfl ⟨[], rfl⟩
    · intro hc9 Gs10 s10
      have dhc9 := hc9
      try simp only [decide_eq_true_eq, decide_eq_false_iff_not, Bool.and_eq_true, Bool.and_eq_false_imp, Bool.or_eq_true, Bool.or_eq_false_iff, Bool.not_eq_true', Bool.not_eq_false', Bool.not_not, ne_eq, Int.not_lt, Int.not_le] at dhc9
      exact b_ret (P := rI (oGet found_5)) (d_unO (r := rI) (d_var 3 (P := (rO rI) found_5) rfl (Mono.mono s10 h8)) (by first | exact oS1 (by assumption) | exact oS2 (by assumption))) (fun _ _ _ h => ⟨⟨[], rfl⟩, h⟩)
end Ck08

namespace Ck08
open PySem L2 PyProof.Rows J
abbrev s_law_told : Stmt := PySem.Challenge.pw_corebank_k08_whole_adjust.main.body.getD 37 (.Pass ⟨0, 0, 0, 0⟩)
abbrev N_law_told : List Str := ["_law_day_here", "_law_holidays_here", "_law_how", "_law_copy", "_law_told_here", "e"]
theorem sc_law_told : FnScope ["_law_day_here", "_law_holidays_here", "_law_how", "_law_copy", "_law_told_here", "e"] ["_law_day_here", "_law_holidays_here", "_law_how"] (defScope s_law_told) := ⟨rfl, rfl, rfl, by decide +kernel, rfl, by decide +kernel, by decide +kernel⟩
theorem ok_law_told {P : Program} {w : World} {K : PySem.W.Frag} {mg : Str → Option Value} {base : Heap} {f : Addr} {fd : FuncData} (F : Fun K "_law_told" "_law_told" s_law_told f fd) (b : Binds K fd ["_law_day_here", "_law_holidays_here", "_law_how"] []) (hmg : mg "_law_told" = some (.ref f)) {adr : _root_.Fin 7 → Addr} {B0 : Addr} (Er : Errs K mg nm_ adr B0) (m_bool : mg "bool" = none) (m_int : mg "int" = none) (m_isinstance : mg "isinstance" = none) (m_list : mg "list" = none) (F_law_kinds : FnX P w K mg base 1 "_law_kinds" 1 (sp_law_kinds K adr)) (F_adjust : Fn0 P w K mg base (L2.CX P w) 7 "adjust" 3 (sp_adjust K adr)) :
    Fn0 P w K mg base CX0 8 "_law_told" 3 (sp_law_told K) := by
  have hsl := sizeLine_eq
  refine fn_mk F sc_law_told b hmg (fun i : (Int × (List Int) × (List Nat)) => b_law_told i.1 i.2.1 i.2.2) (fun i G vs h => ?_) (fun cdv A outer s H E i G cs vs hr hp => ?_)
  · obtain ⟨v0_, v1_, v2_, h, _⟩ := h
    rw [h]
    rfl
  obtain ⟨day_here_, holidays_here_, how_⟩ := i
  obtain ⟨v0_, v1_, v2_, rfl, h0_, h1_, h2_⟩ := hp
  cases h0_
  cases h2_
  show B _ _ _ [some (.int day_here_), some v1_, some (.str (SX.S how_)), none, none, none] G cs _ (b_law_told day_here_ holidays_here_ how_)
  unfold b_law_told
  refine b_setV (r := (rL K rI)) 3 sc_law_told.nd (d_new (n_listL (r := rI) m_list (D.imp (P := (rL K rI) holidays_here_) (d_var 1 (P := (rL K rI) holidays_here_) rfl h1_) fun _ _ => rdL_of))) (fun copy_1 ecopy_1 v3 Gs2 s2 h4 => ?_)
  refine b_tryAs 5 (S' := (Int)) (fun (z5 : (Int)) σ_ G_ cs_ => ∃ o6 : Option V, σ_ = [some (.int day_here_), some v1_, some (.str (SX.S how_)), some v3, some (.int z5), o6] ∧ cs = cs_) (fun (k7 : _root_.Fin 7) σ_ G_ cs_ => ∃ o8 : Option V, ∃ o9 : Option V, σ_ = [some (.int day_here_), some v1_, some (.str (SX.S how_)), some v3, o8, o9] ∧ cs = cs_) Er sc_law_told.nd ?_ ?_ ?_
  · intro Wx10 _ _ tk11 po12
    refine b_setE (P := rI) 4 sc_law_told.nd ?_ (fun _ _ _ _ => ⟨_, _, rfl, rfl⟩) (fun told_here_16 etold_here_16 v14 Gs13 s13 h15 => ?_)
    · exact (de_callQ (adr := adr) (P := rI) (day_here_, copy_1, how_) F_adjust tk11 hr (by decide) (a_cons (P := rI day_here_) (d_var 0 (P := rI day_here_) rfl rfl) (a_cons (P := (rL K rI) copy_1) (d_var 3 (P := (rL K rI) copy_1) rfl h4) (a_cons (P := rS how_) (d_var 2 (P := rS how_) rfl rfl) a_nil))) (fun _ _ _ h => by obtain ⟨v0, w0, rfl, h0, v1, w1, rfl, h1, v2, w2, rfl, h2, rfl⟩ := h; exact ⟨v0, v1, v2, rfl, h0, h1, h2⟩) fun _ _ _ h => h)
    cases h15
    exact b_nil (by refine ⟨_, rfl, rfl⟩)
  · intro k7 hm23 a17 oe18 pn19 _ _ _ s20 hNk7 hz21 hf22
    obtain ⟨o8, o9, rfl, rfl⟩ := hNk7
    exact b_ret (P := (rT K (cc rS (c0 (rL K (rSum rI rS))))) ([114, 97, 105, 115, 101, 100], ((m_law_kinds k7).map Sum.inr))) (d_tup (r := (cc rS (c0 (rL K (rSum rI rS))))) (x := ([114, 97, 105, 115, 101, 100], ((m_law_kinds k7).map Sum.inr))) (a_cons (P := rS [114, 97, 105, 115, 101, 100]) (d_str (l := [114, 97, 105, 115, 101, 100]) (by decide +kernel)) (a_cons (P := (rL K (rSum rI rS)) ((m_law_kinds k7).map Sum.inr)) (d_lmap Sum.inr (d_callX (P := (rL K rS) (m_law_kinds k7)) k7 F_law_kinds (roomX hr (by decide)) List.mem_cons_self hz21 hf22 (d_var 5 (P := rV (.ref a17)) rfl rfl) fun _ _ h => h) fun _ _ _ h => h) a_nil)) (tp_c tp_1)) (fun _ _ _ h => ⟨⟨[], rfl⟩, h⟩)
  · intro z5 _ _ _ sz5 hNz5 hmz5
    obtain ⟨o6, rfl, rfl⟩ := hNz5
    refine b_ifx (t_w (w_or (t_val (d_isi (h := (inferInstance : HasTy K rI "int")) (u := "bool") (k := false) m_isinstance m_bool (d_var 4 (P := rI z5) rfl rfl))) fun hk25 => (w_or (t_not (t_val (d_isi (h := (inferInstance : HasTy K rI "int")) (u := "int") (k := true) m_isinstance m_int (d_var 4 (P := rI z5) rfl rfl)))) fun hk24 => (w_or1 (t_neD (K := K) (r := (rL K rI)) hr (d_var 3 (P := (rL K rI) copy_1) rfl (Mono.mono sz5 h4)) (d_var 1 (P := (rL K rI) holidays_here_) rfl (Mono.mono (s2.trans sz5) h1_)) (fun _ _ => trivial) (fun _ _ => trivial)))))) ?_ ?_
    · intro hc26 Gs27 s27
      have dhc26 := hc26
      try simp only [decide_eq_true_eq, decide_eq_false_iff_not, Bool.and_eq_true, Bool.and_eq_false_imp, Bool.or_eq_true, Bool.or_eq_false_iff, Bool.not_eq_true', Bool.not_eq_false', Bool.not_not, ne_eq, Int.not_lt, Int.not_le] at dhc26
      exact b_ret (P := (rT K (cc rS (c0 (rL K (rSum rI rS))))) ([115, 116, 114, 97, 110, 103, 101], ([] : (List (Int ⊕ (List Nat)))))) (d_tup (r := (cc rS (c0 (rL K (rSum rI rS))))) (x := ([115, 116, 114, 97, 110, 103, 101], ([] : (List (Int ⊕ (List Nat)))))) (a_cons (P := rS [115, 116, 114, 97, 110, 103, 101]) (d_str (l := [115, 116, 114, 97, 110, 103, 101]) (by decide +kernel)) (a_cons (P := (rL K (rSum rI rS)) ([] : (List (Int ⊕ (List Nat))))) (d_new (n_lst (r := (rSum rI rS)) (xs := ([] : (List (Int ⊕ (List Nat))))) a_nil ls_n)) a_nil)) (tp_c tp_1)) (fun _ _ _ h => ⟨⟨[], rfl⟩, h⟩)
    · intro hc26 Gs27 s27
      have dhc26 := hc26
      try simp only [decide_eq_true_eq, decide_eq_false_iff_not, Bool.and_eq_true, Bool.and_eq_false_imp, Bool.or_eq_true, Bool.or_eq_false_iff, Bool.not_eq_true', Bool.not_eq_false', Bool.not_not, ne_eq, Int.not_lt, Int.not_le] at dhc26
      exact b_ret (P := (rT K (cc rS (c0 (rL K (rSum rI rS))))) ([100, 97, 121], [(Sum.inl z5)])) (d_tup (r := (cc rS (c0 (rL K (rSum rI rS))))) (x := ([100, 97, 121], [(Sum.inl z5)])) (a_cons (P := rS [100, 97, 121]) (d_str (l := [100, 97, 121]) (by decide +kernel)) (a_cons (P := (rL K (rSum rI rS)) [(Sum.inl z5)]) (d_new (n_lst (r := (rSum rI rS)) (xs := [(Sum.inl z5)]) (a_cons (P := (rSum rI rS) (Sum.inl z5)) (d_inl (r := rI) (r' := rS) (d_var 4 (P := rI z5) rfl rfl)) a_nil) (ls_c ls_n))) a_nil)) (tp_c tp_1)) (fun _ _ _ h => ⟨⟨[], rfl⟩, h⟩)
end Ck08

namespace Ck08
open PySem L2 PyProof.Rows J
abbrev s_law_search : Stmt := PySem.Challenge.pw_corebank_k08_whole_adjust.main.body.getD 35 (.Pass ⟨0, 0, 0, 0⟩)
abbrev N_law_search : List Str := ["_law_day_here", "_law_step", "_law_holidays_here", "_law_k", "_law_near"]
theorem sc_law_search : FnScope ["_law_day_here", "_law_step", "_law_holidays_here", "_law_k", "_law_near"] ["_law_day_here", "_law_step", "_law_holidays_here"] (defScope s_law_search) := ⟨rfl, rfl, rfl, by decide +kernel, rfl, by decide +kernel, by decide +kernel⟩
theorem ok_law_search {P : Program} {w : World} {K : PySem.W.Frag} {mg : Str → Option Value} {base : Heap} {f : Addr} {fd : FuncData} (F : Fun K "_law_search" "_law_search" s_law_search f fd) (b : Binds K fd ["_law_day_here", "_law_step", "_law_holidays_here"] []) (hmg : mg "_law_search" = some (.ref f)) {adr : _root_.Fin 7 → Addr} {B0 : Addr} (Er : Errs K mg nm_ adr B0) (m_range : mg "range" = none) (F_law_works : Fn0 P w K mg base CX0 1 "_law_works" 2 (sp_law_works K)) :
    Fn0 P w K mg base CX0 2 "_law_search" 3 (sp_law_search K) := by
  have hsl := sizeLine_eq
  refine fn_mk F sc_law_search b hmg (fun i : (Int × Int × (List Int)) => b_law_search i.1 i.2.1 i.2.2) (fun i G vs h => ?_) (fun cdv A outer s H E i G cs vs hr hp => ?_)
  · obtain ⟨v0_, v1_, v2_, h, _⟩ := h
    rw [h]
    rfl
  obtain ⟨day_here_, step_, holidays_here_⟩ := i
  obtain ⟨v0_, v1_, v2_, rfl, h0_, h1_, h2_⟩ := hp
  cases h0_
  cases h1_
  show B _ _ _ [some (.int day_here_), some (.int step_), some v2_, none, none] G cs _ (b_law_search day_here_ step_ holidays_here_)
  unfold b_law_search
  refine b_for (f := (st_law_search_1 day_here_ step_ holidays_here_)) (s0 := ()) (xs := (rng 0 120)) (fun n_ (z1 : Unit) σ_ G_ cs_ => ∃ o4 : Option V, ∃ o5 : Option V, σ_ = [some (.int day_here_), some (.int step_), some v2_, o4, o5] ∧ cs = cs_) (i_rng1 m_range d_int (by omega) (by omega)) (tg_name 3 sc_law_search.nd) rfl PassesOwn.never ?_ ?_ ?_ ?_
  · intro _ s19
    exact ⟨_, _, rfl, rfl⟩
  · intro _ _ _ _ _ _
    trivial
  · intro pre_ x6 post_ z1 _ _ _ _ _ hxsz1 hrez1 s7 hNz1 s8 hSz1
    obtain ⟨o4, o5, rfl, rfl⟩ := hNz1
    obtain ⟨v2, h3, rfl⟩ := hSz1
    have hltz1 : pre_.length < (rng 0 120).length := by rw [hxsz1, List.length_append, List.length_cons]; omega
    have hmemz1 : x6 ∈ (rng 0 120) := by rw [hxsz1]; exact List.mem_append_right _ List.mem_cons_self
    try simp only [rng_length, rng_mem, enumL_length] at hltz1 hmemz1
    show B _ _ _ _ _ _ _ (st_law_search_1 day_here_ step_ holidays_here_ z1 x6)
    unfold st_law_search_1
    cases h3
    refine b_setV (r := rI) 4 sc_law_search.nd (d_add (d_var 0 (P := rI day_here_) rfl rfl) (d_mul (d_var 1 (P := rI step_) rfl rfl) (d_var 3 (P := rI x6) rfl rfl) (by first | exact .inr ⟨by omega, by omega⟩ | exact .inl ⟨by omega, by omega⟩))) (fun near_10 enear_10 v12 Gs11 s11 h13 => ?_)
    cases h13
    refine b_ifx (t_w (w_or (t_cmp op_lt (nomark _) (d_var 4 (P := rI near_10) rfl rfl) d_int fun _ _ _ _ _ _ hx hy _ q => c_lt hx hy q) fun hk14 => (w_or1 (t_cmp op_gt (nomark _) (d_var 4 (P := rI near_10) rfl rfl) d_int fun _ _ _ _ _ _ hx hy _ q => c_gt hx hy q)))) ?_ ?_
    · intro hc15 Gs16 s16
      have dhc15 := hc15
      try simp only [decide_eq_true_eq, decide_eq_false_iff_not, Bool.and_eq_true, Bool.and_eq_false_imp, Bool.or_eq_true, Bool.or_eq_false_iff, Bool.not_eq_true', Bool.not_eq_false', Bool.not_not, ne_eq, Int.not_lt, Int.not_le] at dhc15
      exact b_ret (P := (rO rI) none) (d_toN (r := rI) d_non) (fun _ _ _ h => ⟨⟨[], rfl⟩, h⟩)
    · intro hc15 Gs16 s16
      have dhc15 := hc15
      try simp only [decide_eq_true_eq, decide_eq_false_iff_not, Bool.and_eq_true, Bool.and_eq_false_imp, Bool.or_eq_true, Bool.or_eq_false_iff, Bool.not_eq_true', Bool.not_eq_false', Bool.not_not, ne_eq, Int.not_lt, Int.not_le] at dhc15
      refine b_ifx (t_val (d_callQ (P := rB (m_law_works near_10 holidays_here_)) (near_10, holidays_here_) F_law_works hr (by decide) (a_cons (P := rI near_10) (d_var 4 (P := rI near_10) rfl rfl) (a_cons (P := (rL K rI) holidays_here_) (d_var 2 (P := (rL K rI) holidays_here_) rfl (Mono.mono (s7.trans (s8.trans (s11.trans s16))) h2_)) a_nil)) (fun _ _ _ h => by obtain ⟨v0, w0, rfl, h0, v1, w1, rfl, h1, rfl⟩ := h; exact ⟨v0, v1, rfl, h0, h1⟩) fun _ _ h => h)) ?_ ?_
      · intro hc17 Gs18 s18
        have dhc17 := hc17
        try simp only [decide_eq_true_eq, decide_eq_false_iff_not, Bool.and_eq_true, Bool.and_eq_false_imp, Bool.or_eq_true, Bool.or_eq_false_iff, Bool.not_eq_true', Bool.not_eq_false', Bool.not_not, ne_eq, Int.not_lt, Int.not_le] at dhc17
        exact b_ret (P := (rO rI) (some near_10)) (d_toO (r := rI) (d_var 4 (P := rI near_10) rfl rfl)) (fun _ _ _ h => ⟨⟨[], rfl⟩, h⟩)
      · intro hc17 Gs18 s18
        have dhc17 := hc17
        try simp only [decide_eq_true_eq, decide_eq_false_iff_not, Bool.and_eq_true, Bool.and_eq_false_imp, Bool.or_eq_true, Bool.or_eq_false_iff, Bool.not_eq_true', Bool.not_eq_false', Bool.not_not, ne_eq, Int.not_lt, Int.not_le] at dhc17
        exact b_nil (by refine ⟨_, _, rfl, rfl⟩)
  · intro n_ z1 _ _ _ hnz1 s20 hNz1 hfz1
    obtain ⟨o4, o5, rfl, rfl⟩ := hNz1
    try simp only [rng_length, enumL_length] at hnz1
    exact b_ret (P := (rO rI) none) (d_toN (r := rI) d_non) (fun _ _ _ h => ⟨⟨[], rfl⟩, h⟩)
end Ck08

namespace Ck08
open PySem L2 PyProof.Rows J
abbrev s_law_length : Stmt := PySem.Challenge.pw_corebank_k08_whole_adjust.main.body.getD 30 (.Pass ⟨0, 0, 0, 0⟩)
abbrev N_law_length : List Str := ["_law_year", "_law_month"]
theorem sc_law_length : FnScope ["_law_year", "_law_month"] ["_law_year", "_law_month"] (defScope s_law_length) := ⟨rfl, rfl, rfl, by decide +kernel, rfl, by decide +kernel, by decide +kernel⟩
theorem ok_law_length {P : Program} {w : World} {K : PySem.W.Frag} {mg : Str → Option Value} {base : Heap} {f : Addr} {fd : FuncData} (F : Fun K "_law_length" "_law_length" s_law_length f fd) (b : Binds K fd ["_law_year", "_law_month"] []) (hmg : mg "_law_length" = some (.ref f)) {adr : _root_.Fin 7 → Addr} {B0 : Addr} (Er : Errs K mg nm_ adr B0) (m_int : mg "int" = none) :
    Fn0 P w K mg base CX0 1 "_law_length" 2 (sp_law_length K) := by
  have hsl := sizeLine_eq
  refine fn_mk F sc_law_length b hmg (fun i : (Int × Int) => b_law_length i.1 i.2) (fun i G vs h => ?_) (fun cdv A outer s H E i G cs vs hr hp => ?_)
  · obtain ⟨v0_, v1_, h, _⟩ := h
    rw [h]
    rfl
  obtain ⟨year_, month_⟩ := i
  obtain ⟨v0_, v1_, rfl, h0_, h1_, hpre⟩ := hp
  cases h0_
  cases h1_
  show B _ _ _ [some (.int year_), some (.int month_)] G cs _ (b_law_length year_ month_)
  unfold b_law_length
  try dsimp only at hpre
  refine b_ifx (t_w (w_and (t_cmp op_eq (nomark _) (d_var 1 (P := rI month_) rfl rfl) d_int fun _ _ _ _ _ _ hx hy _ q => c_eqI hx hy q) fun hk1 => (w_and1 (t_cmp op_eq (nomark _) (d_mod (d_int1 m_int (d_var 0 (P := rI year_) rfl rfl)) d_int (by decide)) d_int fun _ _ _ _ _ _ hx hy _ q => c_eqI hx hy q)))) ?_ ?_
  · intro hc2 Gs3 s3
    have dhc2 := hc2
    try simp only [decide_eq_true_eq, decide_eq_false_iff_not, Bool.and_eq_true, Bool.and_eq_false_imp, Bool.or_eq_true, Bool.or_eq_false_iff, Bool.not_eq_true', Bool.not_eq_false', Bool.not_not, ne_eq, Int.not_lt, Int.not_le] at dhc2
    exact b_ret (P := rI 29) d_int (fun _ _ _ h => ⟨⟨[], rfl⟩, h⟩)
  · intro hc2 Gs3 s3
    have dhc2 := hc2
    try simp only [decide_eq_true_eq, decide_eq_false_iff_not, Bool.and_eq_true, Bool.and_eq_false_imp, Bool.or_eq_true, Bool.or_eq_false_iff, Bool.not_eq_true', Bool.not_eq_false', Bool.not_not, ne_eq, Int.not_lt, Int.not_le] at dhc2
    exact b_ret (P := rI (ixg [31, 28, 31, 30, 31, 30, 31, 31, 30, 31, 30, 31] (month_ - 1))) (d_ixL (r := rI) (xs := [31, 28, 31, 30, 31, 30, 31, 31, 30, 31, 30, 31]) (i := (month_ - 1)) (x := (ixg [31, 28, 31, 30, 31, 30, 31, 31, 30, 31, 30, 31] (month_ - 1))) (D.imp (P := (rL K rI) [31, 28, 31, 30, 31, 30, 31, 31, 30, 31, 30, 31]) (d_new (n_lst (r := rI) (xs := [31, 28, 31, 30, 31, 30, 31, 31, 30, 31, 30, 31]) (a_cons (P := rI 31) d_int (a_cons (P := rI 28) d_int (a_cons (P := rI 31) d_int (a_cons (P := rI 30) d_int (a_cons (P := rI 31) d_int (a_cons (P := rI 30) d_int (a_cons (P := rI 31) d_int (a_cons (P := rI 31) d_int (a_cons (P := rI 30) d_int (a_cons (P := rI 31) d_int (a_cons (P := rI 30) d_int (a_cons (P := rI 31) d_int a_nil)))))))))))) (ls_c (ls_c (ls_c (ls_c (ls_c (ls_c (ls_c (ls_c (ls_c (ls_c (ls_c (ls_c ls_n)))))))))))))) fun _ _ => rdL_of) (d_sub (d_var 1 (P := rI month_) rfl rfl) d_int) (atI_ixg (by first | (constructor <;> omega) | (simp only [List.length_cons, List.length_nil]; constructor <;> omega) | exact ix_mod (by omega) | (simp only [decide_eq_true_eq, decide_eq_false_iff_not] at *; constructor <;> omega)))) (fun _ _ _ h => ⟨⟨[], rfl⟩, h⟩)
end Ck08

namespace Ck08
open PySem L2 PyProof.Rows J
abbrev s_law_date : Stmt := PySem.Challenge.pw_corebank_k08_whole_adjust.main.body.getD 31 (.Pass ⟨0, 0, 0, 0⟩)
abbrev N_law_date : List Str := ["_law_day_here", "_law_year", "_law_k", "_law_size", "_law_month"]
theorem sc_law_date : FnScope ["_law_day_here", "_law_year", "_law_k", "_law_size", "_law_month"] ["_law_day_here"] (defScope s_law_date) := ⟨rfl, rfl, rfl, by decide +kernel, rfl, by decide +kernel, by decide +kernel⟩
theorem ok_law_date {P : Program} {w : World} {K : PySem.W.Frag} {mg : Str → Option Value} {base : Heap} {f : Addr} {fd : FuncData} (F : Fun K "_law_date" "_law_date" s_law_date f fd) (b : Binds K fd ["_law_day_here"] []) (hmg : mg "_law_date" = some (.ref f)) {adr : _root_.Fin 7 → Addr} {B0 : Addr} (Er : Errs K mg nm_ adr B0) (m_int : mg "int" = none) (m_range : mg "range" = none) (F_law_length : Fn0 P w K mg base CX0 1 "_law_length" 2 (sp_law_length K)) :
    Fn0 P w K mg base CX0 2 "_law_date" 1 (sp_law_date K) := by
  have hsl := sizeLine_eq
  refine fn_mk F sc_law_date b hmg (fun i : (Int) => b_law_date i) (fun i G vs h => ?_) (fun cdv A outer s H E day_here_ G cs vs hr hp => ?_)
  · obtain ⟨v0_, h, _⟩ := h
    rw [h]
    rfl
  obtain ⟨v0_, rfl, h0_⟩ := hp
  cases h0_
  show B _ _ _ [some (.int day_here_), none, none, none, none] G cs _ (b_law_date day_here_)
  unfold b_law_date
  refine b_setV (r := rI) 1 sc_law_date.nd (d_add d_int (d_mul d_int (d_fdiv (d_var 0 (P := rI day_here_) rfl rfl) d_int (divW (by decide) (by decide +kernel))) (.inl ⟨by omega, by omega⟩))) (fun year_1 eyear_1 v3 Gs2 s2 h4 => ?_)
  cases h4
  refine b_setV (r := rI) 0 sc_law_date.nd (d_mod (d_int1 m_int (d_var 0 (P := rI day_here_) rfl rfl)) d_int (by decide)) (fun day_here_5 eday_here_5 v7 Gs6 s6 h8 => ?_)
  cases h8
  refine b_for (f := (st_law_date_1)) (s0 := (day_here_5, year_1)) (xs := (rng 0 3)) (fun n_ (z9 : (Int × Int)) σ_ G_ cs_ => ∃ o12 : Option V, ∃ o13 : Option V, ∃ o14 : Option V, σ_ = [some (.int z9.1), some (.int z9.2), o12, o13, o14] ∧ cs = cs_) (i_rng1 m_range d_int (by omega) (by omega)) (tg_name 2 sc_law_date.nd) rfl PassesOwn.never ?_ ?_ ?_ ?_
  · intro _ s33
    exact ⟨_, _, _, rfl, rfl⟩
  · intro _ _ _ _ _ _
    trivial
  · intro pre_ x15 post_ z9 _ _ _ _ _ hxsz9 hrez9 s16 hNz9 s17 hSz9
    obtain ⟨o12, o13, o14, rfl, rfl⟩ := hNz9
    obtain ⟨v10, h11, rfl⟩ := hSz9
    have hltz9 : pre_.length < (rng 0 3).length := by rw [hxsz9, List.length_append, List.length_cons]; omega
    have hmemz9 : x15 ∈ (rng 0 3) := by rw [hxsz9]; exact List.mem_append_right _ List.mem_cons_self
    try simp only [rng_length, rng_mem, enumL_length] at hltz9 hmemz9
    show B _ _ _ _ _ _ _ (st_law_date_1 z9 x15)
    unfold st_law_date_1
    cases h11
    refine b_setV (r := rI) 3 sc_law_date.nd (d_add d_int (d_intB m_int (d_cmp op_eq (nomark _) (d_var 2 (P := rI x15) rfl rfl) d_int fun _ _ _ _ _ _ hx hy _ q => c_eqI hx hy q))) (fun size_19 esize_19 v21 Gs20 s20 h22 => ?_)
    cases h22
    refine b_ifx (t_cmp op_lt (nomark _) (d_var 0 (P := rI z9.1) rfl rfl) (d_var 3 (P := rI size_19) rfl rfl) fun _ _ _ _ _ _ hx hy _ q => c_lt hx hy q) ?_ ?_
    · intro hc23 Gs24 s24
      have dhc23 := hc23
      try simp only [decide_eq_true_eq, decide_eq_false_iff_not, Bool.and_eq_true, Bool.and_eq_false_imp, Bool.or_eq_true, Bool.or_eq_false_iff, Bool.not_eq_true', Bool.not_eq_false', Bool.not_not, ne_eq, Int.not_lt, Int.not_le] at dhc23
      exact b_break (by refine ⟨_, _, _, rfl, rfl⟩)
    · intro hc23 Gs24 s24
      have dhc23 := hc23
      try simp only [decide_eq_true_eq, decide_eq_false_iff_not, Bool.and_eq_true, Bool.and_eq_false_imp, Bool.or_eq_true, Bool.or_eq_false_iff, Bool.not_eq_true', Bool.not_eq_false', Bool.not_not, ne_eq, Int.not_lt, Int.not_le] at dhc23
      refine b_setV (r := rI) 0 sc_law_date.nd (d_sub (d_var 0 (P := rI z9.1) rfl rfl) (d_var 3 (P := rI size_19) rfl rfl)) (fun day_here_25 eday_here_25 v27 Gs26 s26 h28 => ?_)
      cases h28
      refine b_setV (r := rI) 1 sc_law_date.nd (d_add (d_var 1 (P := rI z9.2) rfl rfl) d_int) (fun year_29 eyear_29 v31 Gs30 s30 h32 => ?_)
      cases h32
      exact b_nil (by refine ⟨_, _, _, rfl, rfl⟩)
  · intro n_ z9 _ _ _ hnz9 s34 hNz9 hfz9
    obtain ⟨o12, o13, o14, rfl, rfl⟩ := hNz9
    try simp only [rng_length, enumL_length] at hnz9
    refine b_for (f := (st_law_date_2 z9)) (s0 := (z9.1)) (xs := (rng 1 13)) (fun n_ (z35 : (Int)) σ_ G_ cs_ => ∃ o38 : Option V, ∃ o39 : Option V, ∃ o40 : Option V, σ_ = [some (.int z35), some (.int z9.2), o38, o39, o40] ∧ cs = cs_) (i_rng2 m_range d_int d_int (by refine ⟨?_, ?_, ?_, ?_⟩ <;> omega)) (tg_name 4 sc_law_date.nd) rfl PassesOwn.never ?_ ?_ ?_ ?_
    · intro _ s51
      exact ⟨_, _, _, rfl, rfl⟩
    · intro _ _ _ _ _ _
      trivial
    · intro pre_ x41 post_ z35 _ _ _ _ _ hxsz35 hrez35 s42 hNz35 s43 hSz35
      obtain ⟨o38, o39, o40, rfl, rfl⟩ := hNz35
      obtain ⟨v36, h37, rfl⟩ := hSz35
      have hltz35 : pre_.length < (rng 1 13).length := by rw [hxsz35, List.length_append, List.length_cons]; omega
      have hmemz35 : x41 ∈ (rng 1 13) := by rw [hxsz35]; exact List.mem_append_right _ List.mem_cons_self
      try simp only [rng_length, rng_mem, enumL_length] at hltz35 hmemz35
      show B _ _ _ _ _ _ _ (st_law_date_2 z9 z35 x41)
      unfold st_law_date_2
      cases h37
      refine b_ifx (t_cmp op_lt (nomark _) (d_var 0 (P := rI z35) rfl rfl) (d_callQ (P := rI (m_law_length z9.2 x41)) (z9.2, x41) F_law_length hr (by decide) (a_cons (P := rI z9.2) (d_var 1 (P := rI z9.2) rfl rfl) (a_cons (P := rI x41) (d_var 4 (P := rI x41) rfl rfl) a_nil)) (fun _ _ _ h => by obtain ⟨v0, w0, rfl, h0, v1, w1, rfl, h1, rfl⟩ := h; exact ⟨v0, v1, rfl, h0, h1, (by (try dsimp only); first | assumption | omega | (refine ⟨?_, ?_⟩ <;> omega) | (refine ⟨?_, ?_, ?_⟩ <;> omega) | simp_all)⟩) fun _ _ h => h) fun _ _ _ _ _ _ hx hy _ q => c_lt hx hy q) ?_ ?_
      · intro hc45 Gs46 s46
        have dhc45 := hc45
        try simp only [decide_eq_true_eq, decide_eq_false_iff_not, Bool.and_eq_true, Bool.and_eq_false_imp, Bool.or_eq_true, Bool.or_eq_false_iff, Bool.not_eq_true', Bool.not_eq_false', Bool.not_not, ne_eq, Int.not_lt, Int.not_le] at dhc45
        exact b_ret (P := (rO (rT K (cc rI (cc rI (c0 rI))))) (some (z9.2, x41, (z35 + 1)))) (d_toO (r := (rT K (cc rI (cc rI (c0 rI))))) (d_tup (r := (cc rI (cc rI (c0 rI)))) (x := (z9.2, x41, (z35 + 1))) (a_cons (P := rI z9.2) (d_var 1 (P := rI z9.2) rfl rfl) (a_cons (P := rI x41) (d_var 4 (P := rI x41) rfl rfl) (a_cons (P := rI (z35 + 1)) (d_add (d_var 0 (P := rI z35) rfl rfl) d_int) a_nil))) (tp_c (tp_c tp_1)))) (fun _ _ _ h => ⟨⟨[], rfl⟩, h⟩)
      · intro hc45 Gs46 s46
        have dhc45 := hc45
        try simp only [decide_eq_true_eq, decide_eq_false_iff_not, Bool.and_eq_true, Bool.and_eq_false_imp, Bool.or_eq_true, Bool.or_eq_false_iff, Bool.not_eq_true', Bool.not_eq_false', Bool.not_not, ne_eq, Int.not_lt, Int.not_le] at dhc45
        refine b_setV (r := rI) 0 sc_law_date.nd (d_sub (d_var 0 (P := rI z35) rfl rfl) (d_callQ (P := rI (m_law_length z9.2 x41)) (z9.2, x41) F_law_length hr (by decide) (a_cons (P := rI z9.2) (d_var 1 (P := rI z9.2) rfl rfl) (a_cons (P := rI x41) (d_var 4 (P := rI x41) rfl rfl) a_nil)) (fun _ _ _ h => by obtain ⟨v0, w0, rfl, h0, v1, w1, rfl, h1, rfl⟩ := h; exact ⟨v0, v1, rfl, h0, h1, (by (try dsimp only); first | assumption | omega | (refine ⟨?_, ?_⟩ <;> omega) | (refine ⟨?_, ?_, ?_⟩ <;> omega) | simp_all)⟩) fun _ _ h => h)) (fun day_here_47 eday_here_47 v49 Gs48 s48 h50 => ?_)
        cases h50
        exact b_nil (by refine ⟨_, _, _, rfl, rfl⟩)
    · intro n_ z35 _ _ _ hnz35 s52 hNz35 hfz35
      obtain ⟨o38, o39, o40, rfl, rfl⟩ := hNz35
      try simp only [rng_length, enumL_length] at hnz35
      exact b_ret (P := (rO (rT K (cc rI (cc rI (c0 rI))))) none) (d_toN (r := (rT K (cc rI (cc rI (c0 rI))))) d_non) (fun _ _ _ h => ⟨⟨[], rfl⟩, h⟩)
end Ck08

namespace Ck08
open PySem L2 PyProof.Rows J
abbrev s_law_due : Stmt := PySem.Challenge.pw_corebank_k08_whole_adjust.main.body.getD 36 (.Pass ⟨0, 0, 0, 0⟩)
abbrev N_law_due : List Str := ["_law_day_here", "_law_holidays_here", "_law_how", "_law_found"]
theorem sc_law_due : FnScope ["_law_day_here", "_law_holidays_here", "_law_how", "_law_found"] ["_law_day_here", "_law_holidays_here", "_law_how"] (defScope s_law_due) := ⟨rfl, rfl, rfl, by decide +kernel, rfl, by decide +kernel, by decide +kernel⟩
theorem ok_law_due {P : Program} {w : World} {K : PySem.W.Frag} {mg : Str → Option Value} {base : Heap} {f : Addr} {fd : FuncData} (F : Fun K "_law_due" "_law_due" s_law_due f fd) (b : Binds K fd ["_law_day_here", "_law_holidays_here", "_law_how"] []) (hmg : mg "_law_due" = some (.ref f)) {adr : _root_.Fin 7 → Addr} {B0 : Addr} (Er : Errs K mg nm_ adr B0) (F_law_date : Fn0 P w K mg base CX0 2 "_law_date" 1 (sp_law_date K)) (F_law_search : Fn0 P w K mg base CX0 2 "_law_search" 3 (sp_law_search K)) :
    Fn0 P w K mg base CX0 3 "_law_due" 3 (sp_law_due K) := by
  have hsl := sizeLine_eq
  refine fn_mk F sc_law_due b hmg (fun i : (Int × (List Int) × (List Nat)) => b_law_due i.1 i.2.1 i.2.2) (fun i G vs h => ?_) (fun cdv A outer s H E i G cs vs hr hp => ?_)
  · obtain ⟨v0_, v1_, v2_, h, _⟩ := h
    rw [h]
    rfl
  obtain ⟨day_here_, holidays_here_, how_⟩ := i
  obtain ⟨v0_, v1_, v2_, rfl, h0_, h1_, h2_, hpre⟩ := hp
  cases h0_
  cases h2_
  show B _ _ _ [some (.int day_here_), some v1_, some (.str (SX.S how_)), none] G cs _ (b_law_due day_here_ holidays_here_ how_)
  unfold b_law_due
  try dsimp only at hpre
  refine b_ifx (t_cmp op_eq (nomark _) (d_var 2 (P := rS how_) rfl rfl) (d_str (l := [110, 111, 110, 101]) (by decide +kernel)) fun _ _ _ _ _ _ hx hy _ q => c_eqS hx hy q) ?_ ?_
  · intro hc1 Gs2 s2
    have dhc1 := hc1
    try simp only [decide_eq_true_eq, decide_eq_false_iff_not, Bool.and_eq_true, Bool.and_eq_false_imp, Bool.or_eq_true, Bool.or_eq_false_iff, Bool.not_eq_true', Bool.not_eq_false', Bool.not_not, ne_eq, Int.not_lt, Int.not_le] at dhc1
    exact b_ret (P := (rT K (cc rS (c0 (rL K (rSum rI rS))))) ([100, 97, 121], [(Sum.inl day_here_)])) (d_tup (r := (cc rS (c0 (rL K (rSum rI rS))))) (x := ([100, 97, 121], [(Sum.inl day_here_)])) (a_cons (P := rS [100, 97, 121]) (d_str (l := [100, 97, 121]) (by decide +kernel)) (a_cons (P := (rL K (rSum rI rS)) [(Sum.inl day_here_)]) (d_new (n_lst (r := (rSum rI rS)) (xs := [(Sum.inl day_here_)]) (a_cons (P := (rSum rI rS) (Sum.inl day_here_)) (d_inl (r := rI) (r' := rS) (d_var 0 (P := rI day_here_) rfl rfl)) a_nil) (ls_c ls_n))) a_nil)) (tp_c tp_1)) (fun _ _ _ h => ⟨⟨[], rfl⟩, h⟩)
  · intro hc1 Gs2 s2
    have dhc1 := hc1
    try simp only [decide_eq_true_eq, decide_eq_false_iff_not, Bool.and_eq_true, Bool.and_eq_false_imp, Bool.or_eq_true, Bool.or_eq_false_iff, Bool.not_eq_true', Bool.not_eq_false', Bool.not_not, ne_eq, Int.not_lt, Int.not_le] at dhc1
    refine b_setV (r := (rO rI)) 3 sc_law_due.nd (d_callQ (P := (rO rI) (m_law_search day_here_ 1 holidays_here_)) (day_here_, 1, holidays_here_) F_law_search hr (by decide) (a_cons (P := rI day_here_) (d_var 0 (P := rI day_here_) rfl rfl) (a_cons (P := rI 1) d_int (a_cons (P := (rL K rI) holidays_here_) (d_var 1 (P := (rL K rI) holidays_here_) rfl (Mono.mono s2 h1_)) a_nil))) (fun _ _ _ h => by obtain ⟨v0, w0, rfl, h0, v1, w1, rfl, h1, v2, w2, rfl, h2, rfl⟩ := h; exact ⟨v0, v1, v2, rfl, h0, h1, h2⟩) fun _ _ h => h) (fun found_3 efound_3 v5 Gs4 s4 h6 => ?_)
    have hfi : found_3.isSome = true → 0 ≤ oGet found_3 ∧ oGet found_3 ≤ 36524 := by rw [efound_3]; exact search_in
    refine b_if (S' := ((Option Int))) (fun (z9 : ((Option Int))) σ_ G_ cs_ => ∃ v10 : V, σ_ = [some (.int day_here_), some v1_, some (.str (SX.S how_)), some v10] ∧ cs = cs_ ∧ (rO rI) z9 G_ v10) (t_cmp op_eq (nomark _) (d_var 2 (P := rS how_) rfl rfl) (d_str (l := [112, 114, 101, 118, 105, 111, 117, 115]) (by decide +kernel)) fun _ _ _ _ _ _ hx hy _ q => c_eqS hx hy q) ?_ ?_ ?_
    · intro hc7 Gs8 s8
      have dhc7 := hc7
      try simp only [decide_eq_true_eq, decide_eq_false_iff_not, Bool.and_eq_true, Bool.and_eq_false_imp, Bool.or_eq_true, Bool.or_eq_false_iff, Bool.not_eq_true', Bool.not_eq_false', Bool.not_not, ne_eq, Int.not_lt, Int.not_le] at dhc7
      refine b_setV (r := (rO rI)) 3 sc_law_due.nd (d_callQ (P := (rO rI) (m_law_search day_here_ (-1) holidays_here_)) (day_here_, (-1), holidays_here_) F_law_search hr (by decide) (a_cons (P := rI day_here_) (d_var 0 (P := rI day_here_) rfl rfl) (a_cons (P := rI (-1)) (d_neg d_int) (a_cons (P := (rL K rI) holidays_here_) (d_var 1 (P := (rL K rI) holidays_here_) rfl (Mono.mono (s2.trans (s4.trans s8)) h1_)) a_nil))) (fun _ _ _ h => by obtain ⟨v0, w0, rfl, h0, v1, w1, rfl, h1, v2, w2, rfl, h2, rfl⟩ := h; exact ⟨v0, v1, v2, rfl, h0, h1, h2⟩) fun _ _ h => h) (fun found_12 efound_12 v14 Gs13 s13 h15 => ?_)
      exact b_nil (by refine ⟨_, rfl, rfl, h15⟩)
    · intro hc7 Gs8 s8
      have dhc7 := hc7
      try simp only [decide_eq_true_eq, decide_eq_false_iff_not, Bool.and_eq_true, Bool.and_eq_false_imp, Bool.or_eq_true, Bool.or_eq_false_iff, Bool.not_eq_true', Bool.not_eq_false', Bool.not_not, ne_eq, Int.not_lt, Int.not_le] at dhc7
      refine b_ifl (t_w (w_and (t_cmp op_eq (nomark _) (d_var 2 (P := rS how_) rfl rfl) (d_str (l := [109, 111, 100, 105, 102, 105, 101, 100]) (by decide +kernel)) fun _ _ _ _ _ _ hx hy _ q => c_eqS hx hy q) fun hk17 => (w_and1 (t_w (w_or (t_isN (r := rI) (d_var 3 (P := (rO rI) found_3) rfl (Mono.mono s8 h6))) fun hk16 => (w_or1 (t_neD (K := K) (r := (rT K (cc rI (c0 rI)))) hr (d_slT (r := (cc rI (cc rI (c0 rI)))) (r2 := (cc rI (c0 rI))) (x := (oGet (m_law_date (oGet found_3)))) (y := ((oGet (m_law_date (oGet found_3))).1, (oGet (m_law_date (oGet found_3))).2.1)) (n := 2) (m := 3) (d_unO (r := (rT K (cc rI (cc rI (c0 rI))))) (d_callQ (P := (rO (rT K (cc rI (cc rI (c0 rI))))) (m_law_date (oGet found_3))) ((oGet found_3)) F_law_date hr (by decide) (a_cons (P := rI (oGet found_3)) (d_unO (r := rI) (d_var 3 (P := (rO rI) found_3) rfl (Mono.mono s8 h6)) (by first | exact oS1 (by assumption) | exact oS2 (by assumption) | exact ldate_some (hfi (by first | exact oS1 (by assumption) | exact oS2 (by assumption))) | exact ldate_some hpre)) a_nil) (fun _ _ _ h => by obtain ⟨v0, w0, rfl, h0, rfl⟩ := h; exact ⟨v0, rfl, h0⟩) fun _ _ h => h) (by first | exact oS1 (by assumption) | exact oS2 (by assumption) | exact ldate_some (hfi (by first | exact oS1 (by assumption) | exact oS2 (by assumption))) | exact ldate_some hpre)) (do_some d_int) (tk_c tk_1)) (d_slT (r := (cc rI (cc rI (c0 rI)))) (r2 := (cc rI (c0 rI))) (x := (oGet (m_law_date day_here_))) (y := ((oGet (m_law_date day_here_)).1, (oGet (m_law_date day_here_)).2.1)) (n := 2) (m := 3) (d_unO (r := (rT K (cc rI (cc rI (c0 rI))))) (d_callQ (P := (rO (rT K (cc rI (cc rI (c0 rI))))) (m_law_date day_here_)) (day_here_) F_law_date hr (by decide) (a_cons (P := rI day_here_) (d_var 0 (P := rI day_here_) rfl rfl) a_nil) (fun _ _ _ h => by obtain ⟨v0, w0, rfl, h0, rfl⟩ := h; exact ⟨v0, rfl, h0⟩) fun _ _ h => h) (by first | exact oS1 (by assumption) | exact oS2 (by assumption) | exact ldate_some (hfi (by first | exact oS1 (by assumption) | exact oS2 (by assumption))) | exact ldate_some hpre)) (do_some d_int) (tk_c tk_1)) (by exact ⟨trivial, trivial⟩) (by exact ⟨trivial, trivial⟩)))))))) ?_ ?_
      · intro hc18 Gs19 s19
        have dhc18 := hc18
        try simp only [decide_eq_true_eq, decide_eq_false_iff_not, Bool.and_eq_true, Bool.and_eq_false_imp, Bool.or_eq_true, Bool.or_eq_false_iff, Bool.not_eq_true', Bool.not_eq_false', Bool.not_not, ne_eq, Int.not_lt, Int.not_le] at dhc18
        refine b_setV (r := (rO rI)) 3 sc_law_due.nd (d_callQ (P := (rO rI) (m_law_search day_here_ (-1) holidays_here_)) (day_here_, (-1), holidays_here_) F_law_search hr (by decide) (a_cons (P := rI day_here_) (d_var 0 (P := rI day_here_) rfl rfl) (a_cons (P := rI (-1)) (d_neg d_int) (a_cons (P := (rL K rI) holidays_here_) (d_var 1 (P := (rL K rI) holidays_here_) rfl (Mono.mono (s2.trans (s4.trans (s8.trans s19))) h1_)) a_nil))) (fun _ _ _ h => by obtain ⟨v0, w0, rfl, h0, v1, w1, rfl, h1, v2, w2, rfl, h2, rfl⟩ := h; exact ⟨v0, v1, v2, rfl, h0, h1, h2⟩) fun _ _ h => h) (fun found_20 efound_20 v22 Gs21 s21 h23 => ?_)
        exact b_nil (by refine ⟨_, rfl, rfl, h23⟩)
      · intro hc18 Gs19 s19
        have dhc18 := hc18
        try simp only [decide_eq_true_eq, decide_eq_false_iff_not, Bool.and_eq_true, Bool.and_eq_false_imp, Bool.or_eq_true, Bool.or_eq_false_iff, Bool.not_eq_true', Bool.not_eq_false', Bool.not_not, ne_eq, Int.not_lt, Int.not_le] at dhc18
        exact b_nil (by refine ⟨_, rfl, rfl, (Mono.mono (s8.trans s19) h6)⟩)
    · intro z9 _ _ _ sz9 hNz9 hmz9
      obtain ⟨v10, rfl, rfl, h11⟩ := hNz9
      refine b_ifx (t_isN (r := rI) (d_var 3 (P := (rO rI) z9) rfl h11)) ?_ ?_
      · intro hc24 Gs25 s25
        have dhc24 := hc24
        try simp only [decide_eq_true_eq, decide_eq_false_iff_not, Bool.and_eq_true, Bool.and_eq_false_imp, Bool.or_eq_true, Bool.or_eq_false_iff, Bool.not_eq_true', Bool.not_eq_false', Bool.not_not, ne_eq, Int.not_lt, Int.not_le] at dhc24
        exact b_ret (P := (rT K (cc rS (c0 (rL K (rSum rI rS))))) ([114, 97, 105, 115, 101, 100], [(Sum.inr [66, 97, 100, 68, 97, 121])])) (d_tup (r := (cc rS (c0 (rL K (rSum rI rS))))) (x := ([114, 97, 105, 115, 101, 100], [(Sum.inr [66, 97, 100, 68, 97, 121])])) (a_cons (P := rS [114, 97, 105, 115, 101, 100]) (d_str (l := [114, 97, 105, 115, 101, 100]) (by decide +kernel)) (a_cons (P := (rL K (rSum rI rS)) [(Sum.inr [66, 97, 100, 68, 97, 121])]) (d_new (n_lst (r := (rSum rI rS)) (xs := [(Sum.inr [66, 97, 100, 68, 97, 121])]) (a_cons (P := (rSum rI rS) (Sum.inr [66, 97, 100, 68, 97, 121])) (d_inr (r := rI) (r' := rS) (d_str (l := [66, 97, 100, 68, 97, 121]) (by decide +kernel))) a_nil) (ls_c ls_n))) a_nil)) (tp_c tp_1)) (fun _ _ _ h => ⟨⟨[], rfl⟩, h⟩)
      · intro hc24 Gs25 s25
        have dhc24 := hc24
        try simp only [decide_eq_true_eq, decide_eq_false_iff_not, Bool.and_eq_true, Bool.and_eq_false_imp, Bool.or_eq_true, Bool.or_eq_false_iff, Bool.not_eq_true', Bool.not_eq_false', Bool.not_not, ne_eq, Int.not_lt, Int.not_le] at dhc24
        exact b_ret (P := (rT K (cc rS (c0 (rL K (rSum rI rS))))) ([100, 97, 121], [(Sum.inl (oGet z9))])) (d_tup (r := (cc rS (c0 (rL K (rSum rI rS))))) (x := ([100, 97, 121], [(Sum.inl (oGet z9))])) (a_cons (P := rS [100, 97, 121]) (d_str (l := [100, 97, 121]) (by decide +kernel)) (a_cons (P := (rL K (rSum rI rS)) [(Sum.inl (oGet z9))]) (d_new (n_lst (r := (rSum rI rS)) (xs := [(Sum.inl (oGet z9))]) (a_cons (P := (rSum rI rS) (Sum.inl (oGet z9))) (d_inl (r := rI) (r' := rS) (d_unO (r := rI) (d_var 3 (P := (rO rI) z9) rfl (Mono.mono s25 h11)) (by first | exact oS1 (by assumption) | exact oS2 (by assumption) | exact ldate_some (hfi (by first | exact oS1 (by assumption) | exact oS2 (by assumption))) | exact ldate_some hpre))) a_nil) (ls_c ls_n))) a_nil)) (tp_c tp_1)) (fun _ _ _ h => ⟨⟨[], rfl⟩, h⟩)
end Ck08

namespace Ck08
open PySem L2 PyProof.Rows J
abbrev s_law : Stmt := PySem.Challenge.pw_corebank_k08_whole_adjust.main.body.getD 39 (.Pass ⟨0, 0, 0, 0⟩)
abbrev N_law : List Str := ["_law_script", "_law_hows", "_law_cell", "_law_numbers_here", "_law_day_here", "_law_holidays_here", "_law_how", "_law_word", "_law_k", "_law_at", "_law_wrong", "_law_out"]
theorem sc_law : FnScope ["_law_script", "_law_hows", "_law_cell", "_law_numbers_here", "_law_day_here", "_law_holidays_here", "_law_how", "_law_word", "_law_k", "_law_at", "_law_wrong", "_law_out"] ["_law_script"] (defScope s_law) := ⟨rfl, rfl, rfl, by decide +kernel, rfl, by decide +kernel, by decide +kernel⟩
theorem ok_law {P : Program} {w : World} {K : PySem.W.Frag} {mg : Str → Option Value} {base : Heap} {f : Addr} {fd : FuncData} (F : Fun K "law" "law" s_law f fd) (b : Binds K fd ["_law_script"] []) (hmg : mg "law" = some (.ref f)) {adr : _root_.Fin 7 → Addr} {B0 : Addr} (Er : Errs K mg nm_ adr B0) (m_len : mg "len" = none) (m_range : mg "range" = none) (F_law_day : Fn0 P w K mg base CX0 1 "_law_day" 1 (sp_law_day K)) (F_law_due : Fn0 P w K mg base CX0 3 "_law_due" 3 (sp_law_due K)) (F_law_holidays : Fn0 P w K mg base CX0 1 "_law_holidays" 2 (sp_law_holidays K)) (F_law_numbers : Fn0 P w K mg base CX0 1 "_law_numbers" 2 (sp_law_numbers K)) (F_law_tells_working : Fn0 P w K mg base CX0 5 "_law_tells_working" 2 (sp_law_tells_working K)) (F_law_told : Fn0 P w K mg base CX0 8 "_law_told" 3 (sp_law_told K)) :
    FnOk P w K mg base CX0 9 f fd ["_law_script"] (sp_law K) := by
  have hsl := sizeLine_eq
  refine fn_ok F sc_law (fun i : ((List Int)) => b_law i) (fun i G vs h => ?_) (fun cdv A outer s H E script_ G cs vs hr hp => ?_)
  · obtain ⟨v0_, h, _⟩ := h
    rw [h]
    rfl
  obtain ⟨v0_, rfl, h0_, hpre⟩ := hp
  show B _ _ _ [some v0_, none, none, none, none, none, none, none, none, none, none, none] G cs _ (b_law script_)
  unfold b_law
  try dsimp only at hpre
  refine b_setV (r := (rL K rS)) 1 sc_law.nd (d_new (n_lst (r := rS) (xs := [[110, 111, 110, 101], [110, 101, 120, 116], [112, 114, 101, 118, 105, 111, 117, 115], [109, 111, 100, 105, 102, 105, 101, 100]]) (a_cons (P := rS [110, 111, 110, 101]) (d_str (l := [110, 111, 110, 101]) (by decide +kernel)) (a_cons (P := rS [110, 101, 120, 116]) (d_str (l := [110, 101, 120, 116]) (by decide +kernel)) (a_cons (P := rS [112, 114, 101, 118, 105, 111, 117, 115]) (d_str (l := [112, 114, 101, 118, 105, 111, 117, 115]) (by decide +kernel)) (a_cons (P := rS [109, 111, 100, 105, 102, 105, 101, 100]) (d_str (l := [109, 111, 100, 105, 102, 105, 101, 100]) (by decide +kernel)) a_nil)))) (ls_c (ls_c (ls_c (ls_c ls_n)))))) (fun hows_1 ehows_1 v3 Gs2 s2 h4 => ?_)
  have hlh : hows_1.length = 4 := by rw [ehows_1]; rfl
  refine b_for (f := (st_law_1 hows_1)) (s0 := ()) (xs := ([6] ++ script_)) (fun n_ (z5 : Unit) σ_ G_ cs_ => ∃ o8 : Option V, ∃ o9 : Option V, ∃ o10 : Option V, ∃ o11 : Option V, ∃ o12 : Option V, ∃ o13 : Option V, ∃ o14 : Option V, ∃ o15 : Option V, ∃ o16 : Option V, ∃ o17 : Option V, σ_ = [some v0_, some v3, o8, o9, o10, o11, o12, o13, o14, o15, o16, o17] ∧ cs = cs_) (i_listF (r := rI) (d_new (n_cat (r := rI) (D.imp (P := (rL K rI) [6]) (d_new (n_lst (r := rI) (xs := [6]) (a_cons (P := rI 6) d_int a_nil) (ls_c ls_n))) fun _ _ => rdL_of) (D.imp (P := (rL K rI) script_) (d_var 0 (P := (rL K rI) script_) rfl (Mono.mono s2 h0_)) fun _ _ => rdL_of) (by first | omega | (simp; done) | (simp; omega))))) (tg_name 2 sc_law.nd) rfl PassesOwn.never ?_ ?_ ?_ ?_
  · intro _ s125
    exact ⟨_, _, _, _, _, _, _, _, _, _, rfl, rfl⟩
  · intro _ _ _ _ _ _
    trivial
  · intro pre_ x18 post_ z5 _ _ _ _ _ hxsz5 hrez5 s19 hNz5 s20 hSz5
    obtain ⟨o8, o9, o10, o11, o12, o13, o14, o15, o16, o17, rfl, rfl⟩ := hNz5
    obtain ⟨v6, h7, rfl⟩ := hSz5
    have hltz5 : pre_.length < ([6] ++ script_).length := by rw [hxsz5, List.length_append, List.length_cons]; omega
    have hmemz5 : x18 ∈ ([6] ++ script_) := by rw [hxsz5]; exact List.mem_append_right _ List.mem_cons_self
    try simp only [rng_length, rng_mem, enumL_length] at hltz5 hmemz5
    show B _ _ _ _ _ _ _ (st_law_1 hows_1 z5 x18)
    unfold st_law_1
    cases h7
    refine b_setV (r := (rL K rI)) 3 sc_law.nd (d_callQ (P := (rL K rI) (m_law_numbers x18 32)) (x18, 32) F_law_numbers hr (by decide) (a_cons (P := rI x18) (d_var 2 (P := rI x18) rfl rfl) (a_cons (P := rI 32) d_int a_nil)) (fun _ _ _ h => by obtain ⟨v0, w0, rfl, h0, v1, w1, rfl, h1, rfl⟩ := h; exact ⟨v0, v1, rfl, h0, h1, (by (try dsimp only); first | assumption | omega | (refine ⟨?_, ?_⟩ <;> omega) | (refine ⟨?_, ?_, ?_⟩ <;> omega) | simp_all)⟩) fun _ _ h => h) (fun numbers_here_22 enumbers_here_22 v24 Gs23 s23 h25 => ?_)
    have hN : J.Nums 32 numbers_here_22 := by rw [enumbers_here_22]; exact J.nums _ 32
    have hlen := hN.len
    have hn0 := hN.bd 0
    have hn2 := hN.bd 2
    refine b_setV (r := rI) 4 sc_law.nd (d_callQ (P := rI (m_law_day numbers_here_22)) (numbers_here_22) F_law_day hr (by decide) (a_cons (P := (rL K rI) numbers_here_22) (d_var 3 (P := (rL K rI) numbers_here_22) rfl h25) a_nil) (fun _ _ _ h => by obtain ⟨v0, w0, rfl, h0, rfl⟩ := h; exact ⟨v0, rfl, h0, (by (try dsimp only); first | assumption | omega | (refine ⟨?_, ?_⟩ <;> omega) | (refine ⟨?_, ?_, ?_⟩ <;> omega) | simp_all)⟩) fun _ _ h => h) (fun day_here_26 eday_here_26 v28 Gs27 s27 h29 => ?_)
    cases h29
    have hd : 0 ≤ day_here_26 ∧ day_here_26 ≤ 36524 := by rw [eday_here_26]; exact day_in hN
    refine b_setV (r := (rL K rI)) 5 sc_law.nd (d_callQ (P := (rL K rI) (m_law_holidays numbers_here_22 day_here_26)) (numbers_here_22, day_here_26) F_law_holidays hr (by decide) (a_cons (P := (rL K rI) numbers_here_22) (d_var 3 (P := (rL K rI) numbers_here_22) rfl (Mono.mono s27 h25)) (a_cons (P := rI day_here_26) (d_var 4 (P := rI day_here_26) rfl rfl) a_nil)) (fun _ _ _ h => by obtain ⟨v0, w0, rfl, h0, v1, w1, rfl, h1, rfl⟩ := h; exact ⟨v0, v1, rfl, h0, h1, (by (try dsimp only); first | assumption | omega | (refine ⟨?_, ?_⟩ <;> omega) | (refine ⟨?_, ?_, ?_⟩ <;> omega) | simp_all)⟩) fun _ _ h => h) (fun holidays_here_30 eholidays_here_30 v32 Gs31 s31 h33 => ?_)
    refine b_ifx (t_not (t_val (d_callQ (P := rB (m_law_tells_working day_here_26 holidays_here_30)) (day_here_26, holidays_here_30) F_law_tells_working hr (by decide) (a_cons (P := rI day_here_26) (d_var 4 (P := rI day_here_26) rfl rfl) (a_cons (P := (rL K rI) holidays_here_30) (d_var 5 (P := (rL K rI) holidays_here_30) rfl h33) a_nil)) (fun _ _ _ h => by obtain ⟨v0, w0, rfl, h0, v1, w1, rfl, h1, rfl⟩ := h; exact ⟨v0, v1, rfl, h0, h1, (by (try dsimp only); first | assumption | omega | (refine ⟨?_, ?_⟩ <;> omega) | (refine ⟨?_, ?_, ?_⟩ <;> omega) | simp_all)⟩) fun _ _ h => h))) ?_ ?_
    · intro hc34 Gs35 s35
      have dhc34 := hc34
      try simp only [decide_eq_true_eq, decide_eq_false_iff_not, Bool.and_eq_true, Bool.and_eq_false_imp, Bool.or_eq_true, Bool.or_eq_false_iff, Bool.not_eq_true', Bool.not_eq_false', Bool.not_not, ne_eq, Int.not_lt, Int.not_le] at dhc34
      exact b_ret (P := rB false) d_bl (fun _ _ _ h => ⟨⟨[], rfl⟩, h⟩)
    · intro hc34 Gs35 s35
      have dhc34 := hc34
      try simp only [decide_eq_true_eq, decide_eq_false_iff_not, Bool.and_eq_true, Bool.and_eq_false_imp, Bool.or_eq_true, Bool.or_eq_false_iff, Bool.not_eq_true', Bool.not_eq_false', Bool.not_not, ne_eq, Int.not_lt, Int.not_le] at dhc34
      refine b_for (f := (st_law_2 day_here_26 holidays_here_30)) (s0 := ()) (xs := hows_1) (fun n_ (z36 : Unit) σ_ G_ cs_ => ∃ o39 : Option V, ∃ o40 : Option V, ∃ o41 : Option V, ∃ o42 : Option V, ∃ o43 : Option V, ∃ o44 : Option V, σ_ = [some v0_, some v3, some (.int x18), some v24, some (.int day_here_26), some v32, o39, o40, o41, o42, o43, o44] ∧ cs = cs_) (i_listF (r := rS) (d_var 1 (P := (rL K rS) hows_1) rfl (Mono.mono (s19.trans (s20.trans (s23.trans (s27.trans (s31.trans s35))))) h4))) (tg_name 6 sc_law.nd) rfl PassesOwn.never ?_ ?_ ?_ ?_
      · intro _ s51
        exact ⟨_, _, _, _, _, _, rfl, rfl⟩
      · intro _ _ _ _ _ _
        trivial
      · intro pre_ x45 post_ z36 _ _ _ _ _ hxsz36 hrez36 s46 hNz36 s47 hSz36
        obtain ⟨o39, o40, o41, o42, o43, o44, rfl, rfl⟩ := hNz36
        obtain ⟨v37, h38, rfl⟩ := hSz36
        have hltz36 : pre_.length < hows_1.length := by rw [hxsz36, List.length_append, List.length_cons]; omega
        have hmemz36 : x45 ∈ hows_1 := by rw [hxsz36]; exact List.mem_append_right _ List.mem_cons_self
        try simp only [rng_length, rng_mem, enumL_length] at hltz36 hmemz36
        show B _ _ _ _ _ _ _ (st_law_2 day_here_26 holidays_here_30 z36 x45)
        unfold st_law_2
        cases h38
        refine b_ifx (t_neD (K := K) (r := (rT K (cc rS (c0 (rL K (rSum rI rS)))))) hr (d_callQ (P := (rT K (cc rS (c0 (rL K (rSum rI rS))))) (m_law_told day_here_26 holidays_here_30 x45)) (day_here_26, holidays_here_30, x45) F_law_told hr (by decide) (a_cons (P := rI day_here_26) (d_var 4 (P := rI day_here_26) rfl rfl) (a_cons (P := (rL K rI) holidays_here_30) (d_var 5 (P := (rL K rI) holidays_here_30) rfl (Mono.mono (s35.trans (s46.trans s47)) h33)) (a_cons (P := rS x45) (d_var 6 (P := rS x45) rfl rfl) a_nil))) (fun _ _ _ h => by obtain ⟨v0, w0, rfl, h0, v1, w1, rfl, h1, v2, w2, rfl, h2, rfl⟩ := h; exact ⟨v0, v1, v2, rfl, h0, h1, h2⟩) fun _ _ h => h) (d_callQ (P := (rT K (cc rS (c0 (rL K (rSum rI rS))))) (m_law_due day_here_26 holidays_here_30 x45)) (day_here_26, holidays_here_30, x45) F_law_due hr (by decide) (a_cons (P := rI day_here_26) (d_var 4 (P := rI day_here_26) rfl rfl) (a_cons (P := (rL K rI) holidays_here_30) (d_var 5 (P := (rL K rI) holidays_here_30) rfl (Mono.mono (s35.trans (s46.trans s47)) h33)) (a_cons (P := rS x45) (d_var 6 (P := rS x45) rfl rfl) a_nil))) (fun _ _ _ h => by obtain ⟨v0, w0, rfl, h0, v1, w1, rfl, h1, v2, w2, rfl, h2, rfl⟩ := h; exact ⟨v0, v1, v2, rfl, h0, h1, h2, (by (try dsimp only); first | assumption | omega | (refine ⟨?_, ?_⟩ <;> omega) | (refine ⟨?_, ?_, ?_⟩ <;> omega) | simp_all)⟩) fun _ _ h => h) (by first | exact ok_told _ _ _ | exact ok_due _ _ _ | simp [EqR.ok, EqT.ok]) (by first | exact ok_told _ _ _ | exact ok_due _ _ _ | simp [EqR.ok, EqT.ok])) ?_ ?_
        · intro hc49 Gs50 s50
          have dhc49 := hc49
          try simp only [decide_eq_true_eq, decide_eq_false_iff_not, Bool.and_eq_true, Bool.and_eq_false_imp, Bool.or_eq_true, Bool.or_eq_false_iff, Bool.not_eq_true', Bool.not_eq_false', Bool.not_not, ne_eq, Int.not_lt, Int.not_le] at dhc49
          exact b_ret (P := rB false) d_bl (fun _ _ _ h => ⟨⟨[], rfl⟩, h⟩)
        · intro hc49 Gs50 s50
          have dhc49 := hc49
          try simp only [decide_eq_true_eq, decide_eq_false_iff_not, Bool.and_eq_true, Bool.and_eq_false_imp, Bool.or_eq_true, Bool.or_eq_false_iff, Bool.not_eq_true', Bool.not_eq_false', Bool.not_not, ne_eq, Int.not_lt, Int.not_le] at dhc49
          exact b_nil (by refine ⟨_, _, _, _, _, _, rfl, rfl⟩)
      · intro n_ z36 _ _ _ hnz36 s52 hNz36 hfz36
        obtain ⟨o39, o40, o41, o42, o43, o44, rfl, rfl⟩ := hNz36
        try simp only [rng_length, enumL_length] at hnz36
        refine b_setV (r := rS) 7 sc_law.nd (d_str (l := []) (by decide +kernel)) (fun word_53 eword_53 v55 Gs54 s54 h56 => ?_)
        cases h56
        refine b_for (f := (st_law_3 numbers_here_22)) (s0 := (word_53)) (xs := (rng 0 ((ixg numbers_here_22 6) % 10))) (fun n_ (z57 : ((List Nat))) σ_ G_ cs_ => ∃ o60 : Option V, ∃ o61 : Option V, ∃ o62 : Option V, ∃ o63 : Option V, ∃ o64 : Option V, σ_ = [some v0_, some v3, some (.int x18), some v24, some (.int day_here_26), some v32, o60, some (.str (SX.S z57)), o61, o62, o63, o64] ∧ cs = cs_ ∧ (z57.length ≤ n_)) (i_rng1 m_range (d_mod (d_ixL (r := rI) (xs := numbers_here_22) (i := 6) (x := (ixg numbers_here_22 6)) (D.imp (P := (rL K rI) numbers_here_22) (d_var 3 (P := (rL K rI) numbers_here_22) rfl (Mono.mono (s27.trans (s31.trans (s35.trans (s52.trans s54)))) h25)) fun _ _ => rdL_of) d_int (atI_ixg (by first | (constructor <;> omega) | (simp only [List.length_cons, List.length_nil]; constructor <;> omega) | exact ix_mod (by omega) | (simp only [decide_eq_true_eq, decide_eq_false_iff_not] at *; constructor <;> omega)))) d_int (by decide)) (by omega) (by omega)) (tg_name 8 sc_law.nd) rfl PassesOwn.never ?_ ?_ ?_ ?_
        · intro _ s73
          exact ⟨_, _, _, _, _, rfl, rfl, by simp_all⟩
        · intro _ _ _ _ _ _
          trivial
        · intro pre_ x65 post_ z57 _ _ _ _ _ hxsz57 hrez57 s66 hNz57 s67 hSz57
          obtain ⟨o60, o61, o62, o63, o64, rfl, rfl, hbz57⟩ := hNz57
          obtain ⟨v58, h59, rfl⟩ := hSz57
          have hltz57 : pre_.length < (rng 0 ((ixg numbers_here_22 6) % 10)).length := by rw [hxsz57, List.length_append, List.length_cons]; omega
          have hmemz57 : x65 ∈ (rng 0 ((ixg numbers_here_22 6) % 10)) := by rw [hxsz57]; exact List.mem_append_right _ List.mem_cons_self
          try simp only [rng_length, rng_mem, enumL_length] at hltz57 hmemz57
          show B _ _ _ _ _ _ _ (st_law_3 numbers_here_22 z57 x65)
          unfold st_law_3
          cases h59
          refine b_setV (r := rS) 7 sc_law.nd (d_cat (d_var 7 (P := rS z57) rfl rfl) (d_ixS (d_str (l := [97, 98, 99, 100, 101, 102, 103, 104, 105, 106, 107, 108, 109, 110, 111, 112, 113, 114, 115, 116, 117, 118, 119, 120, 121, 122]) (by decide +kernel)) (d_mod (d_ixL (r := rI) (xs := numbers_here_22) (i := (22 + x65)) (x := (ixg numbers_here_22 (22 + x65))) (D.imp (P := (rL K rI) numbers_here_22) (d_var 3 (P := (rL K rI) numbers_here_22) rfl (Mono.mono (s27.trans (s31.trans (s35.trans (s52.trans (s54.trans (s66.trans s67)))))) h25)) fun _ _ => rdL_of) (d_add d_int (d_var 8 (P := rI x65) rfl rfl)) (atI_ixg (by first | (constructor <;> omega) | (simp only [List.length_cons, List.length_nil]; constructor <;> omega) | exact ix_mod (by omega) | (simp only [decide_eq_true_eq, decide_eq_false_iff_not] at *; constructor <;> omega)))) d_int (by decide)) (by first | omega | (simp; done) | (simp; omega)) (atI_ixg (by first | (constructor <;> omega) | (simp only [List.length_cons, List.length_nil]; constructor <;> omega) | exact ix_mod (by omega) | (simp only [decide_eq_true_eq, decide_eq_false_iff_not] at *; constructor <;> omega)))) (by simp only [List.length_cons, List.length_nil]; omega)) (fun word_69 eword_69 v71 Gs70 s70 h72 => ?_)
          cases h72
          exact b_nil (by refine ⟨_, _, _, _, _, rfl, rfl, by simp_all <;> omega⟩)
        · intro n_ z57 _ _ _ hnz57 s74 hNz57 hfz57
          obtain ⟨o60, o61, o62, o63, o64, rfl, rfl, hbz57⟩ := hNz57
          try simp only [rng_length, enumL_length] at hnz57
          refine b_setV (r := rS) 6 sc_law.nd (d_ixL (r := rS) (xs := hows_1) (i := ((ixg numbers_here_22 8) % 4)) (x := (ixg hows_1 ((ixg numbers_here_22 8) % 4))) (D.imp (P := (rL K rS) hows_1) (d_var 1 (P := (rL K rS) hows_1) rfl (Mono.mono (s19.trans (s20.trans (s23.trans (s27.trans (s31.trans (s35.trans (s52.trans (s54.trans s74)))))))) h4)) fun _ _ => rdL_of) (d_mod (d_ixL (r := rI) (xs := numbers_here_22) (i := 8) (x := (ixg numbers_here_22 8)) (D.imp (P := (rL K rI) numbers_here_22) (d_var 3 (P := (rL K rI) numbers_here_22) rfl (Mono.mono (s27.trans (s31.trans (s35.trans (s52.trans (s54.trans s74))))) h25)) fun _ _ => rdL_of) d_int (atI_ixg (by first | (constructor <;> omega) | (simp only [List.length_cons, List.length_nil]; constructor <;> omega) | exact ix_mod (by omega) | (simp only [decide_eq_true_eq, decide_eq_false_iff_not] at *; constructor <;> omega)))) d_int (by decide)) (atI_ixg (by first | (constructor <;> omega) | (simp only [List.length_cons, List.length_nil]; constructor <;> omega) | exact ix_mod (by omega) | (simp only [decide_eq_true_eq, decide_eq_false_iff_not] at *; constructor <;> omega)))) (fun how_75 ehow_75 v77 Gs76 s76 h78 => ?_)
          cases h78
          have hhm : how_75 ∈ hows_1 := by rw [ehow_75]; exact ixg_mem (by omega) (by omega)
          have hhw := hows_is _ (by rw [← ehows_1]; exact hhm)
          refine b_setV (r := rI) 9 sc_law.nd (d_mod (d_fdiv (d_ixL (r := rI) (xs := numbers_here_22) (i := 9) (x := (ixg numbers_here_22 9)) (D.imp (P := (rL K rI) numbers_here_22) (d_var 3 (P := (rL K rI) numbers_here_22) rfl (Mono.mono (s27.trans (s31.trans (s35.trans (s52.trans (s54.trans (s74.trans s76)))))) h25)) fun _ _ => rdL_of) d_int (atI_ixg (by first | (constructor <;> omega) | (simp only [List.length_cons, List.length_nil]; constructor <;> omega) | exact ix_mod (by omega) | (simp only [decide_eq_true_eq, decide_eq_false_iff_not] at *; constructor <;> omega)))) d_int (divW (by decide) (by decide +kernel))) (d_lenS m_len (d_var 6 (P := rS how_75) rfl rfl) (by first | omega | (simp; done) | (simp; omega))) (by omega)) (fun at_79 eat_79 v81 Gs80 s80 h82 => ?_)
          cases h82
          have ha0 := Int.emod_nonneg (ixg numbers_here_22 9 / 8) (show (how_75.length : Int) ≠ 0 by omega)
          have ha1 := Int.emod_lt_of_pos (ixg numbers_here_22 9 / 8) (show 0 < (how_75.length : Int) by omega)
          rw [← eat_79] at ha0 ha1
          refine b_for (f := (st_law_4 hows_1 day_here_26 holidays_here_30)) (s0 := ()) (xs := [z57, (((cutL how_75 none (some at_79)) ++ ([(ixg how_75 at_79)].map PyProof.Rows.up1)) ++ (cutL how_75 (some (at_79 + 1)) none)), (how_75 ++ [32]), ([32] ++ how_75)]) (fun n_ (z83 : Unit) σ_ G_ cs_ => ∃ o86 : Option V, ∃ o87 : Option V, ∃ o88 : Option V, σ_ = [some v0_, some v3, some (.int x18), some v24, some (.int day_here_26), some v32, some (.str (SX.S how_75)), some (.str (SX.S z57)), o86, some (.int at_79), o87, o88] ∧ cs = cs_) (i_listF (r := rS) (d_new (n_lst (r := rS) (xs := [z57, (((cutL how_75 none (some at_79)) ++ ([(ixg how_75 at_79)].map PyProof.Rows.up1)) ++ (cutL how_75 (some (at_79 + 1)) none)), (how_75 ++ [32]), ([32] ++ how_75)]) (a_cons (P := rS z57) (d_var 7 (P := rS z57) rfl rfl) (a_cons (P := rS (((cutL how_75 none (some at_79)) ++ ([(ixg how_75 at_79)].map PyProof.Rows.up1)) ++ (cutL how_75 (some (at_79 + 1)) none))) (d_cat (d_cat (d_slS (d_var 6 (P := rS how_75) rfl rfl) do_none (do_some (d_var 9 (P := rI at_79) rfl rfl)) (by first | omega | (simp; done) | (simp; omega))) (d_upper (d_ixS (d_var 6 (P := rS how_75) rfl rfl) (d_var 9 (P := rI at_79) rfl rfl) (by first | omega | (simp; done) | (simp; omega)) (atI_ixg (by first | (constructor <;> omega) | (simp only [List.length_cons, List.length_nil]; constructor <;> omega) | exact ix_mod (by omega) | (simp only [decide_eq_true_eq, decide_eq_false_iff_not] at *; constructor <;> omega)))) (by exact (ascii_at hhw.2.2 ha0 ha1)) (by first | omega | (simp; done) | (simp; omega))) (by (try simp only [List.length_append, List.length_cons, List.length_nil, List.length_map]); (try have q1 := cutL_le how_75 none (some (how_75.length : Int))); (try have q2 := cutL_le how_75 none (some at_79)); (try have q3 := cutL_le how_75 (some (at_79 + 1)) none); omega)) (d_slS (d_var 6 (P := rS how_75) rfl rfl) (do_some (d_add (d_var 9 (P := rI at_79) rfl rfl) d_int)) do_none (by first | omega | (simp; done) | (simp; omega))) (by (try simp only [List.length_append, List.length_cons, List.length_nil, List.length_map]); (try have q1 := cutL_le how_75 none (some (how_75.length : Int))); (try have q2 := cutL_le how_75 none (some at_79)); (try have q3 := cutL_le how_75 (some (at_79 + 1)) none); omega)) (a_cons (P := rS (how_75 ++ [32])) (d_cat (d_var 6 (P := rS how_75) rfl rfl) (d_str (l := [32]) (by decide +kernel)) (by (try simp only [List.length_append, List.length_cons, List.length_nil, List.length_map]); (try have q1 := cutL_le how_75 none (some (how_75.length : Int))); (try have q2 := cutL_le how_75 none (some at_79)); (try have q3 := cutL_le how_75 (some (at_79 + 1)) none); omega)) (a_cons (P := rS ([32] ++ how_75)) (d_cat (d_str (l := [32]) (by decide +kernel)) (d_var 6 (P := rS how_75) rfl rfl) (by (try simp only [List.length_append, List.length_cons, List.length_nil, List.length_map]); (try have q1 := cutL_le how_75 none (some (how_75.length : Int))); (try have q2 := cutL_le how_75 none (some at_79)); (try have q3 := cutL_le how_75 (some (at_79 + 1)) none); omega)) a_nil)))) (ls_c (ls_c (ls_c (ls_c ls_n))))))) (tg_name 10 sc_law.nd) rfl PassesOwn.never ?_ ?_ ?_ ?_
          · intro _ s96
            exact ⟨_, _, _, rfl, rfl⟩
          · intro _ _ _ _ _ _
            trivial
          · intro pre_ x89 post_ z83 _ _ _ _ _ hxsz83 hrez83 s90 hNz83 s91 hSz83
            obtain ⟨o86, o87, o88, rfl, rfl⟩ := hNz83
            obtain ⟨v84, h85, rfl⟩ := hSz83
            have hltz83 : pre_.length < [z57, (((cutL how_75 none (some at_79)) ++ ([(ixg how_75 at_79)].map PyProof.Rows.up1)) ++ (cutL how_75 (some (at_79 + 1)) none)), (how_75 ++ [32]), ([32] ++ how_75)].length := by rw [hxsz83, List.length_append, List.length_cons]; omega
            have hmemz83 : x89 ∈ [z57, (((cutL how_75 none (some at_79)) ++ ([(ixg how_75 at_79)].map PyProof.Rows.up1)) ++ (cutL how_75 (some (at_79 + 1)) none)), (how_75 ++ [32]), ([32] ++ how_75)] := by rw [hxsz83]; exact List.mem_append_right _ List.mem_cons_self
            try simp only [rng_length, rng_mem, enumL_length] at hltz83 hmemz83
            show B _ _ _ _ _ _ _ (st_law_4 hows_1 day_here_26 holidays_here_30 z83 x89)
            unfold st_law_4
            cases h85
            refine b_ifx (t_w (w_and (t_nin (r := rS) (d_var 10 (P := rS x89) rfl rfl) (D.imp (P := rdL K _ rS hows_1) (D.imp (P := (rL K rS) hows_1) (d_var 1 (P := (rL K rS) hows_1) rfl (Mono.mono (s19.trans (s20.trans (s23.trans (s27.trans (s31.trans (s35.trans (s52.trans (s54.trans (s74.trans (s76.trans (s80.trans (s90.trans s91)))))))))))) h4)) fun _ _ => rdL_of) fun _ _ => rRow_l)) fun hk93 => (w_and1 (t_neD (K := K) (r := (rT K (cc rS (c0 (rL K (rSum rI rS)))))) hr (d_callQ (P := (rT K (cc rS (c0 (rL K (rSum rI rS))))) (m_law_told day_here_26 holidays_here_30 x89)) (day_here_26, holidays_here_30, x89) F_law_told hr (by decide) (a_cons (P := rI day_here_26) (d_var 4 (P := rI day_here_26) rfl rfl) (a_cons (P := (rL K rI) holidays_here_30) (d_var 5 (P := (rL K rI) holidays_here_30) rfl (Mono.mono (s35.trans (s52.trans (s54.trans (s74.trans (s76.trans (s80.trans (s90.trans s91))))))) h33)) (a_cons (P := rS x89) (d_var 10 (P := rS x89) rfl rfl) a_nil))) (fun _ _ _ h => by obtain ⟨v0, w0, rfl, h0, v1, w1, rfl, h1, v2, w2, rfl, h2, rfl⟩ := h; exact ⟨v0, v1, v2, rfl, h0, h1, h2⟩) fun _ _ h => h) (d_tup (r := (cc rS (c0 (rL K (rSum rI rS))))) (x := ([114, 97, 105, 115, 101, 100], [(Sum.inr [66, 97, 100, 86, 97, 108, 117, 101])])) (a_cons (P := rS [114, 97, 105, 115, 101, 100]) (d_str (l := [114, 97, 105, 115, 101, 100]) (by decide +kernel)) (a_cons (P := (rL K (rSum rI rS)) [(Sum.inr [66, 97, 100, 86, 97, 108, 117, 101])]) (d_new (n_lst (r := (rSum rI rS)) (xs := [(Sum.inr [66, 97, 100, 86, 97, 108, 117, 101])]) (a_cons (P := (rSum rI rS) (Sum.inr [66, 97, 100, 86, 97, 108, 117, 101])) (d_inr (r := rI) (r' := rS) (d_str (l := [66, 97, 100, 86, 97, 108, 117, 101]) (by decide +kernel))) a_nil) (ls_c ls_n))) a_nil)) (tp_c tp_1)) (by first | exact ok_told _ _ _ | exact ok_due _ _ _ | simp [EqR.ok, EqT.ok]) (by simp [EqR.ok, EqT.ok]))))) ?_ ?_
            · intro hc94 Gs95 s95
              have dhc94 := hc94
              try simp only [decide_eq_true_eq, decide_eq_false_iff_not, Bool.and_eq_true, Bool.and_eq_false_imp, Bool.or_eq_true, Bool.or_eq_false_iff, Bool.not_eq_true', Bool.not_eq_false', Bool.not_not, ne_eq, Int.not_lt, Int.not_le] at dhc94
              exact b_ret (P := rB false) d_bl (fun _ _ _ h => ⟨⟨[], rfl⟩, h⟩)
            · intro hc94 Gs95 s95
              have dhc94 := hc94
              try simp only [decide_eq_true_eq, decide_eq_false_iff_not, Bool.and_eq_true, Bool.and_eq_false_imp, Bool.or_eq_true, Bool.or_eq_false_iff, Bool.not_eq_true', Bool.not_eq_false', Bool.not_not, ne_eq, Int.not_lt, Int.not_le] at dhc94
              exact b_nil (by refine ⟨_, _, _, rfl, rfl⟩)
          · intro n_ z83 _ _ _ hnz83 s97 hNz83 hfz83
            obtain ⟨o86, o87, o88, rfl, rfl⟩ := hNz83
            try simp only [rng_length, enumL_length] at hnz83
            refine b_for (f := (st_law_5 hows_1 numbers_here_22 holidays_here_30 z57)) (s0 := ()) (xs := [(-1), 36525, ((0 - 1) - (ixg numbers_here_22 7)), (36525 + (ixg numbers_here_22 7))]) (fun n_ (z98 : Unit) σ_ G_ cs_ => ∃ o101 : Option V, ∃ o102 : Option V, ∃ o103 : Option V, ∃ o104 : Option V, σ_ = [some v0_, some v3, some (.int x18), some v24, some (.int day_here_26), some v32, o101, some (.str (SX.S z57)), o102, some (.int at_79), o103, o104] ∧ cs = cs_) (i_listF (r := rI) (d_new (n_lst (r := rI) (xs := [(-1), 36525, ((0 - 1) - (ixg numbers_here_22 7)), (36525 + (ixg numbers_here_22 7))]) (a_cons (P := rI (-1)) (d_neg d_int) (a_cons (P := rI 36525) d_int (a_cons (P := rI ((0 - 1) - (ixg numbers_here_22 7))) (d_sub (d_sub d_int d_int) (d_ixL (r := rI) (xs := numbers_here_22) (i := 7) (x := (ixg numbers_here_22 7)) (D.imp (P := (rL K rI) numbers_here_22) (d_var 3 (P := (rL K rI) numbers_here_22) rfl (Mono.mono (s27.trans (s31.trans (s35.trans (s52.trans (s54.trans (s74.trans (s76.trans (s80.trans s97)))))))) h25)) fun _ _ => rdL_of) d_int (atI_ixg (by first | (constructor <;> omega) | (simp only [List.length_cons, List.length_nil]; constructor <;> omega) | exact ix_mod (by omega) | (simp only [decide_eq_true_eq, decide_eq_false_iff_not] at *; constructor <;> omega))))) (a_cons (P := rI (36525 + (ixg numbers_here_22 7))) (d_add d_int (d_ixL (r := rI) (xs := numbers_here_22) (i := 7) (x := (ixg numbers_here_22 7)) (D.imp (P := (rL K rI) numbers_here_22) (d_var 3 (P := (rL K rI) numbers_here_22) rfl (Mono.mono (s27.trans (s31.trans (s35.trans (s52.trans (s54.trans (s74.trans (s76.trans (s80.trans s97)))))))) h25)) fun _ _ => rdL_of) d_int (atI_ixg (by first | (constructor <;> omega) | (simp only [List.length_cons, List.length_nil]; constructor <;> omega) | exact ix_mod (by omega) | (simp only [decide_eq_true_eq, decide_eq_false_iff_not] at *; constructor <;> omega))))) a_nil)))) (ls_c (ls_c (ls_c (ls_c ls_n))))))) (tg_name 11 sc_law.nd) rfl PassesOwn.never ?_ ?_ ?_ ?_
            · intro _ s123
              exact ⟨_, _, _, _, rfl, rfl⟩
            · intro _ _ _ _ _ _
              trivial
            · intro pre_ x105 post_ z98 _ _ _ _ _ hxsz98 hrez98 s106 hNz98 s107 hSz98
              obtain ⟨o101, o102, o103, o104, rfl, rfl⟩ := hNz98
              obtain ⟨v99, h100, rfl⟩ := hSz98
              have hltz98 : pre_.length < [(-1), 36525, ((0 - 1) - (ixg numbers_here_22 7)), (36525 + (ixg numbers_here_22 7))].length := by rw [hxsz98, List.length_append, List.length_cons]; omega
              have hmemz98 : x105 ∈ [(-1), 36525, ((0 - 1) - (ixg numbers_here_22 7)), (36525 + (ixg numbers_here_22 7))] := by rw [hxsz98]; exact List.mem_append_right _ List.mem_cons_self
              try simp only [rng_length, rng_mem, enumL_length] at hltz98 hmemz98
              show B _ _ _ _ _ _ _ (st_law_5 hows_1 numbers_here_22 holidays_here_30 z57 z98 x105)
              unfold st_law_5
              cases h100
              refine b_for (f := (st_law_6 holidays_here_30 x105)) (s0 := ()) (xs := [(ixg hows_1 ((ixg numbers_here_22 8) % 4)), z57]) (fun n_ (z109 : Unit) σ_ G_ cs_ => ∃ o112 : Option V, ∃ o113 : Option V, ∃ o114 : Option V, σ_ = [some v0_, some v3, some (.int x18), some v24, some (.int day_here_26), some v32, o112, some (.str (SX.S z57)), o113, some (.int at_79), o114, some (.int x105)] ∧ cs = cs_) (i_listF (r := rS) (d_new (n_lst (r := rS) (xs := [(ixg hows_1 ((ixg numbers_here_22 8) % 4)), z57]) (a_cons (P := rS (ixg hows_1 ((ixg numbers_here_22 8) % 4))) (d_ixL (r := rS) (xs := hows_1) (i := ((ixg numbers_here_22 8) % 4)) (x := (ixg hows_1 ((ixg numbers_here_22 8) % 4))) (D.imp (P := (rL K rS) hows_1) (d_var 1 (P := (rL K rS) hows_1) rfl (Mono.mono (s19.trans (s20.trans (s23.trans (s27.trans (s31.trans (s35.trans (s52.trans (s54.trans (s74.trans (s76.trans (s80.trans (s97.trans (s106.trans s107))))))))))))) h4)) fun _ _ => rdL_of) (d_mod (d_ixL (r := rI) (xs := numbers_here_22) (i := 8) (x := (ixg numbers_here_22 8)) (D.imp (P := (rL K rI) numbers_here_22) (d_var 3 (P := (rL K rI) numbers_here_22) rfl (Mono.mono (s27.trans (s31.trans (s35.trans (s52.trans (s54.trans (s74.trans (s76.trans (s80.trans (s97.trans (s106.trans s107)))))))))) h25)) fun _ _ => rdL_of) d_int (atI_ixg (by first | (constructor <;> omega) | (simp only [List.length_cons, List.length_nil]; constructor <;> omega) | exact ix_mod (by omega) | (simp only [decide_eq_true_eq, decide_eq_false_iff_not] at *; constructor <;> omega)))) d_int (by decide)) (atI_ixg (by first | (constructor <;> omega) | (simp only [List.length_cons, List.length_nil]; constructor <;> omega) | exact ix_mod (by omega) | (simp only [decide_eq_true_eq, decide_eq_false_iff_not] at *; constructor <;> omega)))) (a_cons (P := rS z57) (d_var 7 (P := rS z57) rfl rfl) a_nil)) (ls_c (ls_c ls_n))))) (tg_name 6 sc_law.nd) rfl PassesOwn.never ?_ ?_ ?_ ?_
              · intro _ s121
                exact ⟨_, _, _, rfl, rfl⟩
              · intro _ _ _ _ _ _
                trivial
              · intro pre_ x115 post_ z109 _ _ _ _ _ hxsz109 hrez109 s116 hNz109 s117 hSz109
                obtain ⟨o112, o113, o114, rfl, rfl⟩ := hNz109
                obtain ⟨v110, h111, rfl⟩ := hSz109
                have hltz109 : pre_.length < [(ixg hows_1 ((ixg numbers_here_22 8) % 4)), z57].length := by rw [hxsz109, List.length_append, List.length_cons]; omega
                have hmemz109 : x115 ∈ [(ixg hows_1 ((ixg numbers_here_22 8) % 4)), z57] := by rw [hxsz109]; exact List.mem_append_right _ List.mem_cons_self
                try simp only [rng_length, rng_mem, enumL_length] at hltz109 hmemz109
                show B _ _ _ _ _ _ _ (st_law_6 holidays_here_30 x105 z109 x115)
                unfold st_law_6
                cases h111
                refine b_ifx (t_neD (K := K) (r := (rT K (cc rS (c0 (rL K (rSum rI rS)))))) hr (d_callQ (P := (rT K (cc rS (c0 (rL K (rSum rI rS))))) (m_law_told x105 holidays_here_30 x115)) (x105, holidays_here_30, x115) F_law_told hr (by decide) (a_cons (P := rI x105) (d_var 11 (P := rI x105) rfl rfl) (a_cons (P := (rL K rI) holidays_here_30) (d_var 5 (P := (rL K rI) holidays_here_30) rfl (Mono.mono (s35.trans (s52.trans (s54.trans (s74.trans (s76.trans (s80.trans (s97.trans (s106.trans (s107.trans (s116.trans s117)))))))))) h33)) (a_cons (P := rS x115) (d_var 6 (P := rS x115) rfl rfl) a_nil))) (fun _ _ _ h => by obtain ⟨v0, w0, rfl, h0, v1, w1, rfl, h1, v2, w2, rfl, h2, rfl⟩ := h; exact ⟨v0, v1, v2, rfl, h0, h1, h2⟩) fun _ _ h => h) (d_tup (r := (cc rS (c0 (rL K (rSum rI rS))))) (x := ([114, 97, 105, 115, 101, 100], [(Sum.inr [66, 97, 100, 68, 97, 121])])) (a_cons (P := rS [114, 97, 105, 115, 101, 100]) (d_str (l := [114, 97, 105, 115, 101, 100]) (by decide +kernel)) (a_cons (P := (rL K (rSum rI rS)) [(Sum.inr [66, 97, 100, 68, 97, 121])]) (d_new (n_lst (r := (rSum rI rS)) (xs := [(Sum.inr [66, 97, 100, 68, 97, 121])]) (a_cons (P := (rSum rI rS) (Sum.inr [66, 97, 100, 68, 97, 121])) (d_inr (r := rI) (r' := rS) (d_str (l := [66, 97, 100, 68, 97, 121]) (by decide +kernel))) a_nil) (ls_c ls_n))) a_nil)) (tp_c tp_1)) (by first | exact ok_told _ _ _ | exact ok_due _ _ _ | simp [EqR.ok, EqT.ok]) (by simp [EqR.ok, EqT.ok])) ?_ ?_
                · intro hc119 Gs120 s120
                  have dhc119 := hc119
                  try simp only [decide_eq_true_eq, decide_eq_false_iff_not, Bool.and_eq_true, Bool.and_eq_false_imp, Bool.or_eq_true, Bool.or_eq_false_iff, Bool.not_eq_true', Bool.not_eq_false', Bool.not_not, ne_eq, Int.not_lt, Int.not_le] at dhc119
                  exact b_ret (P := rB false) d_bl (fun _ _ _ h => ⟨⟨[], rfl⟩, h⟩)
                · intro hc119 Gs120 s120
                  have dhc119 := hc119
                  try simp only [decide_eq_true_eq, decide_eq_false_iff_not, Bool.and_eq_true, Bool.and_eq_false_imp, Bool.or_eq_true, Bool.or_eq_false_iff, Bool.not_eq_true', Bool.not_eq_false', Bool.not_not, ne_eq, Int.not_lt, Int.not_le] at dhc119
                  exact b_nil (by refine ⟨_, _, _, rfl, rfl⟩)
              · intro n_ z109 _ _ _ hnz109 s122 hNz109 hfz109
                obtain ⟨o112, o113, o114, rfl, rfl⟩ := hNz109
                try simp only [rng_length, enumL_length] at hnz109
                exact b_nil (by refine ⟨_, _, _, _, rfl, rfl⟩)
            · intro n_ z98 _ _ _ hnz98 s124 hNz98 hfz98
              obtain ⟨o101, o102, o103, o104, rfl, rfl⟩ := hNz98
              try simp only [rng_length, enumL_length] at hnz98
              exact b_nil (by refine ⟨_, _, _, _, _, _, _, _, _, _, rfl, rfl⟩)
  · intro n_ z5 _ _ _ hnz5 s126 hNz5 hfz5
    obtain ⟨o8, o9, o10, o11, o12, o13, o14, o15, o16, o17, rfl, rfl⟩ := hNz5
    try simp only [rng_length, enumL_length] at hnz5
    exact b_ret (P := rB true) d_bl (fun _ _ _ h => ⟨⟨[], rfl⟩, h⟩)
end Ck08

namespace Ck08
open PySem L2 PyProof.Rows J
theorem all_mk {l : PySem.W.OpenLaw} {w : World} {K : PySem.W.Frag} {h : Heap} {mg : Str → Option Value} {fa f1 f2 f3 f4 f5 f6 f7 f8 f9 f10 f11 f12 f13 f14 f15 f16 f17 f18 f19 f20 f21 f22 f23 f24 : Addr} (X : K.In h) (G : h.Ns mainGlobals mg) (hfa : mg "law" = some (.ref fa))
    {od1 an1 od2 an2 od3 an3 od4 an4 od5 an5 od6 an6 od7 an7 od8 an8 od9 an9 od10 an10 od11 an11 od12 an12 od13 an13 od14 an14 od15 an15 od16 an16 od17 an17 od18 an18 od19 an19 od20 an20 od21 an21 od22 an22 od23 an23 od24 an24 : Option Addr} {sl1 sl2 sl3 sl4 sl5 sl6 sl7 sl8 sl9 sl10 sl11 sl12 sl13 sl14 sl15 sl16 sl17 sl18 sl19 sl20 sl21 sl22 sl23 sl24 : Array (Option Value)} {oc1 kV1 dc1 pm1 cd1 ct1 oc2 kV2 dc2 pm2 cd2 ct2 oc3 kV3 dc3 pm3 cd3 ct3 oc4 kV4 dc4 pm4 cd4 ct4 oc5 kV5 dc5 pm5 cd5 ct5 oc6 kV6 dc6 pm6 cd6 ct6 oc7 kV7 dc7 pm7 cd7 ct7 oc8 kV8 dc8 pm8 cd8 ct8 oc9 kV9 dc9 pm9 cd9 ct9 oc10 kV10 dc10 pm10 cd10 ct10 oc11 kV11 dc11 pm11 cd11 ct11 oc12 kV12 dc12 pm12 cd12 ct12 oc13 kV13 dc13 pm13 cd13 ct13 oc14 kV14 dc14 pm14 cd14 ct14 oc15 kV15 dc15 pm15 cd15 ct15 oc16 kV16 dc16 pm16 cd16 ct16 oc17 kV17 dc17 pm17 cd17 ct17 oc18 kV18 dc18 pm18 cd18 ct18 oc19 kV19 dc19 pm19 cd19 ct19 oc20 kV20 dc20 pm20 cd20 ct20 oc21 kV21 dc21 pm21 cd21 ct21 oc22 kV22 dc22 pm22 cd22 ct22 oc23 kV23 dc23 pm23 cd23 ct23 oc24 kV24 dc24 pm24 cd24 ct24 : Value}
    (a1 : PySem.W.nsIn K mainGlobals "_law_numbers" = some (some (.ref f1))) (l1 : K.lookup f1 = some ⟨oc1, od1, .func (PySem.W.fnOf "_law_numbers" "_law_numbers" (defArgs s_law_numbers) (defBody s_law_numbers) (defScope s_law_numbers) .none kV1 dc1 pm1 an1 cd1 ct1), sl1⟩) (c1 : PySem.W.codeIn K cd1 "_law_numbers" = true) (k1 : PySem.W.keepIn K (.ref f1) = true)
    (a2 : PySem.W.nsIn K mainGlobals "_law_day" = some (some (.ref f2))) (l2 : K.lookup f2 = some ⟨oc2, od2, .func (PySem.W.fnOf "_law_day" "_law_day" (defArgs s_law_day) (defBody s_law_day) (defScope s_law_day) .none kV2 dc2 pm2 an2 cd2 ct2), sl2⟩) (c2 : PySem.W.codeIn K cd2 "_law_day" = true) (k2 : PySem.W.keepIn K (.ref f2) = true)
    (a3 : PySem.W.nsIn K mainGlobals "_law_holidays" = some (some (.ref f3))) (l3 : K.lookup f3 = some ⟨oc3, od3, .func (PySem.W.fnOf "_law_holidays" "_law_holidays" (defArgs s_law_holidays) (defBody s_law_holidays) (defScope s_law_holidays) .none kV3 dc3 pm3 an3 cd3 ct3), sl3⟩) (c3 : PySem.W.codeIn K cd3 "_law_holidays" = true) (k3 : PySem.W.keepIn K (.ref f3) = true)
    (a4 : PySem.W.nsIn K mainGlobals "is_day" = some (some (.ref f4))) (l4 : K.lookup f4 = some ⟨oc4, od4, .func (PySem.W.fnOf "is_day" "is_day" (defArgs s_is_day) (defBody s_is_day) (defScope s_is_day) .none kV4 dc4 pm4 an4 cd4 ct4), sl4⟩) (c4 : PySem.W.codeIn K cd4 "is_day" = true) (k4 : PySem.W.keepIn K (.ref f4) = true)
    (a5 : PySem.W.nsIn K mainGlobals "check_day" = some (some (.ref f5))) (l5 : K.lookup f5 = some ⟨oc5, od5, .func (PySem.W.fnOf "check_day" "check_day" (defArgs s_check_day) (defBody s_check_day) (defScope s_check_day) .none kV5 dc5 pm5 an5 cd5 ct5), sl5⟩) (c5 : PySem.W.codeIn K cd5 "check_day" = true) (k5 : PySem.W.keepIn K (.ref f5) = true)
    (a6 : PySem.W.nsIn K mainGlobals "weekday" = some (some (.ref f6))) (l6 : K.lookup f6 = some ⟨oc6, od6, .func (PySem.W.fnOf "weekday" "weekday" (defArgs s_weekday) (defBody s_weekday) (defScope s_weekday) .none kV6 dc6 pm6 an6 cd6 ct6), sl6⟩) (c6 : PySem.W.codeIn K cd6 "weekday" = true) (k6 : PySem.W.keepIn K (.ref f6) = true)
    (a7 : PySem.W.nsIn K mainGlobals "is_working" = some (some (.ref f7))) (l7 : K.lookup f7 = some ⟨oc7, od7, .func (PySem.W.fnOf "is_working" "is_working" (defArgs s_is_working) (defBody s_is_working) (defScope s_is_working) .none kV7 dc7 pm7 an7 cd7 ct7), sl7⟩) (c7 : PySem.W.codeIn K cd7 "is_working" = true) (k7 : PySem.W.keepIn K (.ref f7) = true)
    (a8 : PySem.W.nsIn K mainGlobals "_law_works" = some (some (.ref f8))) (l8 : K.lookup f8 = some ⟨oc8, od8, .func (PySem.W.fnOf "_law_works" "_law_works" (defArgs s_law_works) (defBody s_law_works) (defScope s_law_works) .none kV8 dc8 pm8 an8 cd8 ct8), sl8⟩) (c8 : PySem.W.codeIn K cd8 "_law_works" = true) (k8 : PySem.W.keepIn K (.ref f8) = true)
    (a9 : PySem.W.nsIn K mainGlobals "_law_kinds" = some (some (.ref f9))) (l9 : K.lookup f9 = some ⟨oc9, od9, .func (PySem.W.fnOf "_law_kinds" "_law_kinds" (defArgs s_law_kinds) (defBody s_law_kinds) (defScope s_law_kinds) .none kV9 dc9 pm9 an9 cd9 ct9), sl9⟩) (c9 : PySem.W.codeIn K cd9 "_law_kinds" = true) (k9 : PySem.W.keepIn K (.ref f9) = true)
    (a10 : PySem.W.nsIn K mainGlobals "_law_tells_working" = some (some (.ref f10))) (l10 : K.lookup f10 = some ⟨oc10, od10, .func (PySem.W.fnOf "_law_tells_working" "_law_tells_working" (defArgs s_law_tells_working) (defBody s_law_tells_working) (defScope s_law_tells_working) .none kV10 dc10 pm10 an10 cd10 ct10), sl10⟩) (c10 : PySem.W.codeIn K cd10 "_law_tells_working" = true) (k10 : PySem.W.keepIn K (.ref f10) = true)
    (a11 : PySem.W.nsIn K mainGlobals "next_working" = some (some (.ref f11))) (l11 : K.lookup f11 = some ⟨oc11, od11, .func (PySem.W.fnOf "next_working" "next_working" (defArgs s_next_working) (defBody s_next_working) (defScope s_next_working) .none kV11 dc11 pm11 an11 cd11 ct11), sl11⟩) (c11 : PySem.W.codeIn K cd11 "next_working" = true) (k11 : PySem.W.keepIn K (.ref f11) = true)
    (a12 : PySem.W.nsIn K mainGlobals "previous_working" = some (some (.ref f12))) (l12 : K.lookup f12 = some ⟨oc12, od12, .func (PySem.W.fnOf "previous_working" "previous_working" (defArgs s_previous_working) (defBody s_previous_working) (defScope s_previous_working) .none kV12 dc12 pm12 an12 cd12 ct12), sl12⟩) (c12 : PySem.W.codeIn K cd12 "previous_working" = true) (k12 : PySem.W.keepIn K (.ref f12) = true)
    (a13 : PySem.W.nsIn K mainGlobals "first_of_year" = some (some (.ref f13))) (l13 : K.lookup f13 = some ⟨oc13, od13, .func (PySem.W.fnOf "first_of_year" "first_of_year" (defArgs s_first_of_year) (defBody s_first_of_year) (defScope s_first_of_year) .none kV13 dc13 pm13 an13 cd13 ct13), sl13⟩) (c13 : PySem.W.codeIn K cd13 "first_of_year" = true) (k13 : PySem.W.keepIn K (.ref f13) = true)
    (a14 : PySem.W.nsIn K mainGlobals "month_length" = some (some (.ref f14))) (l14 : K.lookup f14 = some ⟨oc14, od14, .func (PySem.W.fnOf "month_length" "month_length" (defArgs s_month_length) (defBody s_month_length) (defScope s_month_length) .none kV14 dc14 pm14 an14 cd14 ct14), sl14⟩) (c14 : PySem.W.codeIn K cd14 "month_length" = true) (k14 : PySem.W.keepIn K (.ref f14) = true)
    (a15 : PySem.W.nsIn K mainGlobals "date_of" = some (some (.ref f15))) (l15 : K.lookup f15 = some ⟨oc15, od15, .func (PySem.W.fnOf "date_of" "date_of" (defArgs s_date_of) (defBody s_date_of) (defScope s_date_of) .none kV15 dc15 pm15 an15 cd15 ct15), sl15⟩) (c15 : PySem.W.codeIn K cd15 "date_of" = true) (k15 : PySem.W.keepIn K (.ref f15) = true)
    (a16 : PySem.W.nsIn K mainGlobals "same_month" = some (some (.ref f16))) (l16 : K.lookup f16 = some ⟨oc16, od16, .func (PySem.W.fnOf "same_month" "same_month" (defArgs s_same_month) (defBody s_same_month) (defScope s_same_month) .none kV16 dc16 pm16 an16 cd16 ct16), sl16⟩) (c16 : PySem.W.codeIn K cd16 "same_month" = true) (k16 : PySem.W.keepIn K (.ref f16) = true)
    (a17 : PySem.W.nsIn K mainGlobals "adjusted" = some (some (.ref f17))) (l17 : K.lookup f17 = some ⟨oc17, od17, .func (PySem.W.fnOf "adjusted" "adjusted" (defArgs s_adjusted) (defBody s_adjusted) (defScope s_adjusted) .none kV17 dc17 pm17 an17 cd17 ct17), sl17⟩) (c17 : PySem.W.codeIn K cd17 "adjusted" = true) (k17 : PySem.W.keepIn K (.ref f17) = true)
    (a18 : PySem.W.nsIn K mainGlobals "adjust" = some (some (.ref f18))) (l18 : K.lookup f18 = some ⟨oc18, od18, .func (PySem.W.fnOf "adjust" "adjust" (defArgs s_adjust) (defBody s_adjust) (defScope s_adjust) .none kV18 dc18 pm18 an18 cd18 ct18), sl18⟩) (c18 : PySem.W.codeIn K cd18 "adjust" = true) (k18 : PySem.W.keepIn K (.ref f18) = true)
    (a19 : PySem.W.nsIn K mainGlobals "_law_told" = some (some (.ref f19))) (l19 : K.lookup f19 = some ⟨oc19, od19, .func (PySem.W.fnOf "_law_told" "_law_told" (defArgs s_law_told) (defBody s_law_told) (defScope s_law_told) .none kV19 dc19 pm19 an19 cd19 ct19), sl19⟩) (c19 : PySem.W.codeIn K cd19 "_law_told" = true) (k19 : PySem.W.keepIn K (.ref f19) = true)
    (a20 : PySem.W.nsIn K mainGlobals "_law_search" = some (some (.ref f20))) (l20 : K.lookup f20 = some ⟨oc20, od20, .func (PySem.W.fnOf "_law_search" "_law_search" (defArgs s_law_search) (defBody s_law_search) (defScope s_law_search) .none kV20 dc20 pm20 an20 cd20 ct20), sl20⟩) (c20 : PySem.W.codeIn K cd20 "_law_search" = true) (k20 : PySem.W.keepIn K (.ref f20) = true)
    (a21 : PySem.W.nsIn K mainGlobals "_law_length" = some (some (.ref f21))) (l21 : K.lookup f21 = some ⟨oc21, od21, .func (PySem.W.fnOf "_law_length" "_law_length" (defArgs s_law_length) (defBody s_law_length) (defScope s_law_length) .none kV21 dc21 pm21 an21 cd21 ct21), sl21⟩) (c21 : PySem.W.codeIn K cd21 "_law_length" = true) (k21 : PySem.W.keepIn K (.ref f21) = true)
    (a22 : PySem.W.nsIn K mainGlobals "_law_date" = some (some (.ref f22))) (l22 : K.lookup f22 = some ⟨oc22, od22, .func (PySem.W.fnOf "_law_date" "_law_date" (defArgs s_law_date) (defBody s_law_date) (defScope s_law_date) .none kV22 dc22 pm22 an22 cd22 ct22), sl22⟩) (c22 : PySem.W.codeIn K cd22 "_law_date" = true) (k22 : PySem.W.keepIn K (.ref f22) = true)
    (a23 : PySem.W.nsIn K mainGlobals "_law_due" = some (some (.ref f23))) (l23 : K.lookup f23 = some ⟨oc23, od23, .func (PySem.W.fnOf "_law_due" "_law_due" (defArgs s_law_due) (defBody s_law_due) (defScope s_law_due) .none kV23 dc23 pm23 an23 cd23 ct23), sl23⟩) (c23 : PySem.W.codeIn K cd23 "_law_due" = true) (k23 : PySem.W.keepIn K (.ref f23) = true)
    (a24 : PySem.W.nsIn K mainGlobals "law" = some (some (.ref f24))) (l24 : K.lookup f24 = some ⟨oc24, od24, .func (PySem.W.fnOf "law" "law" (defArgs s_law) (defBody s_law) (defScope s_law) .none kV24 dc24 pm24 an24 cd24 ct24), sl24⟩) (c24 : PySem.W.codeIn K cd24 "law" = true) (k24 : PySem.W.keepIn K (.ref f24) = true)
    (z_bool : PySem.W.nsIn K mainGlobals "bool" = some none)
    (z_int : PySem.W.nsIn K mainGlobals "int" = some none)
    (z_isinstance : PySem.W.nsIn K mainGlobals "isinstance" = some none)
    (z_len : PySem.W.nsIn K mainGlobals "len" = some none)
    (z_list : PySem.W.nsIn K mainGlobals "list" = some none)
    (z_range : PySem.W.nsIn K mainGlobals "range" = some none)
    {tk_FIRST_YEAR : Tok} (y_FIRST_YEAR : PySem.W.nsIn K mainGlobals "FIRST_YEAR" = some (some (.int 2000 tk_FIRST_YEAR)))
    {aK_HOWS : Addr} {dK_HOWS : Option Addr} {nK_HOWS : Nat} {sK_HOWS : Array (Option Value)} {tk_HOWS_0 tk_HOWS_1 tk_HOWS_2 tk_HOWS_3 : Tok} (y_HOWS : PySem.W.nsIn K mainGlobals "HOWS" = some (some (.ref aK_HOWS))) (w_HOWS : K.lookup aK_HOWS = some ⟨.type "tuple", dK_HOWS, .seq #[.str "none" tk_HOWS_0, .str "next" tk_HOWS_1, .str "previous" tk_HOWS_2, .str "modified" tk_HOWS_3] nK_HOWS, sK_HOWS⟩)
    {tk_LAST_DAY : Tok} (y_LAST_DAY : PySem.W.nsIn K mainGlobals "LAST_DAY" = some (some (.int 36524 tk_LAST_DAY)))
    {tk_LAST_YEAR : Tok} (y_LAST_YEAR : PySem.W.nsIn K mainGlobals "LAST_YEAR" = some (some (.int 2099 tk_LAST_YEAR)))
    {aK_LENGTHS : Addr} {dK_LENGTHS : Option Addr} {nK_LENGTHS : Nat} {sK_LENGTHS : Array (Option Value)} {tk_LENGTHS_0 tk_LENGTHS_1 tk_LENGTHS_2 tk_LENGTHS_3 tk_LENGTHS_4 tk_LENGTHS_5 tk_LENGTHS_6 tk_LENGTHS_7 tk_LENGTHS_8 tk_LENGTHS_9 tk_LENGTHS_10 tk_LENGTHS_11 : Tok} (y_LENGTHS : PySem.W.nsIn K mainGlobals "LENGTHS" = some (some (.ref aK_LENGTHS))) (w_LENGTHS : K.lookup aK_LENGTHS = some ⟨.type "tuple", dK_LENGTHS, .seq #[.int 31 tk_LENGTHS_0, .int 28 tk_LENGTHS_1, .int 31 tk_LENGTHS_2, .int 30 tk_LENGTHS_3, .int 31 tk_LENGTHS_4, .int 30 tk_LENGTHS_5, .int 31 tk_LENGTHS_6, .int 31 tk_LENGTHS_7, .int 30 tk_LENGTHS_8, .int 31 tk_LENGTHS_9, .int 30 tk_LENGTHS_10, .int 31 tk_LENGTHS_11] nK_LENGTHS, sK_LENGTHS⟩)
    {eB e0 e1 e2 e3 e4 e5 e6 : Addr} (bB : PySem.W.nsIn K mainGlobals "BankError" = some (some (.ref eB))) (bB1 : PySem.W.subIn K (.ref eB) (.type "BaseException") = some true) (bB2 : PySem.W.hasDictIn K eB = true) (bB3 : PySem.W.typeIn K (.ref eB) = some (.type "type"))
    (ea0 : PySem.W.nsIn K mainGlobals "BadValue" = some (some (.ref e0))) (ex0 : PySem.W.excIn K e0 [.type "ValueError", .type "Exception", .type "BaseException", .type "object"] "ValueError.__new__" = true) (ek0 : PySem.W.keepIn K (.ref e0) = true) (eb0 : PySem.W.subIn K (.ref e0) (.type "BaseException") = some true) (et0 : PySem.W.typeIn K (.ref e0) = some (.type "type"))
    (eg0 : PySem.W.findIn K (.ref e0) "__getattribute__" = some (some (.builtin "BaseException.__getattribute__"))) (eh0 : PySem.W.findIn K (.ref e0) "__getattr__" = some none) (ed0 : PySem.W.hasDictIn K e0 = true) (ec0 : PySem.W.findIn K (.ref e0) "__class__" = some (some (.builtin "object.__class__"))) (em0 : PySem.W.mroIn K e0 (.type "object") = some true) (ey0 : PySem.W.subIn K (.ref e0) (.ref eB) = some true)
    (eq0_0 : PySem.W.subIn K (.ref e0) (.ref e0) = some true)
    (eq0_1 : PySem.W.subIn K (.ref e0) (.ref e1) = some false)
    (eq0_2 : PySem.W.subIn K (.ref e0) (.ref e2) = some false)
    (eq0_3 : PySem.W.subIn K (.ref e0) (.ref e3) = some false)
    (eq0_4 : PySem.W.subIn K (.ref e0) (.ref e4) = some false)
    (eq0_5 : PySem.W.subIn K (.ref e0) (.ref e5) = some false)
    (eq0_6 : PySem.W.subIn K (.ref e0) (.ref e6) = some false)
    (ea1 : PySem.W.nsIn K mainGlobals "BadDay" = some (some (.ref e1))) (ex1 : PySem.W.excIn K e1 [.type "ValueError", .type "Exception", .type "BaseException", .type "object"] "ValueError.__new__" = true) (ek1 : PySem.W.keepIn K (.ref e1) = true) (eb1 : PySem.W.subIn K (.ref e1) (.type "BaseException") = some true) (et1 : PySem.W.typeIn K (.ref e1) = some (.type "type"))
    (eg1 : PySem.W.findIn K (.ref e1) "__getattribute__" = some (some (.builtin "BaseException.__getattribute__"))) (eh1 : PySem.W.findIn K (.ref e1) "__getattr__" = some none) (ed1 : PySem.W.hasDictIn K e1 = true) (ec1 : PySem.W.findIn K (.ref e1) "__class__" = some (some (.builtin "object.__class__"))) (em1 : PySem.W.mroIn K e1 (.type "object") = some true) (ey1 : PySem.W.subIn K (.ref e1) (.ref eB) = some true)
    (eq1_0 : PySem.W.subIn K (.ref e1) (.ref e0) = some false)
    (eq1_1 : PySem.W.subIn K (.ref e1) (.ref e1) = some true)
    (eq1_2 : PySem.W.subIn K (.ref e1) (.ref e2) = some false)
    (eq1_3 : PySem.W.subIn K (.ref e1) (.ref e3) = some false)
    (eq1_4 : PySem.W.subIn K (.ref e1) (.ref e4) = some false)
    (eq1_5 : PySem.W.subIn K (.ref e1) (.ref e5) = some false)
    (eq1_6 : PySem.W.subIn K (.ref e1) (.ref e6) = some false)
    (ea2 : PySem.W.nsIn K mainGlobals "Missing" = some (some (.ref e2))) (ex2 : PySem.W.excIn K e2 [.type "ValueError", .type "Exception", .type "BaseException", .type "object"] "ValueError.__new__" = true) (ek2 : PySem.W.keepIn K (.ref e2) = true) (eb2 : PySem.W.subIn K (.ref e2) (.type "BaseException") = some true) (et2 : PySem.W.typeIn K (.ref e2) = some (.type "type"))
    (eg2 : PySem.W.findIn K (.ref e2) "__getattribute__" = some (some (.builtin "BaseException.__getattribute__"))) (eh2 : PySem.W.findIn K (.ref e2) "__getattr__" = some none) (ed2 : PySem.W.hasDictIn K e2 = true) (ec2 : PySem.W.findIn K (.ref e2) "__class__" = some (some (.builtin "object.__class__"))) (em2 : PySem.W.mroIn K e2 (.type "object") = some true) (ey2 : PySem.W.subIn K (.ref e2) (.ref eB) = some true)
    (eq2_0 : PySem.W.subIn K (.ref e2) (.ref e0) = some false)
    (eq2_1 : PySem.W.subIn K (.ref e2) (.ref e1) = some false)
    (eq2_2 : PySem.W.subIn K (.ref e2) (.ref e2) = some true)
    (eq2_3 : PySem.W.subIn K (.ref e2) (.ref e3) = some false)
    (eq2_4 : PySem.W.subIn K (.ref e2) (.ref e4) = some false)
    (eq2_5 : PySem.W.subIn K (.ref e2) (.ref e5) = some false)
    (eq2_6 : PySem.W.subIn K (.ref e2) (.ref e6) = some false)
    (ea3 : PySem.W.nsIn K mainGlobals "Refused" = some (some (.ref e3))) (ex3 : PySem.W.excIn K e3 [.type "ValueError", .type "Exception", .type "BaseException", .type "object"] "ValueError.__new__" = true) (ek3 : PySem.W.keepIn K (.ref e3) = true) (eb3 : PySem.W.subIn K (.ref e3) (.type "BaseException") = some true) (et3 : PySem.W.typeIn K (.ref e3) = some (.type "type"))
    (eg3 : PySem.W.findIn K (.ref e3) "__getattribute__" = some (some (.builtin "BaseException.__getattribute__"))) (eh3 : PySem.W.findIn K (.ref e3) "__getattr__" = some none) (ed3 : PySem.W.hasDictIn K e3 = true) (ec3 : PySem.W.findIn K (.ref e3) "__class__" = some (some (.builtin "object.__class__"))) (em3 : PySem.W.mroIn K e3 (.type "object") = some true) (ey3 : PySem.W.subIn K (.ref e3) (.ref eB) = some true)
    (eq3_0 : PySem.W.subIn K (.ref e3) (.ref e0) = some false)
    (eq3_1 : PySem.W.subIn K (.ref e3) (.ref e1) = some false)
    (eq3_2 : PySem.W.subIn K (.ref e3) (.ref e2) = some false)
    (eq3_3 : PySem.W.subIn K (.ref e3) (.ref e3) = some true)
    (eq3_4 : PySem.W.subIn K (.ref e3) (.ref e4) = some false)
    (eq3_5 : PySem.W.subIn K (.ref e3) (.ref e5) = some false)
    (eq3_6 : PySem.W.subIn K (.ref e3) (.ref e6) = some false)
    (ea4 : PySem.W.nsIn K mainGlobals "Full" = some (some (.ref e4))) (ex4 : PySem.W.excIn K e4 [.type "ValueError", .type "Exception", .type "BaseException", .type "object"] "ValueError.__new__" = true) (ek4 : PySem.W.keepIn K (.ref e4) = true) (eb4 : PySem.W.subIn K (.ref e4) (.type "BaseException") = some true) (et4 : PySem.W.typeIn K (.ref e4) = some (.type "type"))
    (eg4 : PySem.W.findIn K (.ref e4) "__getattribute__" = some (some (.builtin "BaseException.__getattribute__"))) (eh4 : PySem.W.findIn K (.ref e4) "__getattr__" = some none) (ed4 : PySem.W.hasDictIn K e4 = true) (ec4 : PySem.W.findIn K (.ref e4) "__class__" = some (some (.builtin "object.__class__"))) (em4 : PySem.W.mroIn K e4 (.type "object") = some true) (ey4 : PySem.W.subIn K (.ref e4) (.ref eB) = some true)
    (eq4_0 : PySem.W.subIn K (.ref e4) (.ref e0) = some false)
    (eq4_1 : PySem.W.subIn K (.ref e4) (.ref e1) = some false)
    (eq4_2 : PySem.W.subIn K (.ref e4) (.ref e2) = some false)
    (eq4_3 : PySem.W.subIn K (.ref e4) (.ref e3) = some false)
    (eq4_4 : PySem.W.subIn K (.ref e4) (.ref e4) = some true)
    (eq4_5 : PySem.W.subIn K (.ref e4) (.ref e5) = some false)
    (eq4_6 : PySem.W.subIn K (.ref e4) (.ref e6) = some false)
    (ea5 : PySem.W.nsIn K mainGlobals "NotAllowed" = some (some (.ref e5))) (ex5 : PySem.W.excIn K e5 [.type "ValueError", .type "Exception", .type "BaseException", .type "object"] "ValueError.__new__" = true) (ek5 : PySem.W.keepIn K (.ref e5) = true) (eb5 : PySem.W.subIn K (.ref e5) (.type "BaseException") = some true) (et5 : PySem.W.typeIn K (.ref e5) = some (.type "type"))
    (eg5 : PySem.W.findIn K (.ref e5) "__getattribute__" = some (some (.builtin "BaseException.__getattribute__"))) (eh5 : PySem.W.findIn K (.ref e5) "__getattr__" = some none) (ed5 : PySem.W.hasDictIn K e5 = true) (ec5 : PySem.W.findIn K (.ref e5) "__class__" = some (some (.builtin "object.__class__"))) (em5 : PySem.W.mroIn K e5 (.type "object") = some true) (ey5 : PySem.W.subIn K (.ref e5) (.ref eB) = some true)
    (eq5_0 : PySem.W.subIn K (.ref e5) (.ref e0) = some false)
    (eq5_1 : PySem.W.subIn K (.ref e5) (.ref e1) = some false)
    (eq5_2 : PySem.W.subIn K (.ref e5) (.ref e2) = some false)
    (eq5_3 : PySem.W.subIn K (.ref e5) (.ref e3) = some false)
    (eq5_4 : PySem.W.subIn K (.ref e5) (.ref e4) = some false)
    (eq5_5 : PySem.W.subIn K (.ref e5) (.ref e5) = some true)
    (eq5_6 : PySem.W.subIn K (.ref e5) (.ref e6) = some false)
    (ea6 : PySem.W.nsIn K mainGlobals "Damaged" = some (some (.ref e6))) (ex6 : PySem.W.excIn K e6 [.type "ValueError", .type "Exception", .type "BaseException", .type "object"] "ValueError.__new__" = true) (ek6 : PySem.W.keepIn K (.ref e6) = true) (eb6 : PySem.W.subIn K (.ref e6) (.type "BaseException") = some true) (et6 : PySem.W.typeIn K (.ref e6) = some (.type "type"))
    (eg6 : PySem.W.findIn K (.ref e6) "__getattribute__" = some (some (.builtin "BaseException.__getattribute__"))) (eh6 : PySem.W.findIn K (.ref e6) "__getattr__" = some none) (ed6 : PySem.W.hasDictIn K e6 = true) (ec6 : PySem.W.findIn K (.ref e6) "__class__" = some (some (.builtin "object.__class__"))) (em6 : PySem.W.mroIn K e6 (.type "object") = some true) (ey6 : PySem.W.subIn K (.ref e6) (.ref eB) = some true)
    (eq6_0 : PySem.W.subIn K (.ref e6) (.ref e0) = some false)
    (eq6_1 : PySem.W.subIn K (.ref e6) (.ref e1) = some false)
    (eq6_2 : PySem.W.subIn K (.ref e6) (.ref e2) = some false)
    (eq6_3 : PySem.W.subIn K (.ref e6) (.ref e3) = some false)
    (eq6_4 : PySem.W.subIn K (.ref e6) (.ref e4) = some false)
    (eq6_5 : PySem.W.subIn K (.ref e6) (.ref e5) = some false)
    (eq6_6 : PySem.W.subIn K (.ref e6) (.ref e6) = some true)
    (eN : PySem.W.specialIn K (.builtin "object.__class__") "__get__" = some (some (.builtin "getset_descriptor.__get__"))) (eT : PySem.W.takesIn K (.builtin "object.__class__") = some true)
    : ∃ fd : FuncData, (∀ (s : Shared) (v : Value), BindsTo s fd ⟨[v], []⟩ [("_law_script", v)]) ∧ ∀ base : Heap, K.In base → base.Ns mainGlobals mg → FnOk l.prog w K mg base CX0 9 fa fd ["_law_script"] (sp_law K) := by
  have e := hfa.symm.trans (PySem.W.mg_of X G a24)
  cases e
  have F1 := fun_mk (st := s_law_numbers) l1 c1 k1
  have b1 := F1.binds (ps := ["_law_cell", "_law_count"]) fun _ _ _ _ _ _ us hl => match us, hl with | [_, _], _ => rfl
  have g1 := PySem.W.mg_of X G a1
  have F2 := fun_mk (st := s_law_day) l2 c2 k2
  have b2 := F2.binds (ps := ["_law_numbers_here"]) fun _ _ _ _ _ _ us hl => match us, hl with | [_], _ => rfl
  have g2 := PySem.W.mg_of X G a2
  have F3 := fun_mk (st := s_law_holidays) l3 c3 k3
  have b3 := F3.binds (ps := ["_law_numbers_here", "_law_day_here"]) fun _ _ _ _ _ _ us hl => match us, hl with | [_, _], _ => rfl
  have g3 := PySem.W.mg_of X G a3
  have F4 := fun_mk (st := s_is_day) l4 c4 k4
  have b4 := F4.binds (ps := ["number"]) fun _ _ _ _ _ _ us hl => match us, hl with | [_], _ => rfl
  have g4 := PySem.W.mg_of X G a4
  have F5 := fun_mk (st := s_check_day) l5 c5 k5
  have b5 := F5.binds (ps := ["day"]) fun _ _ _ _ _ _ us hl => match us, hl with | [_], _ => rfl
  have g5 := PySem.W.mg_of X G a5
  have F6 := fun_mk (st := s_weekday) l6 c6 k6
  have b6 := F6.binds (ps := ["day"]) fun _ _ _ _ _ _ us hl => match us, hl with | [_], _ => rfl
  have g6 := PySem.W.mg_of X G a6
  have F7 := fun_mk (st := s_is_working) l7 c7 k7
  have b7 := F7.binds (ps := ["day", "holidays"]) fun _ _ _ _ _ _ us hl => match us, hl with | [_, _], _ => rfl
  have g7 := PySem.W.mg_of X G a7
  have F8 := fun_mk (st := s_law_works) l8 c8 k8
  have b8 := F8.binds (ps := ["_law_day_here", "_law_holidays_here"]) fun _ _ _ _ _ _ us hl => match us, hl with | [_, _], _ => rfl
  have g8 := PySem.W.mg_of X G a8
  have F9 := fun_mk (st := s_law_kinds) l9 c9 k9
  have b9 := F9.binds (ps := ["_law_error"]) fun _ _ _ _ _ _ us hl => match us, hl with | [_], _ => rfl
  have g9 := PySem.W.mg_of X G a9
  have F10 := fun_mk (st := s_law_tells_working) l10 c10 k10
  have b10 := F10.binds (ps := ["_law_day_here", "_law_holidays_here"]) fun _ _ _ _ _ _ us hl => match us, hl with | [_, _], _ => rfl
  have g10 := PySem.W.mg_of X G a10
  have F11 := fun_mk (st := s_next_working) l11 c11 k11
  have b11 := F11.binds (ps := ["day", "holidays"]) fun _ _ _ _ _ _ us hl => match us, hl with | [_, _], _ => rfl
  have g11 := PySem.W.mg_of X G a11
  have F12 := fun_mk (st := s_previous_working) l12 c12 k12
  have b12 := F12.binds (ps := ["day", "holidays"]) fun _ _ _ _ _ _ us hl => match us, hl with | [_, _], _ => rfl
  have g12 := PySem.W.mg_of X G a12
  have F13 := fun_mk (st := s_first_of_year) l13 c13 k13
  have b13 := F13.binds (ps := ["year"]) fun _ _ _ _ _ _ us hl => match us, hl with | [_], _ => rfl
  have g13 := PySem.W.mg_of X G a13
  have F14 := fun_mk (st := s_month_length) l14 c14 k14
  have b14 := F14.binds (ps := ["year", "month"]) fun _ _ _ _ _ _ us hl => match us, hl with | [_, _], _ => rfl
  have g14 := PySem.W.mg_of X G a14
  have F15 := fun_mk (st := s_date_of) l15 c15 k15
  have b15 := F15.binds (ps := ["day"]) fun _ _ _ _ _ _ us hl => match us, hl with | [_], _ => rfl
  have g15 := PySem.W.mg_of X G a15
  have F16 := fun_mk (st := s_same_month) l16 c16 k16
  have b16 := F16.binds (ps := ["day", "other"]) fun _ _ _ _ _ _ us hl => match us, hl with | [_, _], _ => rfl
  have g16 := PySem.W.mg_of X G a16
  have F17 := fun_mk (st := s_adjusted) l17 c17 k17
  have b17 := F17.binds (ps := ["day", "holidays", "how"]) fun _ _ _ _ _ _ us hl => match us, hl with | [_, _, _], _ => rfl
  have g17 := PySem.W.mg_of X G a17
  have F18 := fun_mk (st := s_adjust) l18 c18 k18
  have b18 := F18.binds (ps := ["day", "holidays", "how"]) fun _ _ _ _ _ _ us hl => match us, hl with | [_, _, _], _ => rfl
  have g18 := PySem.W.mg_of X G a18
  have F19 := fun_mk (st := s_law_told) l19 c19 k19
  have b19 := F19.binds (ps := ["_law_day_here", "_law_holidays_here", "_law_how"]) fun _ _ _ _ _ _ us hl => match us, hl with | [_, _, _], _ => rfl
  have g19 := PySem.W.mg_of X G a19
  have F20 := fun_mk (st := s_law_search) l20 c20 k20
  have b20 := F20.binds (ps := ["_law_day_here", "_law_step", "_law_holidays_here"]) fun _ _ _ _ _ _ us hl => match us, hl with | [_, _, _], _ => rfl
  have g20 := PySem.W.mg_of X G a20
  have F21 := fun_mk (st := s_law_length) l21 c21 k21
  have b21 := F21.binds (ps := ["_law_year", "_law_month"]) fun _ _ _ _ _ _ us hl => match us, hl with | [_, _], _ => rfl
  have g21 := PySem.W.mg_of X G a21
  have F22 := fun_mk (st := s_law_date) l22 c22 k22
  have b22 := F22.binds (ps := ["_law_day_here"]) fun _ _ _ _ _ _ us hl => match us, hl with | [_], _ => rfl
  have g22 := PySem.W.mg_of X G a22
  have F23 := fun_mk (st := s_law_due) l23 c23 k23
  have b23 := F23.binds (ps := ["_law_day_here", "_law_holidays_here", "_law_how"]) fun _ _ _ _ _ _ us hl => match us, hl with | [_, _, _], _ => rfl
  have g23 := PySem.W.mg_of X G a23
  have F24 := fun_mk (st := s_law) l24 c24 k24
  have b24 := F24.binds (ps := ["_law_script"]) fun _ _ _ _ _ _ us hl => match us, hl with | [_], _ => rfl
  have g24 := PySem.W.mg_of X G a24
  have m_bool := PySem.W.mg_none_of X G z_bool
  have m_int := PySem.W.mg_none_of X G z_int
  have m_isinstance := PySem.W.mg_none_of X G z_isinstance
  have m_len := PySem.W.mg_none_of X G z_len
  have m_list := PySem.W.mg_none_of X G z_list
  have m_range := PySem.W.mg_none_of X G z_range
  have c_FIRST_YEAR : GlobR mg "FIRST_YEAR" (rI 2000) := ⟨.int 2000, _, PySem.W.mg_of X G y_FIRST_YEAR, ⟨_, rfl⟩, fun _ => rfl⟩
  have c_HOWS : GlobR mg "HOWS" ((rU K rS) k_HOWS) := globT (vs := [.str "none", .str "next", .str "previous", .str "modified"]) (PySem.W.mg_of X G y_HOWS) w_HOWS (.cons ⟨_, rfl⟩ (.cons ⟨_, rfl⟩ (.cons ⟨_, rfl⟩ (.cons ⟨_, rfl⟩ .nil)))) (show (4 : Nat) ≤ sizeLine by decide) fun _ => (.cons (show V.str "none" = V.str (SX.S [110, 111, 110, 101]) from congrArg V.str (by decide +kernel)) (.cons (show V.str "next" = V.str (SX.S [110, 101, 120, 116]) from congrArg V.str (by decide +kernel)) (.cons (show V.str "previous" = V.str (SX.S [112, 114, 101, 118, 105, 111, 117, 115]) from congrArg V.str (by decide +kernel)) (.cons (show V.str "modified" = V.str (SX.S [109, 111, 100, 105, 102, 105, 101, 100]) from congrArg V.str (by decide +kernel)) .nil))))
  have c_LAST_DAY : GlobR mg "LAST_DAY" (rI 36524) := ⟨.int 36524, _, PySem.W.mg_of X G y_LAST_DAY, ⟨_, rfl⟩, fun _ => rfl⟩
  have c_LAST_YEAR : GlobR mg "LAST_YEAR" (rI 2099) := ⟨.int 2099, _, PySem.W.mg_of X G y_LAST_YEAR, ⟨_, rfl⟩, fun _ => rfl⟩
  have c_LENGTHS : GlobR mg "LENGTHS" ((rU K rI) k_LENGTHS) := globT (vs := [.int 31, .int 28, .int 31, .int 30, .int 31, .int 30, .int 31, .int 31, .int 30, .int 31, .int 30, .int 31]) (PySem.W.mg_of X G y_LENGTHS) w_LENGTHS (.cons ⟨_, rfl⟩ (.cons ⟨_, rfl⟩ (.cons ⟨_, rfl⟩ (.cons ⟨_, rfl⟩ (.cons ⟨_, rfl⟩ (.cons ⟨_, rfl⟩ (.cons ⟨_, rfl⟩ (.cons ⟨_, rfl⟩ (.cons ⟨_, rfl⟩ (.cons ⟨_, rfl⟩ (.cons ⟨_, rfl⟩ (.cons ⟨_, rfl⟩ .nil)))))))))))) (show (12 : Nat) ≤ sizeLine by decide) fun _ => (.cons rfl (.cons rfl (.cons rfl (.cons rfl (.cons rfl (.cons rfl (.cons rfl (.cons rfl (.cons rfl (.cons rfl (.cons rfl (.cons rfl .nil))))))))))))
  let adr : _root_.Fin 7 → Addr := fun i => match i with | 0 => e0 | 1 => e1 | 2 => e2 | 3 => e3 | 4 => e4 | 5 => e5 | 6 => e6
  have Er : Errs K mg nm_ adr eB := ⟨fun i => match i with | 0 => ⟨ex0, PySem.W.mg_of X G ea0, ek0, eb0, et0, ⟨eg0, eh0, eb0, ed0, ec0, eN, eT, em0⟩, PySem.W.exm_ref bB1 bB2 bB3 ey0⟩ | 1 => ⟨ex1, PySem.W.mg_of X G ea1, ek1, eb1, et1, ⟨eg1, eh1, eb1, ed1, ec1, eN, eT, em1⟩, PySem.W.exm_ref bB1 bB2 bB3 ey1⟩ | 2 => ⟨ex2, PySem.W.mg_of X G ea2, ek2, eb2, et2, ⟨eg2, eh2, eb2, ed2, ec2, eN, eT, em2⟩, PySem.W.exm_ref bB1 bB2 bB3 ey2⟩ | 3 => ⟨ex3, PySem.W.mg_of X G ea3, ek3, eb3, et3, ⟨eg3, eh3, eb3, ed3, ec3, eN, eT, em3⟩, PySem.W.exm_ref bB1 bB2 bB3 ey3⟩ | 4 => ⟨ex4, PySem.W.mg_of X G ea4, ek4, eb4, et4, ⟨eg4, eh4, eb4, ed4, ec4, eN, eT, em4⟩, PySem.W.exm_ref bB1 bB2 bB3 ey4⟩ | 5 => ⟨ex5, PySem.W.mg_of X G ea5, ek5, eb5, et5, ⟨eg5, eh5, eb5, ed5, ec5, eN, eT, em5⟩, PySem.W.exm_ref bB1 bB2 bB3 ey5⟩ | 6 => ⟨ex6, PySem.W.mg_of X G ea6, ek6, eb6, et6, ⟨eg6, eh6, eb6, ed6, ec6, eN, eT, em6⟩, PySem.W.exm_ref bB1 bB2 bB3 ey6⟩, fun i j => match i, j with | 0, 0 => kit_ref ed0 et0 eq0_0 eq0_0 | 0, 1 => kit_ref ed1 et1 eq0_1 eq1_1 | 0, 2 => kit_ref ed2 et2 eq0_2 eq2_2 | 0, 3 => kit_ref ed3 et3 eq0_3 eq3_3 | 0, 4 => kit_ref ed4 et4 eq0_4 eq4_4 | 0, 5 => kit_ref ed5 et5 eq0_5 eq5_5 | 0, 6 => kit_ref ed6 et6 eq0_6 eq6_6 | 1, 0 => kit_ref ed0 et0 eq1_0 eq0_0 | 1, 1 => kit_ref ed1 et1 eq1_1 eq1_1 | 1, 2 => kit_ref ed2 et2 eq1_2 eq2_2 | 1, 3 => kit_ref ed3 et3 eq1_3 eq3_3 | 1, 4 => kit_ref ed4 et4 eq1_4 eq4_4 | 1, 5 => kit_ref ed5 et5 eq1_5 eq5_5 | 1, 6 => kit_ref ed6 et6 eq1_6 eq6_6 | 2, 0 => kit_ref ed0 et0 eq2_0 eq0_0 | 2, 1 => kit_ref ed1 et1 eq2_1 eq1_1 | 2, 2 => kit_ref ed2 et2 eq2_2 eq2_2 | 2, 3 => kit_ref ed3 et3 eq2_3 eq3_3 | 2, 4 => kit_ref ed4 et4 eq2_4 eq4_4 | 2, 5 => kit_ref ed5 et5 eq2_5 eq5_5 | 2, 6 => kit_ref ed6 et6 eq2_6 eq6_6 | 3, 0 => kit_ref ed0 et0 eq3_0 eq0_0 | 3, 1 => kit_ref ed1 et1 eq3_1 eq1_1 | 3, 2 => kit_ref ed2 et2 eq3_2 eq2_2 | 3, 3 => kit_ref ed3 et3 eq3_3 eq3_3 | 3, 4 => kit_ref ed4 et4 eq3_4 eq4_4 | 3, 5 => kit_ref ed5 et5 eq3_5 eq5_5 | 3, 6 => kit_ref ed6 et6 eq3_6 eq6_6 | 4, 0 => kit_ref ed0 et0 eq4_0 eq0_0 | 4, 1 => kit_ref ed1 et1 eq4_1 eq1_1 | 4, 2 => kit_ref ed2 et2 eq4_2 eq2_2 | 4, 3 => kit_ref ed3 et3 eq4_3 eq3_3 | 4, 4 => kit_ref ed4 et4 eq4_4 eq4_4 | 4, 5 => kit_ref ed5 et5 eq4_5 eq5_5 | 4, 6 => kit_ref ed6 et6 eq4_6 eq6_6 | 5, 0 => kit_ref ed0 et0 eq5_0 eq0_0 | 5, 1 => kit_ref ed1 et1 eq5_1 eq1_1 | 5, 2 => kit_ref ed2 et2 eq5_2 eq2_2 | 5, 3 => kit_ref ed3 et3 eq5_3 eq3_3 | 5, 4 => kit_ref ed4 et4 eq5_4 eq4_4 | 5, 5 => kit_ref ed5 et5 eq5_5 eq5_5 | 5, 6 => kit_ref ed6 et6 eq5_6 eq6_6 | 6, 0 => kit_ref ed0 et0 eq6_0 eq0_0 | 6, 1 => kit_ref ed1 et1 eq6_1 eq1_1 | 6, 2 => kit_ref ed2 et2 eq6_2 eq2_2 | 6, 3 => kit_ref ed3 et3 eq6_3 eq3_3 | 6, 4 => kit_ref ed4 et4 eq6_4 eq4_4 | 6, 5 => kit_ref ed5 et5 eq6_5 eq5_5 | 6, 6 => kit_ref ed6 et6 eq6_6 eq6_6, PySem.W.mg_of X G bB⟩
  have O_law_numbers := fun base : Heap => ok_law_numbers (P := l.prog) (w := w) (base := base) F1 b1 g1 Er m_int m_range
  have O_law_day := fun base : Heap => ok_law_day (P := l.prog) (w := w) (base := base) F2 b2 g2 Er
  have O_law_holidays := fun base : Heap => ok_law_holidays (P := l.prog) (w := w) (base := base) F3 b3 g3 Er m_len m_range
  have O_is_day := fun base : Heap => ok_is_day (P := l.prog) (w := w) (base := base) F4 b4 g4 Er c_LAST_DAY
  have O_check_day := fun base : Heap => ok_check_day (P := l.prog) (w := w) (base := base) F5 b5 g5 Er (O_is_day base)
  have O_weekday := fun base : Heap => ok_weekday (P := l.prog) (w := w) (base := base) F6 b6 g6 Er (O_check_day base)
  have O_is_working := fun base : Heap => ok_is_working (P := l.prog) (w := w) (base := base) F7 b7 g7 Er (O_weekday base)
  have O_law_works := fun base : Heap => ok_law_works (P := l.prog) (w := w) (base := base) F8 b8 g8 Er
  have O_law_kinds := fun base : Heap => ok_law_kinds (P := l.prog) (w := w) (base := base) F9 b9 g9 Er m_isinstance
  have O_law_tells_working := fun base : Heap => ok_law_tells_working (P := l.prog) (w := w) (base := base) F10 b10 g10 Er m_bool m_int m_isinstance m_list m_range (O_law_kinds base) (O_law_works base) (O_is_working base)
  have O_next_working := fun base : Heap => ok_next_working (P := l.prog) (w := w) (base := base) F11 b11 g11 Er c_LAST_DAY m_range (O_is_working base)
  have O_previous_working := fun base : Heap => ok_previous_working (P := l.prog) (w := w) (base := base) F12 b12 g12 Er m_range (O_is_working base)
  have O_first_of_year := fun base : Heap => ok_first_of_year (P := l.prog) (w := w) (base := base) F13 b13 g13 Er c_FIRST_YEAR
  have O_month_length := fun base : Heap => ok_month_length (P := l.prog) (w := w) (base := base) F14 b14 g14 Er c_LENGTHS
  have O_date_of := fun base : Heap => ok_date_of (P := l.prog) (w := w) (base := base) F15 b15 g15 Er c_FIRST_YEAR c_LAST_YEAR (O_check_day base) (O_first_of_year base) (O_month_length base)
  have O_same_month := fun base : Heap => ok_same_month (P := l.prog) (w := w) (base := base) F16 b16 g16 Er (O_date_of base)
  have O_adjusted := fun base : Heap => ok_adjusted (P := l.prog) (w := w) (base := base) F17 b17 g17 Er (O_next_working base) (O_previous_working base) (O_same_month base)
  have O_adjust := fun base : Heap => ok_adjust (P := l.prog) (w := w) (base := base) F18 b18 g18 Er c_HOWS (O_adjusted base) (O_check_day base)
  have O_law_told := fun base : Heap => ok_law_told (P := l.prog) (w := w) (base := base) F19 b19 g19 Er m_bool m_int m_isinstance m_list (O_law_kinds base) (O_adjust base)
  have O_law_search := fun base : Heap => ok_law_search (P := l.prog) (w := w) (base := base) F20 b20 g20 Er m_range (O_law_works base)
  have O_law_length := fun base : Heap => ok_law_length (P := l.prog) (w := w) (base := base) F21 b21 g21 Er m_int
  have O_law_date := fun base : Heap => ok_law_date (P := l.prog) (w := w) (base := base) F22 b22 g22 Er m_int m_range (O_law_length base)
  have O_law_due := fun base : Heap => ok_law_due (P := l.prog) (w := w) (base := base) F23 b23 g23 Er (O_law_date base) (O_law_search base)
  exact ⟨PySem.W.fnOf "law" "law" (defArgs s_law) (defBody s_law) (defScope s_law) .none kV24 dc24 pm24 an24 cd24 ct24, fun s v => .of_eq rfl, fun base _ _ => ok_law F24 b24 g24 Er m_len m_range (O_law_day base) (O_law_due base) (O_law_holidays base) (O_law_numbers base) (O_law_tells_working base) (O_law_told base)⟩
theorem walk {l : PySem.W.OpenLaw} {q : Program} {loose : List Str} {XP : (Str → Option Value) → Heap → Prop} {YP : World → Heap → Prop} {d : DefRec} {K : Params → PySem.W.Frag} (hn : l.most = some 63) (hdf : d.params.defaults = [])
    (hY : ∀ (w : World) (h : Heap), YP w h → (K w.params).In h)
    (F : ∀ (w : World) (mg : Str → Option Value) (fa : Addr) (h : Heap), (K w.params).In h → h.Ns mainGlobals mg → mg d.name = some (.ref fa) →
      ∃ fd : FuncData, (∀ (s : Shared) (u : Value), BindsTo s fd ⟨[u], []⟩ [("_law_script", u)]) ∧ ∀ base : Heap, (K w.params).In base → base.Ns mainGlobals mg → FnOk l.prog w (K w.params) mg base CX0 9 fa fd ["_law_script"] (sp_law (K w.params))) :
    PySem.W.WalkO q loose XP YP l.row.toRowW d [] (fun f vs => PySem.call f vs) :=
  L2.walk_of (n := 63) (k := 9) (x := "_law_script") (CX := fun _ => CX0) (sp := fun w => sp_law (K w.params)) hn (by decide) hdf ⟨rfl, by decide, by decide⟩ hY F
    (fun w H a ns hl _ hS => ⟨ns, H, [], Desc.refl H, ⟨.ref a, rfl, ⟨a, ns.map V.int, rfl, hS, Rs.of_map (fun _ => rfl) ns⟩, hl⟩, fun v _ _ _ _ hv => hv.trans (congrArg V.bl (law_true ns))⟩) fun _ _ _ _ _ z => z
end Ck08
open PySem PySem.W PyProof.Rows in
set_option maxRecDepth 100000 in
set_option maxHeartbeats 0 in
theorem PySem.Challenge.cw_corebank_k08_whole_adjust_holds : PySem.Challenge.rw_corebank_k08_whole_adjust.Holds := by
  w_on; o_law; k_head; (case hw => w_witness2)
  k_fill
  refine Ck08.walk (l := PySem.Challenge.rw_corebank_k08_whole_adjust) rfl rfl (fun w h Y => PySem.W.kIn_of Y) ?F
  case F =>
    intro w mg fa h KX G hmg
    refine' Ck08.all_mk KX G hmg ?a1 ?l1 ?c1 ?k1 ?a2 ?l2 ?c2 ?k2 ?a3 ?l3 ?c3 ?k3 ?a4 ?l4 ?c4 ?k4 ?a5 ?l5 ?c5 ?k5 ?a6 ?l6 ?c6 ?k6 ?a7 ?l7 ?c7 ?k7 ?a8 ?l8 ?c8 ?k8 ?a9 ?l9 ?c9 ?k9 ?a10 ?l10 ?c10 ?k10 ?a11 ?l11 ?c11 ?k11 ?a12 ?l12 ?c12 ?k12 ?a13 ?l13 ?c13 ?k13 ?a14 ?l14 ?c14 ?k14 ?a15 ?l15 ?c15 ?k15 ?a16 ?l16 ?c16 ?k16 ?a17 ?l17 ?c17 ?k17 ?a18 ?l18 ?c18 ?k18 ?a19 ?l19 ?c19 ?k19 ?a20 ?l20 ?c20 ?k20 ?a21 ?l21 ?c21 ?k21 ?a22 ?l22 ?c22 ?k22 ?a23 ?l23 ?c23 ?k23 ?a24 ?l24 ?c24 ?k24 ?z_bool ?z_int ?z_isinstance ?z_len ?z_list ?z_range ?y_FIRST_YEAR ?y_HOWS ?w_HOWS ?y_LAST_DAY ?y_LAST_YEAR ?y_LENGTHS ?w_LENGTHS ?bB ?bB1 ?bB2 ?bB3 ?ea0 ?ex0 ?ek0 ?eb0 ?et0 ?eg0 ?eh0 ?ed0 ?ec0 ?em0 ?ey0 ?eq0_0 ?eq0_1 ?eq0_2 ?eq0_3 ?eq0_4 ?eq0_5 ?eq0_6 ?ea1 ?ex1 ?ek1 ?eb1 ?et1 ?eg1 ?eh1 ?ed1 ?ec1 ?em1 ?ey1 ?eq1_0 ?eq1_1 ?eq1_2 ?eq1_3 ?eq1_4 ?eq1_5 ?eq1_6 ?ea2 ?ex2 ?ek2 ?eb2 ?et2 ?eg2 ?eh2 ?ed2 ?ec2 ?em2 ?ey2 ?eq2_0 ?eq2_1 ?eq2_2 ?eq2_3 ?eq2_4 ?eq2_5 ?eq2_6 ?ea3 ?ex3 ?ek3 ?eb3 ?et3 ?eg3 ?eh3 ?ed3 ?ec3 ?em3 ?ey3 ?eq3_0 ?eq3_1 ?eq3_2 ?eq3_3 ?eq3_4 ?eq3_5 ?eq3_6 ?ea4 ?ex4 ?ek4 ?eb4 ?et4 ?eg4 ?eh4 ?ed4 ?ec4 ?em4 ?ey4 ?eq4_0 ?eq4_1 ?eq4_2 ?eq4_3 ?eq4_4 ?eq4_5 ?eq4_6 ?ea5 ?ex5 ?ek5 ?eb5 ?et5 ?eg5 ?eh5 ?ed5 ?ec5 ?em5 ?ey5 ?eq5_0 ?eq5_1 ?eq5_2 ?eq5_3 ?eq5_4 ?eq5_5 ?eq5_6 ?ea6 ?ex6 ?ek6 ?eb6 ?et6 ?eg6 ?eh6 ?ed6 ?ec6 ?em6 ?ey6 ?eq6_0 ?eq6_1 ?eq6_2 ?eq6_3 ?eq6_4 ?eq6_5 ?eq6_6 ?eN ?eT
    (case a1 => k_is)
    (case l1 => k_is)
    (case c1 => k_is)
    (case k1 => k_is)
    (case a2 => k_is)
    (case l2 => k_is)
    (case c2 => k_is)
    (case k2 => k_is)
    (case a3 => k_is)
    (case l3 => k_is)
    (case c3 => k_is)
    (case k3 => k_is)
    (case a4 => k_is)
    (case l4 => k_is)
    (case c4 => k_is)
    (case k4 => k_is)
    (case a5 => k_is)
    (case l5 => k_is)
    (case c5 => k_is)
    (case k5 => k_is)
    (case a6 => k_is)
    (case l6 => k_is)
    (case c6 => k_is)
    (case k6 => k_is)
    (case a7 => k_is)
    (case l7 => k_is)
    (case c7 => k_is)
    (case k7 => k_is)
    (case a8 => k_is)
    (case l8 => k_is)
    (case c8 => k_is)
    (case k8 => k_is)
    (case a9 => k_is)
    (case l9 => k_is)
    (case c9 => k_is)
    (case k9 => k_is)
    (case a10 => k_is)
    (case l10 => k_is)
    (case c10 => k_is)
    (case k10 => k_is)
    (case a11 => k_is)
    (case l11 => k_is)
    (case c11 => k_is)
    (case k11 => k_is)
    (case a12 => k_is)
    (case l12 => k_is)
    (case c12 => k_is)
    (case k12 => k_is)
    (case a13 => k_is)
    (case l13 => k_is)
    (case c13 => k_is)
    (case k13 => k_is)
    (case a14 => k_is)
    (case l14 => k_is)
    (case c14 => k_is)
    (case k14 => k_is)
    (case a15 => k_is)
    (case l15 => k_is)
    (case c15 => k_is)
    (case k15 => k_is)
    (case a16 => k_is)
    (case l16 => k_is)
    (case c16 => k_is)
    (case k16 => k_is)
    (case a17 => k_is)
    (case l17 => k_is)
    (case c17 => k_is)
    (case k17 => k_is)
    (case a18 => k_is)
    (case l18 => k_is)
    (case c18 => k_is)
    (case k18 => k_is)
    (case a19 => k_is)
    (case l19 => k_is)
    (case c19 => k_is)
    (case k19 => k_is)
    (case a20 => k_is)
    (case l20 => k_is)
    (case c20 => k_is)
    (case k20 => k_is)
    (case a21 => k_is)
    (case l21 => k_is)
    (case c21 => k_is)
    (case k21 => k_is)
    (case a22 => k_is)
    (case l22 => k_is)
    (case c22 => k_is)
    (case k22 => k_is)
    (case a23 => k_is)
    (case l23 => k_is)
    (case c23 => k_is)
    (case k23 => k_is)
    (case a24 => k_is)
    (case l24 => k_is)
    (case c24 => k_is)
    (case k24 => k_is)
    (case z_bool => k_is)
    (case z_int => k_is)
    (case z_isinstance => k_is)
    (case z_len => k_is)
    (case z_list => k_is)
    (case z_range => k_is)
    (case y_FIRST_YEAR => k_is)
    (case y_HOWS => k_is)
    (case w_HOWS => k_is)
    (case y_LAST_DAY => k_is)
    (case y_LAST_YEAR => k_is)
    (case y_LENGTHS => k_is)
    (case w_LENGTHS => k_is)
    (case bB => k_is)
    (case bB1 => k_is)
    (case bB2 => k_is)
    (case bB3 => k_is)
    (case ea0 => k_is)
    (case ex0 => k_exc)
    (case ek0 => k_is)
    (case eb0 => k_is)
    (case et0 => k_is)
    (case eg0 => k_is)
    (case eh0 => k_is)
    (case ed0 => k_is)
    (case ec0 => k_is)
    (case em0 => k_is)
    (case ey0 => k_is)
    (case ea1 => k_is)
    (case ex1 => k_exc)
    (case ek1 => k_is)
    (case eb1 => k_is)
    (case et1 => k_is)
    (case eg1 => k_is)
    (case eh1 => k_is)
    (case ed1 => k_is)
    (case ec1 => k_is)
    (case em1 => k_is)
    (case ey1 => k_is)
    (case ea2 => k_is)
    (case ex2 => k_exc)
    (case ek2 => k_is)
    (case eb2 => k_is)
    (case et2 => k_is)
    (case eg2 => k_is)
    (case eh2 => k_is)
    (case ed2 => k_is)
    (case ec2 => k_is)
    (case em2 => k_is)
    (case ey2 => k_is)
    (case ea3 => k_is)
    (case ex3 => k_exc)
    (case ek3 => k_is)
    (case eb3 => k_is)
    (case et3 => k_is)
    (case eg3 => k_is)
    (case eh3 => k_is)
    (case ed3 => k_is)
    (case ec3 => k_is)
    (case em3 => k_is)
    (case ey3 => k_is)
    (case ea4 => k_is)
    (case ex4 => k_exc)
    (case ek4 => k_is)
    (case eb4 => k_is)
    (case et4 => k_is)
    (case eg4 => k_is)
    (case eh4 => k_is)
    (case ed4 => k_is)
    (case ec4 => k_is)
    (case em4 => k_is)
    (case ey4 => k_is)
    (case ea5 => k_is)
    (case ex5 => k_exc)
    (case ek5 => k_is)
    (case eb5 => k_is)
    (case et5 => k_is)
    (case eg5 => k_is)
    (case eh5 => k_is)
    (case ed5 => k_is)
    (case ec5 => k_is)
    (case em5 => k_is)
    (case ey5 => k_is)
    (case ea6 => k_is)
    (case ex6 => k_exc)
    (case ek6 => k_is)
    (case eb6 => k_is)
    (case et6 => k_is)
    (case eg6 => k_is)
    (case eh6 => k_is)
    (case ed6 => k_is)
    (case ec6 => k_is)
    (case em6 => k_is)
    (case ey6 => k_is)
    (case eN => k_is)
    (case eT => k_is)
    (case eq0_0 => first | rfl | k_is)
    (case eq0_1 => first | rfl | k_is)
    (case eq0_2 => first | rfl | k_is)
    (case eq0_3 => first | rfl | k_is)
    (case eq0_4 => first | rfl | k_is)
    (case eq0_5 => first | rfl | k_is)
    (case eq0_6 => first | rfl | k_is)
    (case eq1_0 => first | rfl | k_is)
    (case eq1_1 => first | rfl | k_is)
    (case eq1_2 => first | rfl | k_is)
    (case eq1_3 => first | rfl | k_is)
    (case eq1_4 => first | rfl | k_is)
    (case eq1_5 => first | rfl | k_is)
    (case eq1_6 => first | rfl | k_is)
    (case eq2_0 => first | rfl | k_is)
    (case eq2_1 => first | rfl | k_is)
    (case eq2_2 => first | rfl | k_is)
    (case eq2_3 => first | rfl | k_is)
    (case eq2_4 => first | rfl | k_is)
    (case eq2_5 => first | rfl | k_is)
    (case eq2_6 => first | rfl | k_is)
    (case eq3_0 => first | rfl | k_is)
    (case eq3_1 => first | rfl | k_is)
    (case eq3_2 => first | rfl | k_is)
    (case eq3_3 => first | rfl | k_is)
    (case eq3_4 => first | rfl | k_is)
    (case eq3_5 => first | rfl | k_is)
    (case eq3_6 => first | rfl | k_is)
    (case eq4_0 => first | rfl | k_is)
    (case eq4_1 => first | rfl | k_is)
    (case eq4_2 => first | rfl | k_is)
    (case eq4_3 => first | rfl | k_is)
    (case eq4_4 => first | rfl | k_is)
    (case eq4_5 => first | rfl | k_is)
    (case eq4_6 => first | rfl | k_is)
    (case eq5_0 => first | rfl | k_is)
    (case eq5_1 => first | rfl | k_is)
    (case eq5_2 => first | rfl | k_is)
    (case eq5_3 => first | rfl | k_is)
    (case eq5_4 => first | rfl | k_is)
    (case eq5_5 => first | rfl | k_is)
    (case eq5_6 => first | rfl | k_is)
    (case eq6_0 => first | rfl | k_is)
    (case eq6_1 => first | rfl | k_is)
    (case eq6_2 => first | rfl | k_is)
    (case eq6_3 => first | rfl | k_is)
    (case eq6_4 => first | rfl | k_is)
    (case eq6_5 => first | rfl | k_is)
    (case eq6_6 => first | rfl | k_is)

