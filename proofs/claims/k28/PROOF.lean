import PyProof.Rows.All
import Wide.All
import OpenK.AllK
import Wide.FinOn
import HandS.ForMost
import HandS.ForExc
import HandS.Walk
import HandS.Codes
import HandS.Wide
import HandS.IsInst
import HandS.SortInts
import HandS.SortKw
import HandS.WordsExc
import HandS.ExcOwn
import HandS.TryOnly
import HandS.HotCalls
import HandS.ExcIs
import KE.KIsAll
import HandS.TupLe
import HandS.Text
import KE.DataCmp
import HandS.TupAny
import HandS.StrMore
import HandS.Conv
import PyProof.Rows.StrPadFill
import PyProof.StrOps2
import HandS.CallLocal
import HandS.SetFor
import HandS.Sort
import HandS.Star
import PySem.Challenge.RW_corebank_k28_sender
set_option Elab.async false
set_option linter.all false
set_option maxRecDepth 100000
set_option maxHeartbeats 4000000
set_option Elab.async false
/-! J: a layer of our own over the hand layer. The abstract heap is split: G, what never changes any more; cs, the cells that may still change, one after another. -/
namespace J
open PySem L2

/-! ### heaps in two parts -/
abbrev Cells := List (Addr × HO)
structure Desc (G : Hp) (cs : Cells) (H : Hp) : Prop where
  same : Same G H
  nd : (cs.map Prod.fst).Nodup
  cell : ∀ c ∈ cs, H c.1 = some c.2 ∧ G c.1 = none
theorem Desc.at_ {G H : Hp} {cs : Cells} (d : Desc G cs H) {a : Addr} {o : HO} (h : (a, o) ∈ cs) : H a = some o := (d.cell _ h).1
theorem Desc.new {G H : Hp} {cs : Cells} (d : Desc G cs H) {p : Addr} (hp : H p = none) (o : HO) : Desc (upd G p o) cs (upd H p o) := by
  refine ⟨fun a u e => ?_, d.nd, fun c hc => ?_⟩
  · by_cases h : a = p
    · subst h
      rw [upd_same] at e
      rw [upd_same]
      exact e
    · rw [upd_ne h] at e
      rw [upd_ne h]
      exact d.same a u e
  · obtain ⟨h1, h2⟩ := d.cell c hc
    have ne : c.1 ≠ p := ne_of_none h1 hp
    rw [upd_ne ne, upd_ne ne]
    exact ⟨h1, h2⟩
theorem Same.fresh {G H : Hp} (s : Same G H) {p : Addr} (hp : H p = none) (o : HO) : Same G (upd G p o) := fun a u e => by
  have ne : a ≠ p := fun z => by
    subst z
    rw [s a u e] at hp
    cases hp
  rw [upd_ne ne]
  exact e
theorem Desc.newCell {G H : Hp} {cs : Cells} (d : Desc G cs H) {p : Addr} (hp : H p = none) (o : HO) : Desc G ((p, o) :: cs) (upd H p o) := by
  refine ⟨fun a u e => ?_, ?_, fun c hc => ?_⟩
  · have ne : a ≠ p := ne_of_none (d.same a u e) hp
    rw [upd_ne ne]
    exact d.same a u e
  · refine List.nodup_cons.mpr ⟨fun hm => ?_, d.nd⟩
    obtain ⟨c, hc, e⟩ := List.mem_map.mp hm
    have e2 : c.1 = p := e
    have q := (d.cell c hc).1
    rw [e2, hp] at q
    cases q
  · rcases List.mem_cons.mp hc with e | hc
    · subst e
      exact ⟨upd_same, d.same.free hp⟩
    · obtain ⟨h1, h2⟩ := d.cell c hc
      have ne : c.1 ≠ p := ne_of_none h1 hp
      rw [upd_ne ne]
      exact ⟨h1, h2⟩
theorem nd_of_set {cs : Cells} {k : Nat} {a : Addr} {o o' : HO} (h : cs[k]? = some (a, o)) : (cs.set k (a, o')).map Prod.fst = cs.map Prod.fst := by
  induction cs generalizing k with
  | nil => cases k <;> rfl
  | cons c cs ih =>
    cases k with
    | zero =>
      have e : c = (a, o) := Option.some.inj h
      subst e
      rfl
    | succ k =>
      show c.1 :: (cs.set k (a, o')).map Prod.fst = c.1 :: cs.map Prod.fst
      rw [ih (k := k) h]
theorem mem_set_cases {cs : Cells} {k : Nat} {a : Addr} {o o' : HO} (nd : (cs.map Prod.fst).Nodup) (h : cs[k]? = some (a, o)) {c : Addr × HO} (hc : c ∈ cs.set k (a, o')) : c = (a, o') ∨ (c ∈ cs ∧ c.1 ≠ a) := by
  induction cs generalizing k with
  | nil => cases k <;> cases h
  | cons d cs ih =>
    have nd1 : d.1 ∉ cs.map Prod.fst := (List.nodup_cons.mp nd).1
    have nd2 : (cs.map Prod.fst).Nodup := (List.nodup_cons.mp nd).2
    cases k with
    | zero =>
      have e : d = (a, o) := Option.some.inj h
      subst e
      rcases List.mem_cons.mp hc with e | hc
      · exact .inl e
      · refine .inr ⟨List.mem_cons_of_mem _ hc, fun z => nd1 ?_⟩
        show a ∈ cs.map Prod.fst
        rw [← z]
        exact List.mem_map.mpr ⟨c, hc, rfl⟩
    | succ k =>
      have hm : (a, o) ∈ cs := List.mem_of_getElem? (i := k) h
      rcases List.mem_cons.mp hc with e | hc
      · refine .inr ⟨List.mem_cons.mpr (.inl e), fun z => nd1 ?_⟩
        rw [e] at z
        rw [z]
        exact List.mem_map.mpr ⟨(a, o), hm, rfl⟩
      · rcases ih nd2 (k := k) h hc with e | ⟨h1, h2⟩
        · exact .inl e
        · exact .inr ⟨List.mem_cons_of_mem _ h1, h2⟩
theorem Desc.write {G H : Hp} {cs : Cells} (d : Desc G cs H) {k : Nat} {a : Addr} {o : HO} (h : cs[k]? = some (a, o)) (o' : HO) : Desc G (cs.set k (a, o')) (upd H a o') := by
  have hm : (a, o) ∈ cs := List.mem_of_getElem? h
  obtain ⟨ha, hg⟩ := d.cell _ hm
  refine ⟨fun b u e => ?_, ?_, fun c hc => ?_⟩
  · have ne : b ≠ a := fun z => by
      subst z
      rw [hg] at e
      cases e
    rw [upd_ne ne]
    exact d.same b u e
  · rw [nd_of_set h]
    exact d.nd
  · rcases mem_set_cases d.nd h hc with e | ⟨h1, h2⟩
    · subst e
      exact ⟨upd_same, hg⟩
    · rw [upd_ne h2]
      exact d.cell c h1
theorem Desc.freeze {G H : Hp} {cs : Cells} {a : Addr} {o : HO} (d : Desc G ((a, o) :: cs) H) : Same G (upd G a o) ∧ Desc (upd G a o) cs H := by
  obtain ⟨ha, hg⟩ := d.cell (a, o) List.mem_cons_self
  refine ⟨fun b u e => ?_, fun b u e => ?_, (List.nodup_cons.mp d.nd).2, fun c hc => ?_⟩
  · have ne : b ≠ a := fun z => by
      subst z
      rw [hg] at e
      cases e
    rw [upd_ne ne]
    exact e
  · by_cases z : b = a
    · subst z
      rw [upd_same] at e
      cases e
      exact ha
    · rw [upd_ne z] at e
      exact d.same b u e
  · obtain ⟨h1, h2⟩ := d.cell c (List.mem_cons_of_mem _ hc)
    have ne : c.1 ≠ a := fun z => (List.nodup_cons.mp d.nd).1 (by
      show a ∈ cs.map Prod.fst
      rw [← z]
      exact List.mem_map.mpr ⟨c, hc, rfl⟩)
    rw [upd_ne ne]
    exact ⟨h1, h2⟩
theorem Desc.forget {G H : Hp} {cs : Cells} {c : Addr × HO} (d : Desc G (c :: cs) H) : Desc G cs H :=
  ⟨d.same, (List.nodup_cons.mp d.nd).2, fun x hx => d.cell x (List.mem_cons_of_mem _ hx)⟩
theorem Desc.perm {G H : Hp} {cs cs' : Cells} (d : Desc G cs H) (p : cs.Perm cs') : Desc G cs' H :=
  ⟨d.same, (p.map Prod.fst).nodup_iff.mp d.nd, fun x hx => d.cell x (p.mem_iff.mpr hx)⟩
theorem Desc.refl (H : Hp) : Desc H [] H := ⟨Same.refl H, List.nodup_nil, fun _ h => nomatch h⟩
theorem seqT {K : PySem.W.Frag} {H H' : Hp} {a : Addr} {xs : List V} (e : Same H H') (h : SqT K H a xs) : SqT K H' a xs := by
  rcases h with (h | ⟨o, h⟩) | h
  · exact .inl (.inl (e _ _ h))
  · exact .inl (.inr ⟨o, e _ _ h⟩)
  · exact .inr h

/-! ### judgements by what the machine does -/
section
variable (X : Cx)
structure wE (e : Expr) (σ : L2.St) (H : Hp) (Q : VK) : Prop where
  run : ∀ pins s, Inv X pins σ H s → wpAny (model X.prog X.w) X.A (eval e X.env) (EP X pins σ Q) X.xe s
structure wT (e : Expr) (σ : L2.St) (H : Hp) (Q : Bool → Hp → Prop) : Prop where
  run : ∀ pins s, Inv X pins σ H s → wpAny (model X.prog X.w) X.A (isTrue e X.env (eval e X.env)) (TP X pins σ Q) X.xe s
structure wW (e : Expr) (σ : L2.St) (H : Hp) (Q : Bool → Hp → Prop) : Prop where
  run : ∀ (whole : Sem Value) pins s, Inv X pins σ H s → wpAny (model X.prog X.w) X.A (isTrue e X.env whole) (TP X pins σ Q) X.xe s
structure wA (es : List Expr) (σ : L2.St) (H : Hp) (Q : List V → Hp → Prop) : Prop where
  run : ∀ (pos : Pos) pins s, Inv X pins σ H s → wpAny (model X.prog X.w) X.A (spliced (backTo pos (starEach es X.env))) (AP X pins σ Q) X.xe s
structure wS (st : Stmt) (D : Ends) (σ : L2.St) (H : Hp) : Prop where
  run : ∀ pins s, Inv X pins σ H s → wpAny (model X.prog X.w) X.A (exec st X.env) (SP X pins D) X.xe s
structure wSs (st : List Stmt) (D : Ends) (σ : L2.St) (H : Hp) : Prop where
  run : ∀ pins s, Inv X pins σ H s → wpAny (model X.prog X.w) X.A (execs st X.env) (SP X pins D) X.xe s
theorem sE (e : Expr) : PE X e (wE X e) := ⟨fun pins s _ _ _ I h => h.run pins s I⟩
theorem sT (e : Expr) : PT X e (wT X e) := ⟨fun pins s _ _ _ I h => h.run pins s I⟩
theorem sW (e : Expr) : PW X e (wW X e) := ⟨fun whole pins s _ _ _ I h => h.run whole pins s I⟩
theorem sA (es : List Expr) : PA X es (wA X es) := ⟨fun pos pins s _ _ _ I h => h.run pos pins s I⟩
theorem sS (st : Stmt) : PS X st (wS X st) := ⟨fun pins s _ _ _ I h => h.run pins s I⟩
theorem sSs (st : List Stmt) : PSs X st (wSs X st) := ⟨fun pins s _ _ _ I h => h.run pins s I⟩
end
section
variable {X : Cx} {e : Expr} {es : List Expr} {st : Stmt} {sts : List Stmt} {σ : L2.St} {H : Hp}
theorem uE {t : TE} {Q : VK} (h : PE X e t) (q : t σ H Q) : wE X e σ H Q := ⟨fun pins s I => h.run pins s σ H Q I q⟩
theorem uT {t : TT} {Q : Bool → Hp → Prop} (h : PT X e t) (q : t σ H Q) : wT X e σ H Q := ⟨fun pins s I => h.run pins s σ H Q I q⟩
theorem uW {t : TT} {Q : Bool → Hp → Prop} (h : PW X e t) (q : t σ H Q) : wW X e σ H Q := ⟨fun whole pins s I => h.run whole pins s σ H Q I q⟩
theorem uA {t : TA} {Q : List V → Hp → Prop} (h : PA X es t) (q : t σ H Q) : wA X es σ H Q := ⟨fun pos pins s I => h.run pos pins s σ H Q I q⟩
theorem uS {t : TS} {D : Ends} (h : PS X st t) (q : t D σ H) : wS X st D σ H := ⟨fun pins s I => h.run pins s σ H D I q⟩
theorem uSs {t : TS} {D : Ends} (h : PSs X sts t) (q : t D σ H) : wSs X sts D σ H := ⟨fun pins s I => h.run pins s σ H D I q⟩
end

/-- e comes to a value that P tells of; what was frozen stays, no cell changes -/
def D (X : Cx) (e : Expr) (σ : L2.St) (G : Hp) (cs : Cells) (P : Hp → V → Prop) : Prop :=
  ∀ G1 H, Same G G1 → Desc G1 cs H → ∀ Q : VK, (∀ G2 H2 v, Same G1 G2 → Desc G2 cs H2 → P G2 v → Q v H2) → wE X e σ H Q
def T (X : Cx) (e : Expr) (σ : L2.St) (G : Hp) (cs : Cells) (b : Bool) : Prop :=
  ∀ G1 H, Same G G1 → Desc G1 cs H → ∀ Q : Bool → Hp → Prop, (∀ G2 H2, Same G1 G2 → Desc G2 cs H2 → Q b H2) → wT X e σ H Q
def TW (X : Cx) (e : Expr) (σ : L2.St) (G : Hp) (cs : Cells) (b : Bool) : Prop :=
  ∀ G1 H, Same G G1 → Desc G1 cs H → ∀ Q : Bool → Hp → Prop, (∀ G2 H2, Same G1 G2 → Desc G2 cs H2 → Q b H2) → wW X e σ H Q
def A (X : Cx) (es : List Expr) (σ : L2.St) (G : Hp) (cs : Cells) (P : Hp → List V → Prop) : Prop :=
  ∀ G1 H, Same G G1 → Desc G1 cs H → ∀ Q : List V → Hp → Prop, (∀ G2 H2 vs, Same G1 G2 → Desc G2 cs H2 → P G2 vs → Q vs H2) → wA X es σ H Q

class Mono (P : Hp → V → Prop) : Prop where
  mono : ∀ {G G' : Hp} {v : V}, Same G G' → P G v → P G' v
class MonoA (P : Hp → List V → Prop) : Prop where
  mono : ∀ {G G' : Hp} {v : List V}, Same G G' → P G v → P G' v

/-! ### what a value tells -/
def rI (i : Int) : Hp → V → Prop := fun _ v => v = .int i
def rB (b : Bool) : Hp → V → Prop := fun _ v => v = .bl b
def rS (l : List Nat) : Hp → V → Prop := fun _ v => v = .str (SX.S l)
def rN (_ : Unit) : Hp → V → Prop := fun _ v => v = .non
def rV (w : V) : Hp → V → Prop := fun _ v => v = w
def rO {α : Type} (r : α → Hp → V → Prop) : Option α → Hp → V → Prop
  | none => fun _ v => v = .non
  | some x => r x
def Rs {α : Type} (r : α → Hp → V → Prop) (G : Hp) : List α → List V → Prop := Paired fun x v => r x G v
def rL (K : PySem.W.Frag) {α : Type} (r : α → Hp → V → Prop) (xs : List α) : Hp → V → Prop := fun G v => ∃ a vs, v = .ref a ∧ SqL K G a vs ∧ Rs r G xs vs
/-- a list that may be read: frozen, or a cell -/
def rdL (K : PySem.W.Frag) (cs : Cells) {α : Type} (r : α → Hp → V → Prop) (xs : List α) : Hp → V → Prop := fun G v => ∃ a vs, v = .ref a ∧ (SqL K G a vs ∨ (a, .lst vs) ∈ cs) ∧ Rs r G xs vs
def rT (K : PySem.W.Frag) {α : Type} (r : α → Hp → List V → Prop) (x : α) : Hp → V → Prop := fun G v => ∃ a vs, v = .ref a ∧ SqT K G a vs ∧ r x G vs
/-- the places of a tuple -/
def c0 {α : Type} (r : α → Hp → V → Prop) (x : α) : Hp → List V → Prop := fun G vs => ∃ v, vs = [v] ∧ r x G v
def cc {α β : Type} (r : α → Hp → V → Prop) (r' : β → Hp → List V → Prop) (x : α × β) : Hp → List V → Prop := fun G vs => ∃ v ws, vs = v :: ws ∧ r x.1 G v ∧ r' x.2 G ws
theorem Rs.mono {α : Type} {r : α → Hp → V → Prop} [m : ∀ x, Mono (r x)] {G G' : Hp} (e : Same G G') : ∀ {xs : List α} {vs : List V}, Rs r G xs vs → Rs r G' xs vs
  | _, _, .nil => .nil
  | _, _, .cons h t => .cons ((m _).mono e h) (Rs.mono e t)
theorem Rs.length {α : Type} {r : α → Hp → V → Prop} {G : Hp} {xs : List α} {vs : List V} (h : Rs r G xs vs) : xs.length = vs.length := Paired.length h
theorem Rs.get {α : Type} {r : α → Hp → V → Prop} {G : Hp} : ∀ {xs : List α} {vs : List V} {i : Nat} {x : α}, Rs r G xs vs → xs[i]? = some x → ∃ v, vs[i]? = some v ∧ r x G v
  | _, _, _, _, .nil, e => by simp at e
  | _, _, 0, _, .cons h _, e => by
    simp at e
    subst e
    exact ⟨_, rfl, h⟩
  | _, _, i + 1, x, .cons _ t, e => by
    obtain ⟨v, h1, h2⟩ := Rs.get (i := i) (x := x) t (by simpa using e)
    exact ⟨v, by simpa using h1, h2⟩
theorem Rs.getV {α : Type} {r : α → Hp → V → Prop} {G : Hp} : ∀ {xs : List α} {vs : List V} {i : Nat} {v : V}, Rs r G xs vs → vs[i]? = some v → ∃ x, xs[i]? = some x ∧ r x G v
  | _, _, _, _, .nil, e => by simp at e
  | _, _, 0, _, .cons h _, e => by
    simp at e
    subst e
    exact ⟨_, rfl, h⟩
  | _, _, i + 1, x, .cons _ t, e => by
    obtain ⟨v, h1, h2⟩ := Rs.getV (i := i) (v := x) t (by simpa using e)
    exact ⟨v, by simpa using h1, h2⟩
theorem Rs.snoc {α : Type} {r : α → Hp → V → Prop} {G : Hp} {x : α} {v : V} (hx : r x G v) : ∀ {xs : List α} {vs : List V}, Rs r G xs vs → Rs r G (xs ++ [x]) (vs ++ [v])
  | _, _, .nil => .cons hx .nil
  | _, _, .cons h t => .cons h (Rs.snoc hx t)
theorem Rs.append {α : Type} {r : α → Hp → V → Prop} {G : Hp} {ys : List α} {ws : List V} (hy : Rs r G ys ws) : ∀ {xs : List α} {vs : List V}, Rs r G xs vs → Rs r G (xs ++ ys) (vs ++ ws)
  | _, _, .nil => hy
  | _, _, .cons h t => .cons h (Rs.append hy t)
theorem Rs.set {α : Type} {r : α → Hp → V → Prop} {G : Hp} {x : α} {v : V} (hx : r x G v) : ∀ {xs : List α} {vs : List V} (i : Nat), Rs r G xs vs → Rs r G (xs.set i x) (vs.set i v)
  | _, _, _, .nil => .nil
  | _, _, 0, .cons _ t => .cons hx t
  | _, _, i + 1, .cons h t => .cons h (Rs.set hx i t)
theorem Rs.take {α : Type} {r : α → Hp → V → Prop} {G : Hp} : ∀ {xs : List α} {vs : List V} (n : Nat), Rs r G xs vs → Rs r G (xs.take n) (vs.take n)
  | _, _, 0, _ => .nil
  | _, _, _ + 1, .nil => .nil
  | _, _, n + 1, .cons h t => .cons h (Rs.take n t)
theorem Rs.drop {α : Type} {r : α → Hp → V → Prop} {G : Hp} : ∀ {xs : List α} {vs : List V} (n : Nat), Rs r G xs vs → Rs r G (xs.drop n) (vs.drop n)
  | _, _, 0, h => h
  | _, _, _ + 1, .nil => .nil
  | _, _, n + 1, .cons _ t => Rs.drop n t
theorem Rs.map {α : Type} {r : α → Hp → V → Prop} {f : α → V} {G : Hp} (h : ∀ x v, r x G v → v = f x) : ∀ {xs : List α} {vs : List V}, Rs r G xs vs → vs = xs.map f
  | _, _, .nil => rfl
  | _, _, .cons p t => by
    rw [h _ _ p, Rs.map h t]
    rfl
theorem Rs.of_map {α : Type} {r : α → Hp → V → Prop} {f : α → V} {G : Hp} (h : ∀ x, r x G (f x)) : ∀ (xs : List α), Rs r G xs (xs.map f)
  | [] => .nil
  | x :: xs => .cons (h x) (Rs.of_map h xs)
instance (i : Int) : Mono (rI i) := ⟨fun _ h => h⟩
instance (b : Bool) : Mono (rB b) := ⟨fun _ h => h⟩
instance (l : List Nat) : Mono (rS l) := ⟨fun _ h => h⟩
instance (u : Unit) : Mono (rN u) := ⟨fun _ h => h⟩
instance (w : V) : Mono (rV w) := ⟨fun _ h => h⟩
instance {α : Type} (r : α → Hp → V → Prop) [m : ∀ x, Mono (r x)] (o : Option α) : Mono (rO r o) := by
  cases o with
  | none => exact ⟨fun _ h => h⟩
  | some x => exact m x
instance (K : PySem.W.Frag) {α : Type} (r : α → Hp → V → Prop) [m : ∀ x, Mono (r x)] (xs : List α) : Mono (rL K r xs) :=
  ⟨fun e ⟨a, vs, h1, h2, h3⟩ => ⟨a, vs, h1, e.seq h2, h3.mono e⟩⟩
instance (K : PySem.W.Frag) (cs : Cells) {α : Type} (r : α → Hp → V → Prop) [m : ∀ x, Mono (r x)] (xs : List α) : Mono (rdL K cs r xs) :=
  ⟨fun e ⟨a, vs, h1, h2, h3⟩ => ⟨a, vs, h1, h2.imp (e.seq) id, h3.mono e⟩⟩
instance (K : PySem.W.Frag) {α : Type} (r : α → Hp → List V → Prop) [m : ∀ x, MonoA (r x)] (x : α) : Mono (rT K r x) :=
  ⟨fun e ⟨a, vs, h1, h2, h3⟩ => ⟨a, vs, h1, seqT e h2, (m x).mono e h3⟩⟩
instance {α : Type} (r : α → Hp → V → Prop) [m : ∀ x, Mono (r x)] (x : α) : MonoA (c0 r x) := ⟨fun e ⟨v, h1, h2⟩ => ⟨v, h1, (m x).mono e h2⟩⟩
instance {α β : Type} (r : α → Hp → V → Prop) (r' : β → Hp → List V → Prop) [m : ∀ x, Mono (r x)] [m' : ∀ x, MonoA (r' x)] (x : α × β) : MonoA (cc r r' x) :=
  ⟨fun e ⟨v, ws, h1, h2, h3⟩ => ⟨v, ws, h1, (m x.1).mono e h2, (m' x.2).mono e h3⟩⟩
theorem rdL_of {K : PySem.W.Frag} {cs : Cells} {α : Type} {r : α → Hp → V → Prop} {xs : List α} {G : Hp} {v : V} (h : rL K r xs G v) : rdL K cs r xs G v :=
  let ⟨a, vs, h1, h2, h3⟩ := h
  ⟨a, vs, h1, .inl h2, h3⟩
theorem rdL_cell {K : PySem.W.Frag} {cs : Cells} {α : Type} {r : α → Hp → V → Prop} {xs : List α} {G : Hp} {a : Addr} {vs : List V} (h : (a, .lst vs) ∈ cs) (h3 : Rs r G xs vs) : rdL K cs r xs G (.ref a) := ⟨a, vs, rfl, .inr h, h3⟩
theorem rdL.sq {K : PySem.W.Frag} {cs : Cells} {α : Type} {r : α → Hp → V → Prop} {xs : List α} {G H : Hp} {v : V} (h : rdL K cs r xs G v) (d : Desc G cs H) : ∃ a vs, v = .ref a ∧ SqL K H a vs ∧ Rs r G xs vs := by
  obtain ⟨a, vs, h1, h2, h3⟩ := h
  refine ⟨a, vs, h1, ?_, h3⟩
  rcases h2 with h2 | h2
  · exact d.same.seq h2
  · exact SqL.of (d.at_ h2)

/-! ### expressions -/
section
variable {X : Cx} {σ : L2.St} {G : Hp} {cs : Cells} {e a b c : Expr} {es : List Expr} {P Pa Pb Pc : Hp → V → Prop} {pos p : Pos}
theorem D.imp {P' : Hp → V → Prop} (h : D X e σ G cs P) (i : ∀ G v, P G v → P' G v) : D X e σ G cs P' := fun G1 H s d Q q => h G1 H s d Q fun G2 H2 v s2 d2 p => q G2 H2 v s2 d2 (i G2 v p)
theorem D.up {G' : Hp} (h : D X e σ G cs P) (s : Same G G') : D X e σ G' cs P := fun G1 H s1 d Q q => h G1 H (s.trans s1) d Q q
theorem T.up {G' : Hp} {k : Bool} (h : T X e σ G cs k) (s : Same G G') : T X e σ G' cs k := fun G1 H s1 d Q q => h G1 H (s.trans s1) d Q q
/-- by a rule of the layer -/
theorem d_by {t : TE} (h : PE X e t) (q : ∀ G1 H, Same G G1 → Desc G1 cs H → ∀ Q : VK, (∀ G2 H2 v, Same G1 G2 → Desc G2 cs H2 → P G2 v → Q v H2) → t σ H Q) : D X e σ G cs P := fun G1 H s d Q k => uE h (q G1 H s d Q k)
theorem d_var (i : Nat) {x : Str} {v : V} [m : Mono P] (hs : σ[i]? = some (some v)) (hp : P G v) (hN : X.N[i]? = some x := by rfl) (hv : Vis X.env.scope x := by first | exact Or.inl rfl | exact Or.inr (Or.inl rfl) | exact Or.inr (Or.inr rfl))
    (hd : (x == ("__debug__" : Str)) = false := by decide) (hcd : (x == ("__classdict__" : Str)) = false := by decide) : D X (.Name x pos) σ G cs P :=
  d_by (pe_var hN hv hd hcd) fun G1 H s d Q q => ⟨v, hs, q G1 H v (Same.refl _) d (m.mono s hp)⟩
theorem d_int {i : Int} {j : Nat} : D X (.Constant (.int i) j pos) σ G cs (rI i) := d_by pe_int fun G1 H s d Q q => q G1 H _ (Same.refl _) d rfl
theorem d_bl {i : Bool} {j : Nat} : D X (.Constant (.bool i) j pos) σ G cs (rB i) := d_by pe_bl fun G1 H s d Q q => q G1 H _ (Same.refl _) d rfl
theorem d_non {j : Nat} : D X (.Constant .none j pos) σ G cs (rN ()) := d_by pe_non fun G1 H s d Q q => q G1 H _ (Same.refl _) d rfl
theorem d_str {x : Str} {l : List Nat} {j : Nat} (h : x = SX.S l) : D X (.Constant (.str x) j pos) σ G cs (rS l) := d_by pe_str fun G1 H s d Q q => q G1 H _ (Same.refl _) d (by rw [h]; rfl)
/-- a module's constant by its value -/
theorem d_glob {x : Str} {v : V} [m : Mono P] (hg : Gl X x) (h : ∃ u, X.mg x = some u ∧ RelV v u) (hp : P G v) (hd : (x == ("__debug__" : Str)) = false := by decide) : D X (.Name x pos) σ G cs P := by
  obtain ⟨u, hm, r⟩ := h
  exact d_by (pe_glob hg hm r hd) fun G1 H s d Q q => q G1 H v (Same.refl _) d (m.mono s hp)
/-- a two-place operation -/
theorem d_bin {op : Operator} {r : R2} [Mono Pa] (ho : OpR X (binaryOp op) r) (ha : D X a σ G cs Pa) (hb : D X b σ G cs Pb)
    (hr : ∀ G1 H x y, Same G G1 → Desc G1 cs H → Pa G1 x → Pb G1 y → ∀ Q : VK, (∀ G2 H2 v, Same G1 G2 → Desc G2 cs H2 → P G2 v → Q v H2) → r x y H Q) : D X (.BinOp a op b pos) σ G cs P :=
  d_by (pe_op ho (sE X a) (sE X b)) fun G1 H s d Q q => ha G1 H s d _ fun G2 H2 x s2 d2 hx => hb G2 H2 (s.trans s2) d2 _ fun G3 H3 y s3 d3 hy =>
    hr G3 H3 x y ((s.trans s2).trans s3) d3 (Mono.mono s3 hx) hy Q fun G4 H4 v s4 d4 hv => q G4 H4 v ((s2.trans s3).trans s4) d4 hv
theorem d_un {op : UnaryOp} {r : V → Hp → VK → Prop} (ho : UnR X (unaryOp op) r) (ha : D X a σ G cs Pa)
    (hr : ∀ G1 H x, Same G G1 → Desc G1 cs H → Pa G1 x → ∀ Q : VK, (∀ G2 H2 v, Same G1 G2 → Desc G2 cs H2 → P G2 v → Q v H2) → r x H Q) : D X (.UnaryOp op a pos) σ G cs P :=
  d_by (pe_un ho (sE X a)) fun G1 H s d Q q => ha G1 H s d _ fun G2 H2 x s2 d2 hx => hr G2 H2 x (s.trans s2) d2 hx Q fun G4 H4 v s4 d4 hv => q G4 H4 v (s2.trans s4) d4 hv
/-- comparisons, as values and as tests -/
theorem d_cmp {op : CmpOp} {r : R2} {k : Bool} [Mono Pa] (ho : OpR X (compareOp op) r) (hm : behindInMarks op b = false) (ha : D X a σ G cs Pa) (hb : D X b σ G cs Pb)
    (hr : ∀ G1 H x y, Same G G1 → Desc G1 cs H → Pa G1 x → Pb G1 y → ∀ Q : VK, Q (.bl k) H → r x y H Q) : D X (.Compare a [op] [b] pos) σ G cs (rB k) :=
  d_by (pe_cmpR ho (sE X a) (sE X b) hm) fun G1 H s d Q q => ha G1 H s d _ fun G2 H2 x s2 d2 hx => hb G2 H2 (s.trans s2) d2 _ fun G3 H3 y s3 d3 hy =>
    hr G3 H3 x y ((s.trans s2).trans s3) d3 (Mono.mono s3 hx) hy Q (q G3 H3 _ (s2.trans s3) d3 rfl)
theorem t_cmp {op : CmpOp} {r : R2} {k : Bool} [Mono Pa] (ho : OpR X (compareOp op) r) (hm : behindInMarks op b = false) (ha : D X a σ G cs Pa) (hb : D X b σ G cs Pb)
    (hr : ∀ G1 H x y, Same G G1 → Desc G1 cs H → Pa G1 x → Pb G1 y → ∀ Q : VK, Q (.bl k) H → r x y H Q) : T X (.Compare a [op] [b] pos) σ G cs k := fun G1 H s d Q q =>
  uT (pt_cmpR ho (sE X a) (sE X b) hm) (ha G1 H s d _ fun G2 H2 x s2 d2 hx => hb G2 H2 (s.trans s2) d2 _ fun G3 H3 y s3 d3 hy =>
    hr G3 H3 x y ((s.trans s2).trans s3) d3 (Mono.mono s3 hx) hy _ ⟨k, rfl, q G3 H3 (s2.trans s3) d3⟩)
theorem d_chain {op op' : CmpOp} {r r' : R2} {k k' : Bool} [Mono Pa] [Mono Pb] (ho : OpR X (compareOp op) r) (ho' : OpR X (compareOp op') r') (ha : D X a σ G cs Pa) (hb : D X b σ G cs Pb) (hc : D X c σ G cs Pc)
    (hr : ∀ G1 H x y, Same G G1 → Desc G1 cs H → Pa G1 x → Pb G1 y → ∀ Q : VK, Q (.bl k) H → r x y H Q) (hr' : ∀ G1 H x y, Same G G1 → Desc G1 cs H → Pb G1 x → Pc G1 y → ∀ Q : VK, Q (.bl k') H → r' x y H Q)
    (hm : lastMarks [op, op'] [b, c] = false := by with_unfolding_all rfl) : D X (.Compare a [op, op'] [b, c] pos) σ G cs (rB (k && k')) :=
  d_by (pe_chain ho ho' (sE X a) (sE X b) (sE X c) hm) fun G1 H s d Q q => ha G1 H s d _ fun G2 H2 x s2 d2 hx => hb G2 H2 (s.trans s2) d2 _ fun G3 H3 y s3 d3 hy => by
    refine hr G3 H3 x y ((s.trans s2).trans s3) d3 (Mono.mono s3 hx) hy _ ⟨k, rfl, ?_⟩
    cases k with
    | false => exact q G3 H3 _ (s2.trans s3) d3 rfl
    | true => exact hc G3 H3 ((s.trans s2).trans s3) d3 _ fun G4 H4 z s4 d4 hz => hr' G4 H4 y z (((s.trans s2).trans s3).trans s4) d4 (Mono.mono s4 hy) hz Q (q G4 H4 _ ((s2.trans s3).trans s4) d4 rfl)
theorem t_chain {op op' : CmpOp} {r r' : R2} {k k' : Bool} [Mono Pa] [Mono Pb] (ho : OpR X (compareOp op) r) (ho' : OpR X (compareOp op') r') (ha : D X a σ G cs Pa) (hb : D X b σ G cs Pb) (hc : D X c σ G cs Pc)
    (hr : ∀ G1 H x y, Same G G1 → Desc G1 cs H → Pa G1 x → Pb G1 y → ∀ Q : VK, Q (.bl k) H → r x y H Q) (hr' : ∀ G1 H x y, Same G G1 → Desc G1 cs H → Pb G1 x → Pc G1 y → ∀ Q : VK, Q (.bl k') H → r' x y H Q)
    (hm : lastMarks [op, op'] [b, c] = false := by with_unfolding_all rfl) : T X (.Compare a [op, op'] [b, c] pos) σ G cs (k && k') := fun G1 H s d Q q =>
  uT (pt_chain ho ho' (sE X a) (sE X b) (sE X c) hm) (ha G1 H s d _ fun G2 H2 x s2 d2 hx => hb G2 H2 (s.trans s2) d2 _ fun G3 H3 y s3 d3 hy => by
    refine hr G3 H3 x y ((s.trans s2).trans s3) d3 (Mono.mono s3 hx) hy _ ⟨k, rfl, ?_⟩
    cases k with
    | false => exact ⟨false, rfl, q G3 H3 (s2.trans s3) d3⟩
    | true => exact hc G3 H3 ((s.trans s2).trans s3) d3 _ fun G4 H4 z s4 d4 hz => hr' G4 H4 y z (((s.trans s2).trans s3).trans s4) d4 (Mono.mono s4 hy) hz _ ⟨k', rfl, q G4 H4 ((s2.trans s3).trans s4) d4⟩)
/-- and, or, not; as values, as tests -/
theorem t_val {k : Bool} (h : D X e σ G cs (rB k)) (he : ∀ whole, isTrue e X.env whole = (do let v ← whole; standAt e.pos; holding [v] (truthy v)) := by intro _; rfl) : T X e σ G cs k := fun G1 H s d Q q =>
  uT (pt_val (sE X e) he) (h G1 H s d _ fun G2 H2 v s2 d2 hv => ⟨k, hv, q G2 H2 s2 d2⟩)
theorem t_not {k : Bool} (h : T X a σ G cs k) : T X (.UnaryOp .Not a pos) σ G cs (!k) := fun G1 H s d Q q => uT (pt_not (sT X a)) (h G1 H s d _ fun G2 H2 s2 d2 => q G2 H2 s2 d2)
theorem t_w {k : Bool} (h : TW X e σ G cs k) : T X e σ G cs k := fun G1 H s d Q q => uT (PW.pt (sW X e)) (h G1 H s d Q q)
theorem w_and1 {k : Bool} (h : T X a σ G cs k) : TW X (.BoolOp .And [a] pos) σ G cs k := fun G1 H s d Q q => uW (pw_and1 (sT X a)) (h G1 H s d Q q)
theorem w_or1 {k : Bool} (h : T X a σ G cs k) : TW X (.BoolOp .Or [a] pos) σ G cs k := fun G1 H s d Q q => uW (pw_or1 (sT X a)) (h G1 H s d Q q)
theorem w_and {rest : List Expr} {k k' : Bool} (h : T X a σ G cs k) (h' : k = true → TW X (.BoolOp .And (b :: rest) pos) σ G cs k') : TW X (.BoolOp .And (a :: b :: rest) pos) σ G cs (k && k') := fun G1 H s d Q q =>
  uW (pw_and (sT X a) (sW X _)) (h G1 H s d _ fun G2 H2 s2 d2 => by
    cases k with
    | false => exact iteF (q G2 H2 s2 d2)
    | true => exact iteT (h' rfl G2 H2 (s.trans s2) d2 Q fun G3 H3 s3 d3 => q G3 H3 (s2.trans s3) d3))
theorem w_or {rest : List Expr} {k k' : Bool} (h : T X a σ G cs k) (h' : k = false → TW X (.BoolOp .Or (b :: rest) pos) σ G cs k') : TW X (.BoolOp .Or (a :: b :: rest) pos) σ G cs (k || k') := fun G1 H s d Q q =>
  uW (pw_or (sT X a) (sW X _)) (h G1 H s d _ fun G2 H2 s2 d2 => by
    cases k with
    | true => exact iteT (q G2 H2 s2 d2)
    | false => exact iteF (h' rfl G2 H2 (s.trans s2) d2 Q fun G3 H3 s3 d3 => q G3 H3 (s2.trans s3) d3))
theorem d_one {op : BoolOp} (h : D X a σ G cs P) : D X (.BoolOp op [a] pos) σ G cs P := fun G1 H s d Q q => uE (pe_one (sE X a)) (h G1 H s d Q q)
theorem d_and {rest : List Expr} {k k' : Bool} (h : D X a σ G cs (rB k)) (h' : k = true → D X (.BoolOp .And (b :: rest) pos) σ G cs (rB k')) : D X (.BoolOp .And (a :: b :: rest) pos) σ G cs (rB (k && k')) :=
  d_by (pe_and (sE X a) (sE X _)) fun G1 H s d Q q => h G1 H s d _ fun G2 H2 v s2 d2 hv => ⟨k, hv, by
    cases k with
    | false => exact iteF (q G2 H2 _ s2 d2 rfl)
    | true => exact iteT (h' rfl G2 H2 (s.trans s2) d2 Q fun G3 H3 w s3 d3 hw => q G3 H3 w (s2.trans s3) d3 hw)⟩
theorem d_or {rest : List Expr} {k k' : Bool} (h : D X a σ G cs (rB k)) (h' : k = false → D X (.BoolOp .Or (b :: rest) pos) σ G cs (rB k')) : D X (.BoolOp .Or (a :: b :: rest) pos) σ G cs (rB (k || k')) :=
  d_by (pe_or (sE X a) (sE X _)) fun G1 H s d Q q => h G1 H s d _ fun G2 H2 v s2 d2 hv => ⟨k, hv, by
    cases k with
    | true => exact iteT (q G2 H2 _ s2 d2 rfl)
    | false => exact iteF (h' rfl G2 H2 (s.trans s2) d2 Q fun G3 H3 w s3 d3 hw => q G3 H3 w (s2.trans s3) d3 hw)⟩
theorem d_not {k : Bool} (h : D X a σ G cs (rB k)) : D X (.UnaryOp .Not a pos) σ G cs (rB (!k)) :=
  d_by (pe_not (sE X a)) fun G1 H s d Q q => h G1 H s d _ fun G2 H2 v s2 d2 hv => ⟨k, hv, q G2 H2 _ s2 d2 rfl⟩
theorem d_if {α : Type} {k : Bool} {r : α → Hp → V → Prop} {x y : α} (hc : T X c σ G cs k) (ha : k = true → D X a σ G cs (r x)) (hb : k = false → D X b σ G cs (r y)) : D X (.IfExp c a b pos) σ G cs (r (if k = true then x else y)) :=
  d_by (pe_ifExp (sT X c) (sE X a) (sE X b)) fun G1 H s d Q q => hc G1 H s d _ fun G2 H2 s2 d2 => by
    cases k with
    | true => exact iteT (ha rfl G2 H2 (s.trans s2) d2 Q fun G3 H3 w s3 d3 hw => q G3 H3 w (s2.trans s3) d3 hw)
    | false => exact iteF (hb rfl G2 H2 (s.trans s2) d2 Q fun G3 H3 w s3 d3 hw => q G3 H3 w (s2.trans s3) d3 hw)
/-! arguments -/
def aN : Hp → List V → Prop := fun _ vs => vs = []
def aC (P : Hp → V → Prop) (Ps : Hp → List V → Prop) : Hp → List V → Prop := fun G vs => ∃ v ws, vs = v :: ws ∧ P G v ∧ Ps G ws
theorem a_nil : A X [] σ G cs aN := fun G1 H s d Q q => uA pa_nil (q G1 H _ (Same.refl _) d rfl)
def noStar : Expr → Bool
  | .Starred _ _ => false
  | _ => true
theorem star_plain {e : Expr} {es : List Expr} {env : Env} (h : noStar e = true) : starEach (e :: es) env = (false, eval e env) :: starEach es env := by
  cases e <;> first | rfl | cases h
theorem a_cons {Ps : Hp → List V → Prop} [Mono P] (h : D X e σ G cs P) (hs : A X es σ G cs Ps) (hst : starEach (e :: es) X.env = (false, eval e X.env) :: starEach es X.env := by exact star_plain rfl) : A X (e :: es) σ G cs (aC P Ps) := fun G1 H s d Q q =>
  uA (pa_cons (sE X e) (sA X es) hst) (h G1 H s d _ fun G2 H2 v s2 d2 hv => hs G2 H2 (s.trans s2) d2 _ fun G3 H3 ws s3 d3 hw => q G3 H3 _ (s2.trans s3) d3 ⟨v, ws, rfl, Mono.mono s3 hv, hw⟩)
theorem d_callB {x : Str} {id : String} {r : List V → Hp → VK → Prop} {Ps : Hp → List V → Prop} (hc : CallR X (.builtin id) r) (hm : X.mg x = none) (ha : A X (e :: es) σ G cs Ps)
    (hr : ∀ G1 H vs, Same G G1 → Desc G1 cs H → Ps G1 vs → ∀ Q : VK, (∀ G2 H2 v, Same G1 G2 → Desc G2 cs H2 → P G2 v → Q v H2) → r vs H Q)
    (hg : Gl X x := by rfl) (hv : bootBuiltins x = some (.builtin id) := by decide +kernel) (hn : x ≠ "__name__" := by decide) (hd : (x == ("__debug__" : Str)) = false := by decide)
    (he : starEach (e :: es) X.env = (false, eval e X.env) :: starEach es X.env := by exact star_plain rfl) (hpl : (backTo pos (starEach es X.env)).any (·.1) = false := by rfl) : D X (.Call (.Name x p) (e :: es) [] pos) σ G cs P :=
  d_by (pe_callB hc hg hm hv (sA X _) (hn := hn) (hdb := hd) (he := he) (hpl := hpl)) fun G1 H s d Q q => ha G1 H s d _ fun G2 H2 vs s2 d2 hvs => hr G2 H2 vs (s.trans s2) d2 hvs Q fun G3 H3 v s3 d3 h3 => q G3 H3 v (s2.trans s3) d3 h3
theorem d_callTy {x : Str} {id : String} {r : List V → Hp → VK → Prop} {Ps : Hp → List V → Prop} (hc : CallR X (.type id) r) (hm : X.mg x = none) (ha : A X (e :: es) σ G cs Ps)
    (hr : ∀ G1 H vs, Same G G1 → Desc G1 cs H → Ps G1 vs → ∀ Q : VK, (∀ G2 H2 v, Same G1 G2 → Desc G2 cs H2 → P G2 v → Q v H2) → r vs H Q)
    (hg : Gl X x := by rfl) (hv : bootBuiltins x = some (.type id) := by decide +kernel) (hn : x ≠ "__name__" := by decide) (hd : (x == ("__debug__" : Str)) = false := by decide)
    (he : starEach (e :: es) X.env = (false, eval e X.env) :: starEach es X.env := by exact star_plain rfl) (hpl : (backTo pos (starEach es X.env)).any (·.1) = false := by rfl) : D X (.Call (.Name x p) (e :: es) [] pos) σ G cs P :=
  d_by (pe_callTy hc hg hm hv (sA X _) (hn := hn) (hdb := hd) (he := he) (hpl := hpl)) fun G1 H s d Q q => ha G1 H s d _ fun G2 H2 vs s2 d2 hvs => hr G2 H2 vs (s.trans s2) d2 hvs Q fun G3 H3 v s3 d3 h3 => q G3 H3 v (s2.trans s3) d3 h3
end
end J

namespace J
open PySem L2

/-! ### what a block comes to -/
/-- ε errors, S the state behind the block, L the state of the loop around, R what is handed back -/
inductive Out (ε S L R : Type) where
  | nx (s : S) | bk (l : L) | ct (l : L) | rt (r : R) | er (k : ε)
namespace Out
variable {ε S S' L R : Type}
def bind (m : Out ε S L R) (k : S → Out ε S' L R) : Out ε S' L R := match m with
  | .nx s => k s
  | .bk l => .bk l
  | .ct l => .ct l
  | .rt r => .rt r
  | .er e => .er e
@[simp] theorem bind_nx (s : S) (k : S → Out ε S' L R) : (Out.nx s : Out ε S L R).bind k = k s := rfl
@[simp] theorem bind_bk (l : L) (k : S → Out ε S' L R) : (Out.bk l : Out ε S L R).bind k = .bk l := rfl
@[simp] theorem bind_ct (l : L) (k : S → Out ε S' L R) : (Out.ct l : Out ε S L R).bind k = .ct l := rfl
@[simp] theorem bind_rt (r : R) (k : S → Out ε S' L R) : (Out.rt r : Out ε S L R).bind k = .rt r := rfl
@[simp] theorem bind_er (e : ε) (k : S → Out ε S' L R) : (Out.er e : Out ε S L R).bind k = .er e := rfl
/-- the value of a body that hands back, and raises nothing -/
def val [Inhabited R] (m : Out Empty Unit Empty R) : R := match m with
  | .nx _ => default
  | .bk l => l.elim
  | .ct l => l.elim
  | .rt r => r
  | .er e => e.elim
@[simp] theorem val_rt [Inhabited R] (r : R) : (Out.rt r : Out Empty Unit Empty R).val = r := rfl
/-- of one that may raise -/
def res [Inhabited R] (m : Out ε Unit Empty R) : Except ε R := match m with
  | .nx _ => .ok default
  | .bk l => l.elim
  | .ct l => l.elim
  | .rt r => .ok r
  | .er e => .error e
@[simp] theorem res_rt [Inhabited R] (r : R) : (Out.rt r : Out ε Unit Empty R).res = .ok r := rfl
@[simp] theorem res_er [Inhabited R] (e : ε) : (Out.er e : Out ε Unit Empty R).res = .error e := rfl
@[simp] theorem res_nx [Inhabited R] (u : Unit) : (Out.nx u : Out ε Unit Empty R).res = .ok default := rfl
end Out
/-- a loop: f is a turn -/
def forL {ε S L R α : Type} (f : S → α → Out ε S S R) : S → List α → Out ε S L R
  | s, [] => .nx s
  | s, x :: xs => match f s x with
    | .nx s' => forL f s' xs
    | .ct s' => forL f s' xs
    | .bk s' => .nx s'
    | .rt r => .rt r
    | .er e => .er e
/-- a while: at most n turns -/
def whileN {ε S L R : Type} (c : S → Bool) (f : S → Out ε S S R) : Nat → S → Out ε S L R
  | 0, s => .nx s
  | n + 1, s => if c s = true then (match f s with
    | .nx s' => whileN c f n s'
    | .ct s' => whileN c f n s'
    | .bk s' => .nx s'
    | .rt r => .rt r
    | .er e => .er e) else .nx s

structure Po (ε S L R : Type) where
  nx : S → L2.St → Hp → Cells → Prop
  lp : L → L2.St → Hp → Cells → Prop
  rt : R → Hp → Cells → V → Prop
  er : ε → L2.St → Hp → Cells → Prop
/-- what is wanted behind, by the outcome -/
def Wish {ε S L R : Type} (W : ε → L2.St → Hp → Prop) (G : Hp) (Φ : Po ε S L R) (E : Ends) (m : Out ε S L R) : Prop := match m with
  | .nx s => ∀ σ2 G2 cs2 H2, Same G G2 → Desc G2 cs2 H2 → Φ.nx s σ2 G2 cs2 → E.nx σ2 H2
  | .bk l => ∀ σ2 G2 cs2 H2, Same G G2 → Desc G2 cs2 H2 → Φ.lp l σ2 G2 cs2 → E.bk σ2 H2
  | .ct l => ∀ σ2 G2 cs2 H2, Same G G2 → Desc G2 cs2 H2 → Φ.lp l σ2 G2 cs2 → E.ct σ2 H2
  | .rt r => ∀ v G2 cs2 H2, Same G G2 → Desc G2 cs2 H2 → Φ.rt r G2 cs2 v → E.rt v H2
  | .er k => ∀ σ2 G2 cs2 H2, Same G G2 → Desc G2 cs2 H2 → Φ.er k σ2 G2 cs2 → W k σ2 H2
theorem Wish.up {ε S L R : Type} {W : ε → L2.St → Hp → Prop} {G G' : Hp} {Φ : Po ε S L R} {E : Ends} {m : Out ε S L R} (h : Wish W G Φ E m) (s : Same G G') : Wish W G' Φ E m := by
  cases m with
  | nx x => exact fun σ2 G2 cs2 H2 s2 d p => h σ2 G2 cs2 H2 (s.trans s2) d p
  | bk x => exact fun σ2 G2 cs2 H2 s2 d p => h σ2 G2 cs2 H2 (s.trans s2) d p
  | ct x => exact fun σ2 G2 cs2 H2 s2 d p => h σ2 G2 cs2 H2 (s.trans s2) d p
  | rt x => exact fun σ2 G2 cs2 H2 s2 d p => h σ2 G2 cs2 H2 (s.trans s2) d p
  | er x => exact fun σ2 G2 cs2 H2 s2 d p => h σ2 G2 cs2 H2 (s.trans s2) d p
/-- the block comes to m -/
def B {ε S L R : Type} (X : Cx) (W : ε → L2.St → Hp → Prop) (sts : List Stmt) (σ : L2.St) (G : Hp) (cs : Cells) (Φ : Po ε S L R) (m : Out ε S L R) : Prop :=
  ∀ H, Desc G cs H → ∀ E : Ends, Wish W G Φ E m → wSs X sts E σ H

section
variable {ε S L R : Type} {X : Cx} {W : ε → L2.St → Hp → Prop} {σ : L2.St} {G : Hp} {cs : Cells} {Φ : Po ε S L R} {m : Out ε S L R} {st : Stmt} {rest body : List Stmt} {e : Expr} {P : Hp → V → Prop} {pos p : Pos}
theorem b_nil {s : S} (h : Φ.nx s σ G cs) : B X W [] σ G cs Φ (.nx s) := fun H d E w => uSs pss_nil (w σ G cs H (Same.refl _) d h)
/-- a statement by a rule, then the rest -/
theorem b_cons {t : TS} (h : PS X st t) (q : ∀ H, Desc G cs H → ∀ E : Ends, Wish W G Φ E m → t { E with nx := wSs X rest E } σ H) : B X W (st :: rest) σ G cs Φ m := fun H d E w => uSs (pss_cons h (sSs X rest)) (q H d E w)
theorem b_pass (h : B X W rest σ G cs Φ m) : B X W (.Pass pos :: rest) σ G cs Φ m := b_cons ps_pass fun H d E w => h H d E w
theorem b_set (i : Nat) {x : Str} (hN : X.N.Nodup) (he : D X e σ G cs P) (k : ∀ v G1, Same G G1 → P G1 v → B X W rest (σ.set i (some v)) G1 cs Φ m) (hi : X.N[i]? = some x := by rfl) (hx : Loc X.env.scope x := by first | exact Or.inl rfl | exact Or.inr rfl)
    (hs : swapsWith e (some (.Name x p)) pos.line X.env = pure false := by rfl) (hf : X.fn x = true ∨ X.env.scope.names.lookup x = some .local := by first | exact .inl rfl | exact .inr rfl) : B X W (.Assign [.Name x p] e pos :: rest) σ G cs Φ m :=
  b_cons (ps_set hN hi hx (sE X e) hs hf) fun H d E w => he G H (Same.refl _) d _ fun G2 H2 v s2 d2 hv => k v G2 s2 hv H2 d2 E (w.up s2)
theorem b_ret {r : R} (he : D X e σ G cs P) (k : ∀ v G1, Same G G1 → P G1 v → Φ.rt r G1 cs v) : B X W (.Return (some e) pos :: rest) σ G cs Φ (.rt r) :=
  b_cons (ps_ret (sE X e)) fun H d E w => he G H (Same.refl _) d _ fun G2 H2 v s2 d2 hv => w v G2 cs H2 s2 d2 (k v G2 s2 hv)
theorem b_retN {r : R} (k : Φ.rt r G cs .non) : B X W (.Return none pos :: rest) σ G cs Φ (.rt r) := b_cons ps_retN fun H d E w => w .non G cs H (Same.refl _) d k
theorem b_break {l : L} (k : Φ.lp l σ G cs) : B X W (.Break pos :: rest) σ G cs Φ (.bk l) := b_cons ps_break fun H d E w => w σ G cs H (Same.refl _) d k
theorem b_cont {l : L} (k : Φ.lp l σ G cs) : B X W (.Continue pos :: rest) σ G cs Φ (.ct l) := b_cons ps_continue fun H d E w => w σ G cs H (Same.refl _) d k
/-- an if, every way through it goes on in the rest or leaves -/
theorem b_if {S' : Type} {c : Expr} {a b : List Stmt} {k : Bool} (Mid : S' → L2.St → Hp → Cells → Prop) {ma mb : Out ε S' L R} {g : S' → Out ε S L R} (hc : T X c σ G cs k)
    (ha : k = true → ∀ G1, Same G G1 → B X W a σ G1 cs { nx := Mid, lp := Φ.lp, rt := Φ.rt, er := Φ.er } ma) (hb : k = false → ∀ G1, Same G G1 → B X W b σ G1 cs { nx := Mid, lp := Φ.lp, rt := Φ.rt, er := Φ.er } mb)
    (hr : ∀ s σ2 G2 cs2, Same G G2 → Mid s σ2 G2 cs2 → (if k = true then ma else mb) = .nx s → B X W rest σ2 G2 cs2 Φ (g s)) : B X W (.If c a b pos :: rest) σ G cs Φ ((if k = true then ma else mb).bind g) :=
  b_cons (ps_if (sT X c) (sSs X a) (sSs X b)) fun H d E w => hc G H (Same.refl _) d _ fun G2 H2 s2 d2 => by
    have go : ∀ {sts : List Stmt} {mm : Out ε S' L R}, B X W sts σ G2 cs { nx := Mid, lp := Φ.lp, rt := Φ.rt, er := Φ.er } mm → Wish W G Φ E (mm.bind g) → (∀ s σ2 G3 cs2, Same G G3 → Mid s σ2 G3 cs2 → mm = .nx s → B X W rest σ2 G3 cs2 Φ (g s)) → wSs X sts { E with nx := wSs X rest E } σ H2 := fun {sts mm} hB w hr => by
      refine hB H2 d2 _ ?_
      cases mm with
      | nx s => exact fun σ3 G3 cs3 H3 s3 d3 p => hr s σ3 G3 cs3 (s2.trans s3) p rfl H3 d3 E (Wish.up (G := G) (show Wish W G Φ E (g s) from w) (s2.trans s3))
      | bk l => exact fun σ3 G3 cs3 H3 s3 d3 p => w σ3 G3 cs3 H3 (s2.trans s3) d3 p
      | ct l => exact fun σ3 G3 cs3 H3 s3 d3 p => w σ3 G3 cs3 H3 (s2.trans s3) d3 p
      | rt r => exact fun v G3 cs3 H3 s3 d3 p => w v G3 cs3 H3 (s2.trans s3) d3 p
      | er x => exact fun σ3 G3 cs3 H3 s3 d3 p => w σ3 G3 cs3 H3 (s2.trans s3) d3 p
    cases k with
    | true => exact iteT (go (ha rfl G2 s2) w hr)
    | false => exact iteF (go (hb rfl G2 s2) w hr)
/-- an if whose first way always leaves, no else -/
theorem b_ifx {c : Expr} {a : List Stmt} {k : Bool} {ma mr : Out ε S L R} (hc : T X c σ G cs k)
    (ha : k = true → ∀ G1, Same G G1 → B X W a σ G1 cs { nx := fun _ _ _ _ => False, lp := Φ.lp, rt := Φ.rt, er := Φ.er } ma)
    (hr : k = false → ∀ G1, Same G G1 → B X W rest σ G1 cs Φ mr) : B X W (.If c a [] pos :: rest) σ G cs Φ (if k = true then ma else mr) :=
  b_cons (ps_if (sT X c) (sSs X a) pss_nil) fun H d E w => hc G H (Same.refl _) d _ fun G2 H2 s2 d2 => by
    cases k with
    | true =>
      have w' : Wish W G Φ E ma := w
      refine iteT (ha rfl G2 s2 H2 d2 _ ?_)
      cases ma with
      | nx s => exact fun σ3 G3 cs3 H3 s3 d3 p => p.elim
      | bk l => exact fun σ3 G3 cs3 H3 s3 d3 p => w' σ3 G3 cs3 H3 (s2.trans s3) d3 p
      | ct l => exact fun σ3 G3 cs3 H3 s3 d3 p => w' σ3 G3 cs3 H3 (s2.trans s3) d3 p
      | rt r => exact fun v G3 cs3 H3 s3 d3 p => w' v G3 cs3 H3 (s2.trans s3) d3 p
      | er x => exact fun σ3 G3 cs3 H3 s3 d3 p => w' σ3 G3 cs3 H3 (s2.trans s3) d3 p
    | false => exact iteF (hr rfl G2 s2 H2 d2 E (Wish.up (show Wish W G Φ E mr from w) s2))
/-- an if at the block's end, its two ways -/
theorem b_ifl {c : Expr} {a b : List Stmt} {k : Bool} {ma mb : Out ε S L R} (hc : T X c σ G cs k)
    (ha : k = true → ∀ G1, Same G G1 → B X W a σ G1 cs Φ ma) (hb : k = false → ∀ G1, Same G G1 → B X W b σ G1 cs Φ mb) : B X W [.If c a b pos] σ G cs Φ (if k = true then ma else mb) := fun H d E w =>
  uSs (pss_one (ps_if (sT X c) (sSs X a) (sSs X b))) (hc G H (Same.refl _) d _ fun G2 H2 s2 d2 => by
    cases k with
    | true => exact iteT (ha rfl G2 s2 H2 d2 E (Wish.up (show Wish W G Φ E ma from w) s2))
    | false => exact iteF (hb rfl G2 s2 H2 d2 E (Wish.up (show Wish W G Φ E mb from w) s2)))
theorem B.up {G' : Hp} (h : B X W rest σ G' cs Φ m) (s : ∀ H, Desc G cs H → Same G G' ∧ Desc G' cs H) : B X W rest σ G cs Φ m := fun H d E w => h H (s H d).2 E (w.up (s H d).1)
/-- a value's being is dropped -/
theorem b_expr (he : D X e σ G cs P) (k : ∀ v G1, Same G G1 → P G1 v → B X W rest σ G1 cs Φ m) (hs : swapsWith e none pos.line X.env = pure false := by rfl) : B X W (.Expr e pos :: rest) σ G cs Φ m :=
  b_cons (ps_expr (sE X e) hs) fun H d E w => he G H (Same.refl _) d _ fun G2 H2 v s2 d2 hv => k v G2 s2 hv H2 d2 E (w.up s2)

/-! ### loops -/
structure WalkD {α : Type} (J : It) (xs : List α) (G : Hp) (C : Cells → Prop) (P : α → Hp → V → Prop) : Prop where
  goes : ∀ i G1 H cs, i < xs.length → Same G G1 → C cs → Desc G1 cs H → J.go i H
  stops : ∀ G1 H cs, Same G G1 → C cs → Desc G1 cs H → J.stop xs.length H
  yields : ∀ i x G1 H cs v H', xs[i]? = some x → Same G G1 → C cs → Desc G1 cs H → J.yld i H v H' → ∃ G', Same G1 G' ∧ Desc G' cs H' ∧ P x G' v
/-- what is walked -/
def I {α : Type} (X : Cx) (tg iter : Expr) (σ : L2.St) (G : Hp) (cs : Cells) (C : Cells → Prop) (xs : List α) (P : α → Hp → V → Prop) : Prop :=
  ∃ wi, PI X tg iter wi ∧ ∀ G1 H, Same G G1 → Desc G1 cs H → ∀ Rr : It → Hp → Prop, (∀ J G2 H2, Same G1 G2 → Desc G2 cs H2 → WalkD J xs G2 C P → Rr J H2) → wi σ H Rr
/-- a target -/
def Tg {α : Type} (X : Cx) (tg : Expr) (P : α → Hp → V → Prop) (Sx : α → Hp → L2.St → L2.St → Prop) : Prop :=
  ∃ g, PG X tg g ∧ ∀ x v G cs H σ, P x G v → Desc G cs H → ∀ Q : L2.St → Hp → Prop, (∀ σ', Sx x G σ σ' → Q σ' H) → g v σ H Q
/-- the states that a loop comes through -/
inductive Reach {α : Type} (f : S → α → Out ε S S R) (s0 : S) : List α → S → Prop where
  | nil : Reach f s0 [] s0
  | nx {pre : List α} {s s' : S} {x : α} : Reach f s0 pre s → f s x = .nx s' → Reach f s0 (pre ++ [x]) s'
  | ct {pre : List α} {s s' : S} {x : α} : Reach f s0 pre s → f s x = .ct s' → Reach f s0 (pre ++ [x]) s'
theorem forL_reach {L : Type} {α : Type} {f : S → α → Out ε S S R} {s0 : S} {pre : List α} {s : S} (h : Reach f s0 pre s) : ∀ (post : List α), (forL f s0 (pre ++ post) : Out ε S L R) = forL f s post := by
  induction h with
  | nil => intro post; rfl
  | @nx pre s s' x h e ih =>
    intro post
    rw [List.append_assoc, ih]
    show (match f s x with | .nx s' => forL f s' post | .ct s' => forL f s' post | .bk s' => .nx s' | .rt r => .rt r | .er e => .er e : Out ε S L R) = _
    rw [e]
  | @ct pre s s' x h e ih =>
    intro post
    rw [List.append_assoc, ih]
    show (match f s x with | .nx s' => forL f s' post | .ct s' => forL f s' post | .bk s' => .nx s' | .rt r => .rt r | .er e => .er e : Out ε S L R) = _
    rw [e]
theorem forL_cons {L : Type} {α : Type} {f : S → α → Out ε S S R} {s : S} {x : α} {xs : List α} : (forL f s (x :: xs) : Out ε S L R) = (match f s x with | .nx s' => forL f s' xs | .ct s' => forL f s' xs | .bk s' => .nx s' | .rt r => .rt r | .er e => .er e) := rfl
/-- a for: N tells the slots, the frozen part and the cells by the turns done and the state; f is a turn -/
theorem b_for {α S1 : Type} {tg iter : Expr} {C : Cells → Prop} {xs : List α} {Pi : α → Hp → V → Prop} {Sx : α → Hp → L2.St → L2.St → Prop} {s0 : S1} {f : S1 → α → Out ε S1 S1 R} {g : S1 → Out ε S L R}
    (N : Nat → S1 → L2.St → Hp → Cells → Prop) (hi : I X tg iter σ G cs C xs Pi) (ht : Tg X tg Pi Sx) (hcalm : X.calm = true) (hp : PassesOwn (model X.prog X.w) X.A X.env X.xe)
    (h0 : ∀ G1, Same G G1 → N 0 s0 σ G1 cs) (hC : ∀ n s σ1 G1 cs1, N n s σ1 G1 cs1 → C cs1)
    (hb : ∀ pre x post s σ1 G0 G1 cs1 σ2, xs = pre ++ x :: post → Reach f s0 pre s → Same G G0 → N pre.length s σ1 G0 cs1 → Same G0 G1 → Sx x G1 σ1 σ2 →
      B X W body σ2 G1 cs1 { nx := N (pre.length + 1), lp := N (pre.length + 1), rt := Φ.rt, er := Φ.er } (f s x))
    (hr : ∀ n s σ1 G1 cs1, n ≤ xs.length → Same G G1 → N n s σ1 G1 cs1 → (forL f s0 xs : Out ε S1 L R) = .nx s → B X W rest σ1 G1 cs1 Φ (g s))
    (hs : ∀ x, foldedSetIterable iter X.env x = pure x := by intro _; rfl) : B X W (.For tg iter body [] pos :: rest) σ G cs Φ ((forL f s0 xs).bind g) := by
  obtain ⟨wi, hpi, hw⟩ := hi
  obtain ⟨gt, hpg, hgt⟩ := ht
  refine b_cons (ps_for hp hcalm hpi hpg (sSs X body) hs) fun H d E w => ?_
  refine hw G H (Same.refl _) d _ fun J G2 H2 s2 d2 wk => ?_
  let Pv : Nat → L2.St → Hp → Prop := fun i σ1 H1 => ∃ s G1 cs1, i ≤ xs.length ∧ Reach f s0 (xs.take i) s ∧ Same G2 G1 ∧ Desc G1 cs1 H1 ∧ N i s σ1 G1 cs1
  refine ⟨fun i n σ1 H1 => n = xs.length - i ∧ Pv i σ1 H1, ⟨xs.length, rfl, s0, G2, cs, Nat.zero_le _, .nil, Same.refl _, d2, h0 G2 s2⟩, ?_⟩
  rintro i n σ1 H1 ⟨rfl, s, G1, cs1, hi, hre, s1, d1, hN⟩
  have w0 : Wish W G Φ E ((forL f s (xs.drop i)).bind g) := by
    have q := forL_reach (L := L) hre (xs.drop i)
    rw [List.take_append_drop] at q
    rw [← q]
    exact w
  by_cases hlt : i < xs.length
  · refine .inr ⟨wk.goes i G1 H1 cs1 hlt s1 (hC _ _ _ _ _ hN) d1, Pv (i + 1), fun σ' H' p' => ⟨_, by omega, rfl, p'⟩, fun v H3 y => ?_⟩
    have hx : xs[i]? = some xs[i] := by simp [hlt]
    obtain ⟨G3, s3, d3, pv⟩ := wk.yields i xs[i] G1 H1 cs1 v H3 hx s1 (hC _ _ _ _ _ hN) d1 y
    refine hgt xs[i] v G3 cs1 H3 σ1 pv d3 _ fun σ' hS => ?_
    have ed : xs = xs.take i ++ xs[i] :: xs.drop (i + 1) := by
      rw [← List.drop_eq_getElem_cons hlt, List.take_append_drop]
    have et : xs.take (i + 1) = xs.take i ++ [xs[i]] := by simp
    have el : (xs.take i).length = i := by rw [List.length_take]; omega
    have hb' := hb (xs.take i) xs[i] (xs.drop (i + 1)) s σ1 G1 G3 cs1 σ' ed hre (s2.trans s1) (by rw [el]; exact hN) s3 hS
    rw [el] at hb'
    refine hb' H3 d3 _ ?_
    have w1 : Wish W G Φ E ((forL f s (xs[i] :: xs.drop (i + 1))).bind g) := by
      rw [List.drop_eq_getElem_cons hlt] at w0
      exact w0
    rw [forL_cons] at w1
    have sG : Same G G3 := (s2.trans s1).trans s3
    cases hm : f s xs[i] with
    | nx s' => exact fun σ4 G4 cs4 H4 s4 d4 p4 => ⟨s', G4, cs4, hlt, by rw [et]; exact .nx hre hm, (s1.trans s3).trans s4, d4, p4⟩
    | ct s' => exact fun σ4 G4 cs4 H4 s4 d4 p4 => ⟨s', G4, cs4, hlt, by rw [et]; exact .ct hre hm, (s1.trans s3).trans s4, d4, p4⟩
    | bk s' =>
      rw [hm] at w1
      refine fun σ4 G4 cs4 H4 s4 d4 p4 => hr (i + 1) s' σ4 G4 cs4 hlt (sG.trans s4) p4 ?_ H4 d4 E (Wish.up (show Wish W G Φ E (g s') from w1) (sG.trans s4))
      rw [ed, forL_reach hre, forL_cons, hm]
    | rt r =>
      rw [hm] at w1
      exact fun v4 G4 cs4 H4 s4 d4 p4 => w1 v4 G4 cs4 H4 (sG.trans s4) d4 p4
    | er k =>
      rw [hm] at w1
      exact fun σ4 G4 cs4 H4 s4 d4 p4 => w1 σ4 G4 cs4 H4 (sG.trans s4) d4 p4
  · have e : i = xs.length := by omega
    subst e
    rw [List.drop_length] at w0
    rw [List.take_length] at hre
    refine .inl ⟨wk.stops G1 H1 cs1 s1 (hC _ _ _ _ _ hN) d1, hr _ s σ1 G1 cs1 (Nat.le_refl _) (s2.trans s1) hN ?_ H1 d1 E (Wish.up (show Wish W G Φ E (g s) from w0) (s2.trans s1))⟩
    have q := forL_reach (L := L) hre ([] : List α)
    rw [List.append_nil] at q
    exact q
/-- a name for a value -/
def letV {α β : Type} (x : α) (f : α → β) : β := f x
theorem b_setV {α : Type} {r : α → Hp → V → Prop} {y : α} {f : α → Out ε S L R} (i : Nat) {x : Str} (hN : X.N.Nodup) (he : D X e σ G cs (r y)) (k : ∀ z, z = y → ∀ v G1, Same G G1 → r z G1 v → B X W rest (σ.set i (some v)) G1 cs Φ (f z)) (hi : X.N[i]? = some x := by rfl) (hx : Loc X.env.scope x := by first | exact Or.inl rfl | exact Or.inr rfl)
    (hs : swapsWith e (some (.Name x p)) pos.line X.env = pure false := by rfl) (hf : X.fn x = true ∨ X.env.scope.names.lookup x = some .local := by first | exact .inl rfl | exact .inr rfl) : B X W (.Assign [.Name x p] e pos :: rest) σ G cs Φ (letV y f) :=
  b_set i hN he (fun v G1 s1 h => k y rfl v G1 s1 h) hi hx hs hf
end
end J

namespace J
open PySem L2
section
variable {X : Cx} {σ : L2.St} {G : Hp} {cs : Cells} {e a b c : Expr} {es : List Expr} {P Pa Pb Pc : Hp → V → Prop} {pos p : Pos} {i j k : Int}

/-! ### whole numbers -/
theorem d_add (ha : D X a σ G cs (rI i)) (hb : D X b σ G cs (rI j)) : D X (.BinOp a .Add b pos) σ G cs (rI (i + j)) := d_bin op_add ha hb fun G1 H x y s d hx hy Q q => ⟨i, j, hx, hy, q G1 H _ (Same.refl _) d rfl⟩
theorem d_sub (ha : D X a σ G cs (rI i)) (hb : D X b σ G cs (rI j)) : D X (.BinOp a .Sub b pos) σ G cs (rI (i - j)) := d_bin op_sub ha hb fun G1 H x y s d hx hy Q q => ⟨i, j, hx, hy, q G1 H _ (Same.refl _) d rfl⟩
theorem d_mul (ha : D X a σ G cs (rI i)) (hb : D X b σ G cs (rI j)) (h : CMul i j) : D X (.BinOp a .Mult b pos) σ G cs (rI (i * j)) := d_bin op_mul ha hb fun G1 H x y s d hx hy Q q => ⟨i, j, hx, hy, h, q G1 H _ (Same.refl _) d rfl⟩
theorem d_mulW (ha : D X a σ G cs (rI i)) (hb : D X b σ G cs (rI j)) (h : CMulW i j) : D X (.BinOp a .Mult b pos) σ G cs (rI (i * j)) := d_bin op_mulW ha hb fun G1 H x y s d hx hy Q q => ⟨i, j, hx, hy, h, q G1 H _ (Same.refl _) d rfl⟩
theorem d_fdiv (ha : D X a σ G cs (rI i)) (hb : D X b σ G cs (rI j)) (h : CDivW i j) : D X (.BinOp a .FloorDiv b pos) σ G cs (rI (i / j)) := d_bin op_fdivW ha hb fun G1 H x y s d hx hy Q q => ⟨i, j, hx, hy, h, q G1 H _ (Same.refl _) d rfl⟩
theorem d_mod (ha : D X a σ G cs (rI i)) (hb : D X b σ G cs (rI j)) (h : 0 < j) : D X (.BinOp a .Mod b pos) σ G cs (rI (i % j)) := d_bin op_mod ha hb fun G1 H x y s d hx hy Q q => ⟨i, j, hx, hy, h, q G1 H _ (Same.refl _) d rfl⟩
theorem d_pow (ha : D X a σ G cs (rI i)) (hb : D X b σ G cs (rI j)) (h : CPow i j) {z : Int} (hz : i ^ j.toNat = z) : D X (.BinOp a .Pow b pos) σ G cs (rI z) := d_bin op_pow ha hb fun G1 H x y s d hx hy Q q => ⟨i, j, hx, hy, h, q G1 H _ (Same.refl _) d (by subst hz; rfl)⟩
theorem d_neg (ha : D X a σ G cs (rI i)) : D X (.UnaryOp .USub a pos) σ G cs (rI (-i)) := d_un un_neg ha fun G1 H x s d hx Q q => ⟨i, hx, q G1 H _ (Same.refl _) d rfl⟩
theorem divW {i j : Int} (h : 0 < j) (hb : j.natAbs < 2 ^ 8999) : CDivW i j := wide_div (b := 8999) h hb (by decide) (by decide)
/-! what the operators' readings ask, by the operands -/
section
variable {G1 H : Hp} {x y : V} {Q : VK}
theorem c_lt (hx : rI i G1 x) (hy : rI j G1 y) (q : Q (.bl (decide (i < j))) H) : rI0 (fun i j => .bl (decide (i < j))) x y H Q := ⟨i, j, hx, hy, q⟩
theorem c_le (hx : rI i G1 x) (hy : rI j G1 y) (q : Q (.bl (decide (i ≤ j))) H) : rI0 (fun i j => .bl (decide (i ≤ j))) x y H Q := ⟨i, j, hx, hy, q⟩
theorem c_gt (hx : rI i G1 x) (hy : rI j G1 y) (q : Q (.bl (decide (j < i))) H) : rI0 (fun i j => .bl (decide (j < i))) x y H Q := ⟨i, j, hx, hy, q⟩
theorem c_ge (hx : rI i G1 x) (hy : rI j G1 y) (q : Q (.bl (decide (j ≤ i))) H) : rI0 (fun i j => .bl (decide (j ≤ i))) x y H Q := ⟨i, j, hx, hy, q⟩
theorem c_eqI (hx : rI i G1 x) (hy : rI j G1 y) (q : Q (.bl (decide (i = j))) H) : rEq x y H Q := by
  cases hx; cases hy
  refine ⟨rfl, ?_⟩
  have e : decide (V.int i = V.int j) = decide (i = j) := decide_eq_decide.mpr ⟨fun h => V.int.inj h, fun h => by rw [h]⟩
  rw [e]
  exact q
theorem c_neI (hx : rI i G1 x) (hy : rI j G1 y) (q : Q (.bl (!decide (i = j))) H) : rNe x y H Q := by
  cases hx; cases hy
  refine ⟨rfl, ?_⟩
  have e : decide (V.int i = V.int j) = decide (i = j) := decide_eq_decide.mpr ⟨fun h => V.int.inj h, fun h => by rw [h]⟩
  rw [e]
  exact q
theorem c_eqB {i j : Bool} (hx : rB i G1 x) (hy : rB j G1 y) (q : Q (.bl (decide (i = j))) H) : rEq x y H Q := by
  cases hx; cases hy
  refine ⟨rfl, ?_⟩
  have e : decide (V.bl i = V.bl j) = decide (i = j) := decide_eq_decide.mpr ⟨fun h => V.bl.inj h, fun h => by rw [h]⟩
  rw [e]
  exact q
theorem c_neB {i j : Bool} (hx : rB i G1 x) (hy : rB j G1 y) (q : Q (.bl (!decide (i = j))) H) : rNe x y H Q := by
  cases hx; cases hy
  refine ⟨rfl, ?_⟩
  have e : decide (V.bl i = V.bl j) = decide (i = j) := decide_eq_decide.mpr ⟨fun h => V.bl.inj h, fun h => by rw [h]⟩
  rw [e]
  exact q
theorem str_eq {i j : List Nat} : decide (V.str (SX.S i) = V.str (SX.S j)) = decide (i = j) := decide_eq_decide.mpr ⟨fun h => SX.S_inj (V.str.inj h), fun h => by rw [h]⟩
theorem c_eqS {i j : List Nat} (hx : rS i G1 x) (hy : rS j G1 y) (q : Q (.bl (decide (i = j))) H) : rEq x y H Q := by
  cases hx; cases hy
  refine ⟨rfl, ?_⟩
  rw [str_eq]
  exact q
theorem c_neS {i j : List Nat} (hx : rS i G1 x) (hy : rS j G1 y) (q : Q (.bl (!decide (i = j))) H) : rNe x y H Q := by
  cases hx; cases hy
  refine ⟨rfl, ?_⟩
  rw [str_eq]
  exact q
theorem c_inS {l : List Nat} {n : Nat} (hx : rS [n] G1 x) (hy : rS l G1 y) (q : Q (.bl (decide (n ∈ l))) H) : ∃ (c : Nat) (z : Str), x = .str ⟨#[c]⟩ ∧ y = .str z ∧ Q (.bl (decide (c ∈ z.cps.toList))) H := ⟨n, SX.S l, hx, hy, q⟩
theorem c_ninS {l : List Nat} {n : Nat} (hx : rS [n] G1 x) (hy : rS l G1 y) (q : Q (.bl (!decide (n ∈ l))) H) : ∃ (c : Nat) (z : Str), x = .str ⟨#[c]⟩ ∧ y = .str z ∧ Q (.bl (!decide (c ∈ z.cps.toList))) H := ⟨n, SX.S l, hx, hy, q⟩
end
/-- a value that is never None -/
class NotNon {α : Type} (r : α → Hp → V → Prop) : Prop where
  nn : ∀ {x G v}, r x G v → v ≠ .non
instance : NotNon rI := ⟨fun h z => by cases h; cases z⟩
instance : NotNon rB := ⟨fun h z => by cases h; cases z⟩
instance : NotNon rS := ⟨fun h z => by cases h; cases z⟩
instance (K : PySem.W.Frag) {α : Type} (r : α → Hp → V → Prop) : NotNon (rL K r) := ⟨fun h z => by obtain ⟨_, _, e, _⟩ := h; rw [e] at z; cases z⟩
instance (K : PySem.W.Frag) {α : Type} (r : α → Hp → List V → Prop) : NotNon (rT K r) := ⟨fun h z => by obtain ⟨_, _, e, _⟩ := h; rw [e] at z; cases z⟩
theorem is_non {α : Type} {r : α → Hp → V → Prop} [NotNon r] {o : Option α} {G : Hp} {v : V} (h : rO r o G v) : decide (v = .non) = o.isNone := by
  cases o with
  | none =>
    have e : v = .non := h
    rw [e]
    rfl
  | some x => exact decide_eq_false (NotNon.nn (r := r) (x := x) h)
theorem d_isN {α : Type} {r : α → Hp → V → Prop} [NotNon r] [∀ x, Mono (r x)] {o : Option α} {jj : Nat} {p' : Pos} (ha : D X a σ G cs (rO r o)) : D X (.Compare a [.Is] [.Constant .none jj p'] pos) σ G cs (rB o.isNone) :=
  d_cmp op_isN (nomark _) ha d_non fun G1 H x y s d hx hy Q q => ⟨hy, by rw [is_non hx]; exact q⟩
theorem t_isN {α : Type} {r : α → Hp → V → Prop} [NotNon r] [∀ x, Mono (r x)] {o : Option α} {jj : Nat} {p' : Pos} (ha : D X a σ G cs (rO r o)) : T X (.Compare a [.Is] [.Constant .none jj p'] pos) σ G cs o.isNone :=
  t_cmp op_isN (nomark _) ha d_non fun G1 H x y s d hx hy Q q => ⟨hy, by rw [is_non hx]; exact q⟩
theorem d_notN {α : Type} {r : α → Hp → V → Prop} [NotNon r] [∀ x, Mono (r x)] {o : Option α} {jj : Nat} {p' : Pos} (ha : D X a σ G cs (rO r o)) : D X (.Compare a [.IsNot] [.Constant .none jj p'] pos) σ G cs (rB (!o.isNone)) :=
  d_cmp op_notN (nomark _) ha d_non fun G1 H x y s d hx hy Q q => ⟨hy, by rw [is_non hx]; exact q⟩
theorem t_notN {α : Type} {r : α → Hp → V → Prop} [NotNon r] [∀ x, Mono (r x)] {o : Option α} {jj : Nat} {p' : Pos} (ha : D X a σ G cs (rO r o)) : T X (.Compare a [.IsNot] [.Constant .none jj p'] pos) σ G cs (!o.isNone) :=
  t_cmp op_notN (nomark _) ha d_non fun G1 H x y s d hx hy Q q => ⟨hy, by rw [is_non hx]; exact q⟩
/-- a value that may be None, known to be there -/
theorem d_some {α : Type} {r : α → Hp → V → Prop} {x : α} (h : D X e σ G cs (rO r (some x))) : D X e σ G cs (r x) := h
theorem d_toO {α : Type} {r : α → Hp → V → Prop} {x : α} (h : D X e σ G cs (r x)) : D X e σ G cs (rO r (some x)) := h
theorem d_toN {α : Type} {r : α → Hp → V → Prop} (h : D X e σ G cs (rN ())) : D X e σ G cs (rO r none) := h

/-! ### texts -/
theorem d_cat {l m : List Nat} (ha : D X a σ G cs (rS l)) (hb : D X b σ G cs (rS m)) (h : l.length + m.length ≤ sizeLine) : D X (.BinOp a .Add b pos) σ G cs (rS (l ++ m)) :=
  d_bin op_add_str ha hb fun G1 H x y s d hx hy Q q => ⟨SX.S l, SX.S m, hx, hy, by rw [SX.S_len, SX.S_len]; exact h, by rw [SX.S_cat]; exact q G1 H _ (Same.refl _) d rfl⟩
theorem d_ixS {l : List Nat} {n : Nat} (ha : D X a σ G cs (rS l)) (hb : D X b σ G cs (rI i)) (hl : l.length ≤ sizeLine) (h : atI l i = some n) (hs : PlainIx b := by exact fun _ _ => rfl) : D X (.Subscript a b pos) σ G cs (rS [n]) :=
  d_by (pe_ix ix_str (sE X a) (sE X b) hs) fun G1 H s d Q q => ha G1 H s d _ fun G2 H2 x s2 d2 hx => hb G2 H2 (s.trans s2) d2 _ fun G3 H3 y s3 d3 hy =>
    ⟨SX.S l, i, n, hx, hy, by rw [SX.S_len]; exact hl, h, q G3 H3 _ (s2.trans s3) d3 rfl⟩

/-! ### lists, tuples: read -/
theorem atI_rs {α : Type} {r : α → Hp → V → Prop} {xs : List α} {vs : List V} {x : α} (h : Rs r G xs vs) (hx : atI xs i = some x) : ∃ v, atI vs i = some v ∧ r x G v := by
  unfold atI at hx ⊢
  rw [← h.length]
  cases e : ixN xs.length i with
  | none =>
    rw [e] at hx
    cases hx
  | some k =>
    rw [e] at hx
    exact Rs.get h hx
theorem atI_lt {α : Type} {xs : List α} (h0 : 0 ≤ i) (h1 : i < (xs.length : Int)) [Inhabited α] : atI xs i = some (xs.getD i.toNat default) := by
  obtain ⟨n, rfl⟩ := Int.eq_ofNat_of_zero_le h0
  have hn : n < xs.length := by omega
  exact atI_nat (by simp [hn])
theorem atI_neg {α : Type} {xs : List α} {n : Nat} (h0 : 0 < n) (h1 : n ≤ xs.length) [Inhabited α] : atI xs (-(n : Int)) = some (xs.getD (xs.length - n) default) := by
  have hl : xs.length - n < xs.length := by omega
  have e : ixN xs.length (-(n : Int)) = some (xs.length - n) := by
    unfold ixN
    rw [if_neg (by omega), if_pos (by omega)]
    exact congrArg some (by omega)
  unfold atI
  rw [e]
  simp [hl]
theorem d_ixL {α : Type} {r : α → Hp → V → Prop} [∀ x, Mono (r x)] {xs : List α} {x : α} (ha : D X a σ G cs (rdL X.K cs r xs)) (hb : D X b σ G cs (rI i)) (hx : atI xs i = some x) (hs : PlainIx b := by exact fun _ _ => rfl) :
    D X (.Subscript a b pos) σ G cs (r x) :=
  d_by (pe_ix ix_list (sE X a) (sE X b) hs) fun G1 H s d Q q => ha G1 H s d _ fun G2 H2 u s2 d2 hu => hb G2 H2 (s.trans s2) d2 _ fun G3 H3 y s3 d3 hy => by
    obtain ⟨l, vs, e, hl, hr⟩ := (Mono.mono s3 hu).sq d3
    obtain ⟨v, hv, hp⟩ := atI_rs hr hx
    exact ⟨l, vs, i, v, e, hy, hl, hv, q G3 H3 v (s2.trans s3) d3 hp⟩
/-- the n-th place of a tuple -/
def At (R : Hp → List V → Prop) (n : Nat) (P : Hp → V → Prop) : Prop := ∀ G vs, R G vs → ∃ v, vs[n]? = some v ∧ P G v
theorem at_1 {α : Type} {r : α → Hp → V → Prop} {x : α} : At (c0 r x) 0 (r x) := fun G vs ⟨v, e, h⟩ => ⟨v, by rw [e]; rfl, h⟩
theorem at_z {α β : Type} {r : α → Hp → V → Prop} {r' : β → Hp → List V → Prop} {x : α × β} : At (cc r r' x) 0 (r x.1) := fun G vs ⟨v, ws, e, h, _⟩ => ⟨v, by rw [e]; rfl, h⟩
theorem at_s {α β : Type} {r : α → Hp → V → Prop} {r' : β → Hp → List V → Prop} {x : α × β} {n : Nat} (h : At (r' x.2) n P) : At (cc r r' x) (n + 1) P := fun G vs ⟨v, ws, e, _, h'⟩ => by
  obtain ⟨u, h1, h2⟩ := h G ws h'
  exact ⟨u, by rw [e]; exact h1, h2⟩
theorem d_ixT {α : Type} {r : α → Hp → List V → Prop} [∀ x, MonoA (r x)] {x : α} {n : Nat} (ha : D X a σ G cs (rT X.K r x)) (hb : D X b σ G cs (rI (n : Int))) (hat : At (r x) n P) (hs : PlainIx b := by exact fun _ _ => rfl) :
    D X (.Subscript a b pos) σ G cs P :=
  d_by (pe_ix ix_tup (sE X a) (sE X b) hs) fun G1 H s d Q q => ha G1 H s d _ fun G2 H2 u s2 d2 hu => hb G2 H2 (s.trans s2) d2 _ fun G3 H3 y s3 d3 hy => by
    obtain ⟨l, vs, e, hl, hr⟩ := Mono.mono s3 hu
    obtain ⟨v, hv, hp⟩ := hat G3 vs hr
    exact ⟨l, vs, (n : Int), v, e, hy, seqT d3.same hl, atI_nat hv, q G3 H3 v (s2.trans s3) d3 hp⟩
theorem d_lenL {α : Type} {r : α → Hp → V → Prop} {xs : List α} {x : Str} [∀ x, Mono (r x)] (hm : X.mg x = none) (ha : D X a σ G cs (rdL X.K cs r xs)) (hg : Gl X x := by rfl) (hv : bootBuiltins x = some (.builtin "len") := by first | exact PySem.boot_len | decide +kernel) (hn : x ≠ "__name__" := by decide) (hd : (x == ("__debug__" : Str)) = false := by decide)
    (he : starEach [a] X.env = (false, eval a X.env) :: starEach [] X.env := by rfl) (hpl : (backTo pos (starEach [] X.env)).any (·.1) = false := by rfl) : D X (.Call (.Name x p) [a] [] pos) σ G cs (rI (xs.length : Int)) :=
  d_callB call_len hm (a_cons ha a_nil he) (fun G1 H vs s d hvs Q q => by
    obtain ⟨v, ws, e1, h1, h2⟩ := hvs
    cases h2
    obtain ⟨l, us, e, hl, hr⟩ := h1.sq d
    subst e
    exact ⟨_, xs.length, e1, .inl ⟨us, hl, hr.length⟩, q G1 H _ (Same.refl _) d rfl⟩) hg hv hn hd he hpl
theorem d_lenS {l : List Nat} {x : Str} (hm : X.mg x = none) (ha : D X a σ G cs (rS l)) (hl : l.length ≤ sizeLine) (hg : Gl X x := by rfl) (hv : bootBuiltins x = some (.builtin "len") := by first | exact PySem.boot_len | decide +kernel) (hn : x ≠ "__name__" := by decide) (hd : (x == ("__debug__" : Str)) = false := by decide)
    (he : starEach [a] X.env = (false, eval a X.env) :: starEach [] X.env := by rfl) (hpl : (backTo pos (starEach [] X.env)).any (·.1) = false := by rfl) : D X (.Call (.Name x p) [a] [] pos) σ G cs (rI (l.length : Int)) :=
  d_callB call_len hm (a_cons ha a_nil he) (fun G1 H vs s d hvs Q q => by
    obtain ⟨v, ws, e1, h1, h2⟩ := hvs
    cases h2
    cases h1
    exact ⟨_, l.length, e1, ⟨by rw [SX.S_len]; exact hl, (SX.S_len l).symm⟩, q G1 H _ (Same.refl _) d rfl⟩) hg hv hn hd he hpl
theorem d_int1 {x : Str} (hm : X.mg x = none) (ha : D X a σ G cs (rI i)) (hg : Gl X x := by rfl) (hv : bootBuiltins x = some (.type "int") := by decide +kernel) (hn : x ≠ "__name__" := by decide) (hd : (x == ("__debug__" : Str)) = false := by decide)
    (he : starEach [a] X.env = (false, eval a X.env) :: starEach [] X.env := by rfl) (hpl : (backTo pos (starEach [] X.env)).any (·.1) = false := by rfl) : D X (.Call (.Name x p) [a] [] pos) σ G cs (rI i) :=
  d_callTy call_int1 hm (a_cons ha a_nil he) (fun G1 H vs s d hvs Q q => by
    obtain ⟨v, ws, e1, h1, h2⟩ := hvs
    cases h2
    cases h1
    exact .inl ⟨i, e1, q G1 H _ (Same.refl _) d rfl⟩) hg hv hn hd he hpl
theorem d_abs {x : Str} (hm : X.mg x = none) (ha : D X a σ G cs (rI i)) (hg : Gl X x := by rfl) (hv : bootBuiltins x = some (.builtin "abs") := by decide +kernel) (hn : x ≠ "__name__" := by decide) (hd : (x == ("__debug__" : Str)) = false := by decide)
    (he : starEach [a] X.env = (false, eval a X.env) :: starEach [] X.env := by rfl) (hpl : (backTo pos (starEach [] X.env)).any (·.1) = false := by rfl) : D X (.Call (.Name x p) [a] [] pos) σ G cs (rI (if i < 0 then -i else i)) :=
  d_callB call_abs hm (a_cons ha a_nil he) (fun G1 H vs s d hvs Q q => by
    obtain ⟨v, ws, e1, h1, h2⟩ := hvs
    cases h2
    cases h1
    exact ⟨i, e1, q G1 H _ (Same.refl _) d rfl⟩) hg hv hn hd he hpl
theorem d_max2 {x : Str} (hc : X.calm = true) (hm : X.mg x = none) (ha : D X a σ G cs (rI i)) (hb : D X b σ G cs (rI j)) (hg : Gl X x := by rfl) (hv : bootBuiltins x = some (.builtin "max") := by decide +kernel) (hn : x ≠ "__name__" := by decide) (hd : (x == ("__debug__" : Str)) = false := by decide)
    (he : starEach [a, b] X.env = (false, eval a X.env) :: starEach [b] X.env := by rfl) (he2 : starEach [b] X.env = (false, eval b X.env) :: starEach [] X.env := by rfl) (hpl : (backTo pos (starEach [b] X.env)).any (·.1) = false := by rfl) : D X (.Call (.Name x p) [a, b] [] pos) σ G cs (rI (if j > i then j else i)) :=
  d_callB (call_max2 hc) hm (a_cons ha (a_cons hb a_nil he2) he) (fun G1 H vs s d hvs Q q => by
    obtain ⟨v, ws, e1, h1, v2, ws2, e2, h2, h3⟩ := hvs
    cases h3
    cases h1
    cases h2
    subst e2
    exact ⟨i, j, e1, q G1 H _ (Same.refl _) d rfl⟩) hg hv hn hd he hpl
theorem d_min2 {x : Str} (hc : X.calm = true) (hm : X.mg x = none) (ha : D X a σ G cs (rI i)) (hb : D X b σ G cs (rI j)) (hg : Gl X x := by rfl) (hv : bootBuiltins x = some (.builtin "min") := by decide +kernel) (hn : x ≠ "__name__" := by decide) (hd : (x == ("__debug__" : Str)) = false := by decide)
    (he : starEach [a, b] X.env = (false, eval a X.env) :: starEach [b] X.env := by rfl) (he2 : starEach [b] X.env = (false, eval b X.env) :: starEach [] X.env := by rfl) (hpl : (backTo pos (starEach [b] X.env)).any (·.1) = false := by rfl) : D X (.Call (.Name x p) [a, b] [] pos) σ G cs (rI (if j < i then j else i)) :=
  d_callB (call_min2 hc) hm (a_cons ha (a_cons hb a_nil he2) he) (fun G1 H vs s d hvs Q q => by
    obtain ⟨v, ws, e1, h1, v2, ws2, e2, h2, h3⟩ := hvs
    cases h3
    cases h1
    cases h2
    subst e2
    exact ⟨i, j, e1, q G1 H _ (Same.refl _) d rfl⟩) hg hv hn hd he hpl
theorem rs_int {xs : List Int} {vs : List V} (h : Rs rI G xs vs) : vs = xs.map V.int := h.map fun _ _ e => e
theorem rs_bl {xs : List Bool} {vs : List V} (h : Rs rB G xs vs) : vs = xs.map V.bl := h.map fun _ _ e => e
theorem d_sum {xs : List Int} {x : Str} (hc : X.calm = true) (hm : X.mg x = none) (ha : D X a σ G cs (rdL X.K cs rI xs)) (hg : Gl X x := by rfl) (hv : bootBuiltins x = some (.builtin "sum") := by decide +kernel) (hn : x ≠ "__name__" := by decide) (hd : (x == ("__debug__" : Str)) = false := by decide)
    (he : starEach [a] X.env = (false, eval a X.env) :: starEach [] X.env := by rfl) (hpl : (backTo pos (starEach [] X.env)).any (·.1) = false := by rfl) : D X (.Call (.Name x p) [a] [] pos) σ G cs (rI xs.sum) :=
  d_callB (cr_sum hc) hm (a_cons ha a_nil he) (fun G1 H vs s d hvs Q q => by
    obtain ⟨v, ws, e1, h1, h2⟩ := hvs
    cases h2
    obtain ⟨l, us, e, hl, hr⟩ := h1.sq d
    subst e
    have hu := rs_int hr
    subst hu
    exact ⟨l, xs, e1, hl, q G1 H _ (Same.refl _) d rfl⟩) hg hv hn hd he hpl
/-- the greatest, the least of a list -/
def maxL (xs : List Int) : Int := xs.foldl max (xs.headD 0)
def minL (xs : List Int) : Int := xs.foldl min (xs.headD 0)
theorem foldl_max : ∀ (xs : List Int) (z : Int), (xs.foldl max z = z ∨ xs.foldl max z ∈ xs) ∧ z ≤ xs.foldl max z ∧ ∀ y ∈ xs, y ≤ xs.foldl max z
  | [], z => ⟨.inl rfl, Int.le_refl _, fun _ h => nomatch h⟩
  | x :: xs, z => by
    obtain ⟨h1, h2, h3⟩ := foldl_max xs (max z x)
    show ((x :: xs).foldl max z = z ∨ (x :: xs).foldl max z ∈ x :: xs) ∧ z ≤ (x :: xs).foldl max z ∧ ∀ y ∈ x :: xs, y ≤ (x :: xs).foldl max z
    rw [List.foldl_cons]
    refine ⟨?_, by omega, fun y hy => ?_⟩
    · rcases h1 with h1 | h1
      · rw [h1]
        by_cases c : z ≤ x
        · right
          rw [Int.max_eq_right c]
          exact List.mem_cons_self
        · left
          exact Int.max_eq_left (by omega)
      · right
        exact List.mem_cons_of_mem _ h1
    · rcases List.mem_cons.mp hy with e | hy
      · subst e
        omega
      · exact h3 y hy
theorem foldl_min : ∀ (xs : List Int) (z : Int), (xs.foldl min z = z ∨ xs.foldl min z ∈ xs) ∧ xs.foldl min z ≤ z ∧ ∀ y ∈ xs, xs.foldl min z ≤ y
  | [], z => ⟨.inl rfl, Int.le_refl _, fun _ h => nomatch h⟩
  | x :: xs, z => by
    obtain ⟨h1, h2, h3⟩ := foldl_min xs (min z x)
    show ((x :: xs).foldl min z = z ∨ (x :: xs).foldl min z ∈ x :: xs) ∧ (x :: xs).foldl min z ≤ z ∧ ∀ y ∈ x :: xs, (x :: xs).foldl min z ≤ y
    rw [List.foldl_cons]
    refine ⟨?_, by omega, fun y hy => ?_⟩
    · rcases h1 with h1 | h1
      · rw [h1]
        by_cases c : z ≤ x
        · left
          exact Int.min_eq_left c
        · right
          rw [Int.min_eq_right (by omega)]
          exact List.mem_cons_self
      · right
        exact List.mem_cons_of_mem _ h1
    · rcases List.mem_cons.mp hy with e | hy
      · subst e
        omega
      · exact h3 y hy
theorem maxL_is {xs : List Int} (h : 0 < xs.length) : maxL xs ∈ xs ∧ ∀ y ∈ xs, y ≤ maxL xs := by
  cases xs with
  | nil => exact absurd h (Nat.lt_irrefl _)
  | cons x xs =>
    obtain ⟨h1, h2, h3⟩ := foldl_max (x :: xs) x
    refine ⟨?_, h3⟩
    rcases h1 with h1 | h1
    · show (x :: xs).foldl max x ∈ x :: xs
      rw [h1]
      exact List.mem_cons_self
    · exact h1
theorem minL_is {xs : List Int} (h : 0 < xs.length) : minL xs ∈ xs ∧ ∀ y ∈ xs, minL xs ≤ y := by
  cases xs with
  | nil => exact absurd h (Nat.lt_irrefl _)
  | cons x xs =>
    obtain ⟨h1, h2, h3⟩ := foldl_min (x :: xs) x
    refine ⟨?_, h3⟩
    rcases h1 with h1 | h1
    · show (x :: xs).foldl min x ∈ x :: xs
      rw [h1]
      exact List.mem_cons_self
    · exact h1
theorem d_maxL {xs : List Int} {x : Str} (hc : X.calm = true) (hm : X.mg x = none) (ha : D X a σ G cs (rdL X.K cs rI xs)) (h0 : 0 < xs.length) (hg : Gl X x := by rfl) (hv : bootBuiltins x = some (.builtin "max") := by decide +kernel) (hn : x ≠ "__name__" := by decide) (hd : (x == ("__debug__" : Str)) = false := by decide)
    (he : starEach [a] X.env = (false, eval a X.env) :: starEach [] X.env := by rfl) (hpl : (backTo pos (starEach [] X.env)).any (·.1) = false := by rfl) : D X (.Call (.Name x p) [a] [] pos) σ G cs (rI (maxL xs)) :=
  d_callB (cr_max hc) hm (a_cons ha a_nil he) (fun G1 H vs s d hvs Q q => by
    obtain ⟨v, ws, e1, h1, h2⟩ := hvs
    cases h2
    obtain ⟨l, us, e, hl, hr⟩ := h1.sq d
    subst e
    have hu := rs_int hr
    subst hu
    refine ⟨l, xs, e1, hl, h0, fun m hm hle => q G1 H _ (Same.refl _) d ?_⟩
    obtain ⟨k1, k2⟩ := maxL_is h0
    have e3 : m = maxL xs := Int.le_antisymm (k2 m hm) (hle _ k1)
    rw [e3]
    rfl) hg hv hn hd he hpl
theorem d_minL {xs : List Int} {x : Str} (hc : X.calm = true) (hm : X.mg x = none) (ha : D X a σ G cs (rdL X.K cs rI xs)) (h0 : 0 < xs.length) (hg : Gl X x := by rfl) (hv : bootBuiltins x = some (.builtin "min") := by decide +kernel) (hn : x ≠ "__name__" := by decide) (hd : (x == ("__debug__" : Str)) = false := by decide)
    (he : starEach [a] X.env = (false, eval a X.env) :: starEach [] X.env := by rfl) (hpl : (backTo pos (starEach [] X.env)).any (·.1) = false := by rfl) : D X (.Call (.Name x p) [a] [] pos) σ G cs (rI (minL xs)) :=
  d_callB (cr_min hc) hm (a_cons ha a_nil he) (fun G1 H vs s d hvs Q q => by
    obtain ⟨v, ws, e1, h1, h2⟩ := hvs
    cases h2
    obtain ⟨l, us, e, hl, hr⟩ := h1.sq d
    subst e
    have hu := rs_int hr
    subst hu
    refine ⟨l, xs, e1, hl, h0, fun m hm hle => q G1 H _ (Same.refl _) d ?_⟩
    obtain ⟨k1, k2⟩ := minL_is h0
    have e3 : m = minL xs := Int.le_antisymm (hle _ k1) (k2 m hm)
    rw [e3]
    rfl) hg hv hn hd he hpl

/-! ### made: tuples, lists -/
/-- the arguments as a tuple's places; n of them -/
def Tp (n : Nat) (Ps R : Hp → List V → Prop) : Prop := ∀ G vs, Ps G vs → R G vs ∧ vs.length = n
theorem tp_1 {α : Type} {r : α → Hp → V → Prop} {x : α} : Tp 1 (aC (r x) aN) (c0 r x) := fun G vs ⟨v, ws, e, h, h2⟩ => by
  cases h2
  exact ⟨⟨v, e, h⟩, by rw [e]; rfl⟩
theorem tp_c {α β : Type} {r : α → Hp → V → Prop} {r' : β → Hp → List V → Prop} {x : α} {y : β} {n : Nat} {Ps : Hp → List V → Prop} (h : Tp n Ps (r' y)) : Tp (n + 1) (aC (r x) Ps) (cc r r' (x, y)) := fun G vs ⟨v, ws, e, h1, h2⟩ => by
  obtain ⟨k1, k2⟩ := h G ws h2
  exact ⟨⟨v, ws, e, h1, k1⟩, by rw [e, List.length_cons, k2]⟩
theorem sl_small {n : Nat} (h : n ≤ 16777216) : n ≤ sizeLine := by rw [sizeLine_eq]; exact h
theorem d_tup {α : Type} {r : α → Hp → List V → Prop} {x : α} {Ps : Hp → List V → Prop} {n kk : Nat} [∀ x, MonoA (r x)] (h : A X es σ G cs Ps) (ht : Tp n Ps (r x)) (hn : n ≤ 16777216 := by decide) : D X (.Tuple es kk pos) σ G cs (rT X.K r x) :=
  d_by (pe_tup (sA X es)) fun G1 H s d Q q => h G1 H s d _ fun G2 H2 vs s2 d2 hvs => by
    obtain ⟨k1, k2⟩ := ht G2 vs hvs
    refine ⟨by rw [k2]; exact sl_small hn, fun l hl => ?_⟩
    have sf : Same G2 (upd G2 l (.tup vs)) := Same.fresh d2.same hl _
    exact q _ _ _ (s2.trans sf) (d2.new hl _) ⟨l, vs, rfl, SqT.of upd_same, MonoA.mono sf k1⟩
/-- the arguments as a list's items -/
def Ls {α : Type} (r : α → Hp → V → Prop) (Ps : Hp → List V → Prop) (xs : List α) : Prop := ∀ G vs, Ps G vs → Rs r G xs vs
theorem ls_n {α : Type} {r : α → Hp → V → Prop} : Ls r aN [] := fun G vs h => by cases h; exact .nil
theorem ls_c {α : Type} {r : α → Hp → V → Prop} {x : α} {xs : List α} {Ps : Hp → List V → Prop} (h : Ls r Ps xs) : Ls r (aC (r x) Ps) (x :: xs) := fun G vs ⟨v, ws, e, h1, h2⟩ => by
  rw [e]
  exact .cons h1 (h G ws h2)
/-- a new list, not yet frozen -/
def N (X : Cx) (e : Expr) (σ : L2.St) (G : Hp) (cs : Cells) {α : Type} (r : α → Hp → V → Prop) (xs : List α) : Prop :=
  ∀ G1 H, Same G G1 → Desc G1 cs H → ∀ Q : VK, (∀ G2 H2 l vs, Same G1 G2 → Desc G2 ((l, .lst vs) :: cs) H2 → Rs r G2 xs vs → Q (.ref l) H2) → wE X e σ H Q
theorem d_new {α : Type} {r : α → Hp → V → Prop} [∀ x, Mono (r x)] {xs : List α} (h : N X e σ G cs r xs) : D X e σ G cs (rL X.K r xs) := fun G1 H s d Q q =>
  h G1 H s d Q fun G2 H2 l vs s2 d2 hr => by
    obtain ⟨f1, f2⟩ := d2.freeze
    exact q _ _ _ (s2.trans f1) f2 ⟨l, vs, rfl, SqL.of upd_same, hr.mono f1⟩
theorem n_lst {α : Type} {r : α → Hp → V → Prop} {xs : List α} {Ps : Hp → List V → Prop} (h : A X es σ G cs Ps) (hl : Ls r Ps xs) (hn : xs.length ≤ 16777216 := by first | decide | simp | (simp; omega)) : N X (.List es pos) σ G cs r xs := fun G1 H s d Q q =>
  uE (pe_lst (sA X es)) (h G1 H s d _ fun G2 H2 vs s2 d2 hvs => by
    have hr := hl G2 vs hvs
    exact ⟨by rw [← hr.length]; exact sl_small hn, fun l hl => q G2 _ l vs s2 (d2.newCell hl _) hr⟩)
/-- list(xs) of a list -/
theorem n_listL {α : Type} {r : α → Hp → V → Prop} [∀ x, Mono (r x)] {xs : List α} {x : Str} (hm : X.mg x = none) (ha : D X a σ G cs (rdL X.K cs r xs)) (hg : Gl X x := by rfl) (hv : bootBuiltins x = some (.type "list") := by decide +kernel) (hn : x ≠ "__name__" := by decide) (hd : (x == ("__debug__" : Str)) = false := by decide)
    (he : starEach [a] X.env = (false, eval a X.env) :: starEach [] X.env := by rfl) (hpl : (backTo pos (starEach [] X.env)).any (·.1) = false := by rfl) : N X (.Call (.Name x p) [a] [] pos) σ G cs r xs := fun G1 H s d Q q =>
  uE (pe_callTy call_list_of hg hm hv (sA X [a]) (hn := hn) (hdb := hd) (he := he) (hpl := hpl)) (a_cons ha a_nil he G1 H s d _ fun G2 H2 vs s2 d2 hvs => by
    obtain ⟨v, ws, e1, h1, h2⟩ := hvs
    cases h2
    obtain ⟨l, us, e, hl, hr⟩ := h1.sq d2
    subst e
    exact ⟨l, us, e1, .inl hl, fun l' hl' => q G2 _ l' us s2 (d2.newCell hl' _) hr⟩)
end

section
variable {ε S L R : Type} {X : Cx} {W : ε → L2.St → Hp → Prop} {σ : L2.St} {G : Hp} {cs : Cells} {Φ : Po ε S L R} {m : Out ε S L R} {st : Stmt} {rest body : List Stmt} {e o : Expr} {P : Hp → V → Prop} {pos p : Pos}
/-- name = a new list that will change -/
theorem b_setN {α : Type} {r : α → Hp → V → Prop} {xs : List α} (i : Nat) {x : Str} (hN : X.N.Nodup) (he : N X e σ G cs r xs) (k : ∀ l vs G1, Same G G1 → Rs r G1 xs vs → B X W rest (σ.set i (some (.ref l))) G1 ((l, .lst vs) :: cs) Φ m) (hi : X.N[i]? = some x := by rfl) (hx : Loc X.env.scope x := by first | exact Or.inl rfl | exact Or.inr rfl)
    (hs : swapsWith e (some (.Name x p)) pos.line X.env = pure false := by rfl) (hf : X.fn x = true ∨ X.env.scope.names.lookup x = some .local := by first | exact .inl rfl | exact .inr rfl) : B X W (.Assign [.Name x p] e pos :: rest) σ G cs Φ m :=
  b_cons (ps_set hN hi hx (sE X e) hs hf) fun H d E w => he G H (Same.refl _) d _ fun G2 H2 l vs s2 d2 hr => k l vs G2 s2 hr H2 d2 E (w.up s2)
/-- xs.append(e), xs the cell at k -/
theorem b_app (k : Nat) {l : Addr} {vs : List V} {apos cpos : Pos} (hk : cs[k]? = some (l, .lst vs)) (ho : D X o σ G cs (rV (.ref l))) (he : D X e σ G cs P) (hz : vs.length < sizeLine)
    (q : ∀ v G1, Same G G1 → P G1 v → B X W rest σ G1 (cs.set k (l, .lst (vs ++ [v]))) Φ m) (hs : swapsWith (.Call (.Attribute o "append" apos) [e] [] cpos) none pos.line X.env = pure false := by rfl)
    (hbase : attributeBase o "append" X.env (eval o X.env) = eval o X.env := by rfl)
    (hfew : ((backTo cpos (starEach [e] X.env)).all (fun x => !x.1) && (backToKw cpos (keywordEach [] X.env)).all (fun x => x.1.isSome) && decide ([e].length + ([] : List Keyword).length + (if ([] : List Keyword).isEmpty then 0 else 1) < 30)) = true := by rfl)
    (hline : (apos.endLine == cpos.line) = true := by rfl) (hst : starEach [e] X.env = (false, eval e X.env) :: starEach [] X.env := by rfl) (hplain : (backTo cpos (starEach [] X.env)).any (·.1) = false := by rfl) :
    B X W (.Expr (.Call (.Attribute o "append" apos) [e] [] cpos) pos :: rest) σ G cs Φ m :=
  b_cons (ps_expr (pe_bm PySem.F.plainAttrs_list PySem.F.slot_list_append PySem.F.type_list_append mt_append (sE X o) (pa_cons (sE X e) pa_nil hst) hbase hfew hline hst hplain) hs) fun H d E w =>
    ho G H (Same.refl _) d _ fun G2 H2 u s2 d2 hu => by
      have eu : u = .ref l := hu
      subst eu
      refine ⟨.inl ⟨rfl, vs, SqL.of (d2.at_ (List.mem_of_getElem? hk))⟩, he G2 H2 s2 d2 _ fun G3 H3 v s3 d3 hv => ?_⟩
      exact ⟨l, vs, v, rfl, rfl, d3.at_ (List.mem_of_getElem? hk), hz, q v G3 (s2.trans s3) hv _ (d3.write hk _) E (w.up (s2.trans s3))⟩
theorem perm_at {cs : Cells} {k : Nat} {c : Addr × HO} (h : cs[k]? = some c) : cs.Perm (c :: cs.eraseIdx k) := by
  induction cs generalizing k with
  | nil => cases k <;> cases h
  | cons x cs ih =>
    cases k with
    | zero =>
      have e : x = c := Option.some.inj h
      subst e
      exact List.Perm.refl _
    | succ k => exact ((ih (k := k) h).cons x).trans (List.Perm.swap ..)
/-- the cell at k changes no more -/
theorem b_freeze (k : Nat) {l : Addr} {u : HO} (hk : cs[k]? = some (l, u)) (h : Same G (upd G l u) → (upd G l u) l = some u → B X W rest σ (upd G l u) (cs.eraseIdx k) Φ m) : B X W rest σ G cs Φ m := fun H d E w => by
  obtain ⟨f1, f2⟩ := (d.perm (perm_at hk)).freeze
  exact h f1 upd_same H f2 E (w.up f1)
end
end J

namespace J
open PySem L2 PyProof.Rows

/-! ### what is walked -/
/-- lo, lo + 1, .. below hi -/
def rng (lo hi : Int) : List Int := (List.range (hi - lo).toNat).map fun k : Nat => lo + (k : Int)
theorem rng_length (lo hi : Int) : (rng lo hi).length = (hi - lo).toNat := by simp [rng]
theorem rng_get {lo hi : Int} {i : Nat} (h : i < (hi - lo).toNat) : (rng lo hi)[i]? = some (lo + (i : Int)) := by simp [rng, h]
theorem rng_mem {lo hi x : Int} : x ∈ rng lo hi ↔ lo ≤ x ∧ x < hi := by
  unfold rng
  rw [List.mem_map]
  constructor
  · rintro ⟨k, hk, rfl⟩
    have := List.mem_range.mp hk
    omega
  · rintro ⟨h1, h2⟩
    exact ⟨(x - lo).toNat, List.mem_range.mpr (by omega), by omega⟩
/-- the items with their places -/
def enumL {α : Type} (xs : List α) : List (Int × α) := xs.zipIdx.map fun p => ((p.2 : Int), p.1)
theorem enumL_length {α : Type} (xs : List α) : (enumL xs).length = xs.length := by simp [enumL]
theorem enumL_get {α : Type} {xs : List α} {i : Nat} {x : α} (h : xs[i]? = some x) : (enumL xs)[i]? = some ((i : Int), x) := by simp [enumL, h]
theorem enumL_getE {α : Type} {xs : List α} {i : Nat} {p : Int × α} (h : (enumL xs)[i]? = some p) : p.1 = (i : Int) ∧ xs[i]? = some p.2 := by
  have hl : i < (enumL xs).length := (List.getElem?_eq_some_iff.mp h).1
  rw [enumL_length] at hl
  have e := enumL_get (xs := xs) (i := i) (x := xs[i]) (by simp [hl])
  rw [h] at e
  cases e
  exact ⟨rfl, by simp [hl]⟩
def rU (K : PySem.W.Frag) {α : Type} (r : α → Hp → V → Prop) (xs : List α) : Hp → V → Prop := fun G v => ∃ a vs, v = .ref a ∧ SqT K G a vs ∧ Rs r G xs vs
instance (K : PySem.W.Frag) {α : Type} (r : α → Hp → V → Prop) [m : ∀ x, Mono (r x)] (xs : List α) : Mono (rU K r xs) :=
  ⟨fun e ⟨a, vs, h1, h2, h3⟩ => ⟨a, vs, h1, seqT e h2, h3.mono e⟩⟩
section
variable {X : Cx} {σ : L2.St} {G : Hp} {cs : Cells} {e a b tg iter : Expr} {es : List Expr} {pos p : Pos} {α : Type} {r : α → Hp → V → Prop} {xs : List α}
theorem wd_list {l : Addr} {vs : List V} {C : Cells → Prop} [m : ∀ x, Mono (r x)] (hr : Rs r G xs vs) (hC : ∀ G1 H cs, Same G G1 → C cs → Desc G1 cs H → SqL X.K H l vs) : WalkD (Itl X.K l) xs G C r :=
  ⟨fun i G1 H cs hi s c d => walk_list.goes i H (by rw [← hr.length]; exact hi) (hC G1 H cs s c d), fun G1 H cs s c d => by
    have q := walk_list.stops H (hC G1 H cs s c d)
    rw [← hr.length] at q
    exact q, fun i x G1 H cs v H' hx s c d y => by
    have hi : i < xs.length := (List.getElem?_eq_some_iff.mp hx).1
    obtain ⟨e, hv⟩ := walk_list.yields i H v H' (by rw [← hr.length]; exact hi) (hC G1 H cs s c d) y
    obtain ⟨x', h1, h2⟩ := hr.getV hv
    rw [hx] at h1
    cases h1
    subst e
    exact ⟨G1, Same.refl _, d, (m x).mono s h2⟩⟩
theorem i_listF [∀ x, Mono (r x)] (h : D X iter σ G cs (rL X.K r xs)) : I X tg iter σ G cs (fun _ => True) xs r :=
  ⟨_, pi_list (sE X iter), fun G1 H s d Rr k => h G1 H s d _ fun G2 H2 v s2 d2 hv => by
    obtain ⟨l, vs, e, hl, hr⟩ := hv
    exact ⟨l, e, ⟨vs, d2.same.seq hl⟩, k _ G2 H2 s2 d2 (wd_list hr fun G3 H3 cs3 s3 _ d3 => d3.same.seq (s3.seq hl))⟩⟩
theorem i_listC {l : Addr} {vs : List V} [∀ x, Mono (r x)] (h : D X iter σ G cs (rV (.ref l))) (hm : (l, .lst vs) ∈ cs) (hr : Rs r G xs vs) : I X tg iter σ G cs (fun cs' => (l, .lst vs) ∈ cs') xs r :=
  ⟨_, pi_list (sE X iter), fun G1 H s d Rr k => h G1 H s d _ fun G2 H2 v s2 d2 hv =>
    ⟨l, hv, ⟨vs, SqL.of (d2.at_ hm)⟩, k _ G2 H2 s2 d2 (wd_list (hr.mono (s.trans s2)) fun G3 H3 cs3 s3 c3 d3 => SqL.of (d3.at_ c3))⟩⟩
theorem i_tupU [m : ∀ x, Mono (r x)] (h : D X iter σ G cs (rU X.K r xs)) : I X tg iter σ G cs (fun _ => True) xs r :=
  ⟨_, pi_tup (sE X iter), fun G1 H s d Rr k => h G1 H s d _ fun G2 H2 v s2 d2 hv => by
    obtain ⟨l, vs, e, hl, hr⟩ := hv
    refine ⟨l, e, ⟨vs, seqT d2.same hl⟩, k _ G2 H2 s2 d2 ⟨fun i G3 H3 cs3 hi s3 _ d3 => walk_tup.goes i H3 (by rw [← hr.length]; exact hi) (seqT d3.same (seqT s3 hl)), fun G3 H3 cs3 s3 _ d3 => ?_, fun i x G3 H3 cs3 v H' hx s3 _ d3 y => ?_⟩⟩
    · have q := walk_tup.stops H3 (seqT d3.same (seqT s3 hl))
      rw [← hr.length] at q
      exact q
    · have hi : i < xs.length := (List.getElem?_eq_some_iff.mp hx).1
      obtain ⟨e, hv⟩ := walk_tup.yields i H3 v H' (by rw [← hr.length]; exact hi) (seqT d3.same (seqT s3 hl)) y
      obtain ⟨x', h1, h2⟩ := hr.getV hv
      rw [hx] at h1
      cases h1
      subst e
      exact ⟨G3, Same.refl _, d3, (m x).mono s3 h2⟩⟩
theorem wd_rng {lo hi : Int} {C : Cells → Prop} : WalkD (Itr lo (hi - lo).toNat) (rng lo hi) G C rI :=
  ⟨fun i G1 H cs h s c d => by
    rw [rng_length] at h
    exact h, fun G1 H cs s c d => by
    show (hi - lo).toNat ≤ (rng lo hi).length
    rw [rng_length]
    exact Nat.le_refl _, fun i x G1 H cs v H' hx s c d y => by
    have h : i < (rng lo hi).length := (List.getElem?_eq_some_iff.mp hx).1
    rw [rng_length] at h
    rw [rng_get h] at hx
    cases hx
    obtain ⟨e1, e2⟩ := y
    subst e1
    exact ⟨G1, Same.refl _, d, e2⟩⟩
theorem i_rng1 {j : Int} (hm : X.mg "range" = none) (ha : D X a σ G cs (rI j)) (h1 : -(2 ^ 62) ≤ j) (h2 : j < 2 ^ 62) (hg : Gl X "range" := by rfl) (hs : starEach [a] X.env = [(false, eval a X.env)] := by rfl) (hst : starEach [a] X.env = (false, eval a X.env) :: starEach [] X.env := by rfl) :
    I X tg (.Call (.Name "range" p) [a] [] pos) σ G cs (fun _ => True) (rng 0 j) rI :=
  ⟨_, pi_range1 hg hm (sA X [a]) hs, fun G1 H s d Rr k => a_cons ha a_nil hst G1 H s d _ fun G2 H2 vs s2 d2 hvs => by
    obtain ⟨v, ws, e1, k1, k2⟩ := hvs
    cases k2
    cases k1
    refine ⟨j, e1, h1, h2, k _ G2 H2 s2 d2 ?_⟩
    have q := wd_rng (G := G2) (lo := 0) (hi := j) (C := fun _ => True)
    rw [Int.sub_zero] at q
    exact q⟩
theorem i_rng2 {i j : Int} (hm : X.mg "range" = none) (ha : D X a σ G cs (rI i)) (hb : D X b σ G cs (rI j)) (h : -(2 ^ 62) ≤ i ∧ i < 2 ^ 62 ∧ -(2 ^ 62) ≤ j ∧ j < 2 ^ 62) (hg : Gl X "range" := by rfl) (hs : starEach [a, b] X.env = [(false, eval a X.env), (false, eval b X.env)] := by rfl) (hs2 : starEach [b] X.env = [(false, eval b X.env)] := by rfl)
    (hst : starEach [a, b] X.env = (false, eval a X.env) :: starEach [b] X.env := by rfl) (hst2 : starEach [b] X.env = (false, eval b X.env) :: starEach [] X.env := by rfl) : I X tg (.Call (.Name "range" p) [a, b] [] pos) σ G cs (fun _ => True) (rng i j) rI :=
  ⟨_, pi_range2 hg hm (sA X [a, b]) hs hs2, fun G1 H s d Rr k => a_cons ha (a_cons hb a_nil hst2) hst G1 H s d _ fun G2 H2 vs s2 d2 hvs => by
    obtain ⟨v, ws, e1, k1, v2, ws2, e2, k2, k3⟩ := hvs
    cases k3
    cases k1
    cases k2
    subst e2
    exact ⟨i, j, e1, h, k _ G2 H2 s2 d2 wd_rng⟩⟩
def rC (c : Nat) : Hp → V → Prop := rS [c]
instance (c : Nat) : Mono (rC c) := ⟨fun _ h => h⟩
theorem i_str {l : List Nat} (h : D X iter σ G cs (rS l)) : I X tg iter σ G cs (fun _ => True) l rC :=
  ⟨_, pi_str (sE X iter), fun G1 H s d Rr k => h G1 H s d _ fun G2 H2 v s2 d2 hv => by
    refine ⟨SX.S l, hv, k _ G2 H2 s2 d2 ⟨fun i G3 H3 cs3 hi s3 _ d3 => ?_, fun G3 H3 cs3 s3 _ d3 => ?_, fun i x G3 H3 cs3 v H' hx s3 _ d3 y => ?_⟩⟩
    · show i < (SX.S l).cps.size
      simpa using hi
    · show (SX.S l).cps.size ≤ l.length
      simp
    · obtain ⟨e, c, h1, h2⟩ := y
      subst e
      have h3 : l[i]? = some c := by simpa using h1
      rw [hx] at h3
      cases h3
      exact ⟨G3, Same.refl _, d3, h2⟩⟩
theorem wd_enum {l : Addr} {vs : List V} {C : Cells → Prop} [m : ∀ x, Mono (r x)] (hr : Rs r G xs vs) (hC : ∀ G1 H cs, Same G G1 → C cs → Desc G1 cs H → SqL X.K H l vs) : WalkD (Ite X.K l) (enumL xs) G C (rT X.K (cc rI (c0 r))) :=
  ⟨fun i G1 H cs hi s c d => walk_enum.goes i H (by rw [enumL_length] at hi; rw [← hr.length]; exact hi) (hC G1 H cs s c d), fun G1 H cs s c d => by
    have q := walk_enum.stops H (hC G1 H cs s c d)
    rw [← hr.length] at q
    rw [enumL_length]
    exact q, fun i x G1 H cs v H' hx s c d y => by
    obtain ⟨e1, e2⟩ := enumL_getE hx
    have hi : i < xs.length := (List.getElem?_eq_some_iff.mp e2).1
    obtain ⟨t, u, w, h1, h2, h3, h4, h5⟩ := walk_enum.yields i H v H' (by rw [← hr.length]; exact hi) (hC G1 H cs s c d) y
    obtain ⟨x', k1, k2⟩ := hr.getV h5
    rw [e2] at k1
    cases k1
    cases h4
    subst h3
    have sf : Same G1 (upd G1 t (.tup [.int (i : Nat), w])) := Same.fresh d.same h2 _
    refine ⟨_, sf, d.new h2 _, t, [.int (i : Nat), w], h1, SqT.of upd_same, .int (i : Nat), [w], rfl, ?_, w, rfl, (m x.2).mono (s.trans sf) k2⟩
    show V.int _ = V.int _
    rw [e1]⟩
theorem i_enumF {elts : List Expr} {kk : Nat} {tpos : Pos} [∀ x, Mono (r x)] (hm : X.mg "enumerate" = none) (h : D X a σ G cs (rL X.K r xs)) (hg : Gl X "enumerate" := by rfl) (hs : starEach [a] X.env = [(false, eval a X.env)] := by rfl) (hst : starEach [a] X.env = (false, eval a X.env) :: starEach [] X.env := by rfl) :
    I X (.Tuple elts kk tpos) (.Call (.Name "enumerate" p) [a] [] pos) σ G cs (fun _ => True) (enumL xs) (rT X.K (cc rI (c0 r))) :=
  ⟨_, pi_enum hg hm (sA X [a]) hs, fun G1 H s d Rr k => a_cons h a_nil hst G1 H s d _ fun G2 H2 vs s2 d2 hvs => by
    obtain ⟨v, ws, e1, k1, k2⟩ := hvs
    cases k2
    obtain ⟨l, us, e, hl, hr⟩ := k1
    subst e
    exact ⟨l, us, e1, d2.same.seq hl, k _ G2 H2 s2 d2 (wd_enum hr fun G3 H3 cs3 s3 _ d3 => d3.same.seq (s3.seq hl))⟩⟩

/-! ### targets -/
def sxN (i : Nat) {α : Type} (r : α → Hp → V → Prop) : α → Hp → L2.St → L2.St → Prop := fun x G σ σ' => ∃ v, r x G v ∧ σ' = σ.set i (some v)
theorem tg_name (i : Nat) {x : Str} (hN : X.N.Nodup) (hi : X.N[i]? = some x := by rfl) (hx : Loc X.env.scope x := by first | exact Or.inl rfl | exact Or.inr rfl) (hf : X.fn x = true ∨ X.env.scope.names.lookup x = some .local := by first | exact .inl rfl | exact .inr rfl) : Tg X (.Name x pos) r (sxN i r) :=
  ⟨_, pg_name hN hi hx hf, fun x v G cs H σ h d Q q => q _ ⟨v, h, rfl⟩⟩
def Tgs {α : Type} (X : Cx) (ts : List Expr) (R : α → Hp → List V → Prop) (n : Nat) (Sx : α → Hp → L2.St → L2.St → Prop) : Prop :=
  ∃ g, PGs X ts g ∧ ∀ x vs G cs H σ, R x G vs → Desc G cs H → vs.length = n ∧ ∀ Q : L2.St → Hp → Prop, (∀ σ', Sx x G σ σ' → Q σ' H) → g vs σ H Q
theorem tgs_1 {S1 : α → Hp → L2.St → L2.St → Prop} (h : Tg X e r S1) (hs : (assignEach [e] X.env).map (·.2) = assign e X.env :: (assignEach [] X.env).map (·.2) := by rfl) : Tgs X [e] (c0 r) 1 S1 := by
  obtain ⟨g, h1, h2⟩ := h
  refine ⟨_, pgs_cons (hs := hs) h1 pgs_nil, fun x vs G cs H σ hr d => ?_⟩
  obtain ⟨v, rfl, hv⟩ := hr
  exact ⟨rfl, fun Q q => ⟨v, [], rfl, h2 x v G cs H σ hv d _ fun σ' hs => ⟨rfl, q σ' hs⟩⟩⟩
theorem tgs_c {β : Type} {r' : β → Hp → List V → Prop} {n : Nat} {S1 : α → Hp → L2.St → L2.St → Prop} {S2 : β → Hp → L2.St → L2.St → Prop} (h : Tg X e r S1) (h' : Tgs X es r' n S2) (hs : (assignEach (e :: es) X.env).map (·.2) = assign e X.env :: (assignEach es X.env).map (·.2) := by rfl) :
    Tgs X (e :: es) (cc r r') (n + 1) (fun x G σ σ' => ∃ σ1, S1 x.1 G σ σ1 ∧ S2 x.2 G σ1 σ') := by
  obtain ⟨g, h1, h2⟩ := h
  obtain ⟨g', h3, h4⟩ := h'
  refine ⟨_, pgs_cons (hs := hs) h1 h3, fun x vs G cs H σ hr d => ?_⟩
  obtain ⟨v, ws, rfl, hv, hw⟩ := hr
  refine ⟨by rw [List.length_cons, (h4 x.2 ws G cs H σ hw d).1], fun Q q => ⟨v, ws, rfl, h2 x.1 v G cs H σ hv d _ fun σ1 hs => (h4 x.2 ws G cs H σ1 hw d).2 Q fun σ' hs' => q σ' ⟨σ1, hs, hs'⟩⟩⟩
theorem tg_tup {R : α → Hp → List V → Prop} {n kk : Nat} {Sx : α → Hp → L2.St → L2.St → Prop} (hc : X.calm = true) (h : Tgs X es R n Sx) (hn : (assignEach es X.env).length = n := by rfl) (hst : (assignEach es X.env).findIdx? (·.1) = none := by rfl) : Tg X (.Tuple es kk pos) (rT X.K R) Sx := by
  obtain ⟨g, h1, h2⟩ := h
  refine ⟨_, pg_tup hc h1 hn hst, fun x v G cs H σ hr d Q q => ?_⟩
  obtain ⟨l, vs, e, hl, hR⟩ := hr
  obtain ⟨k1, k2⟩ := h2 x vs G cs H σ hR d
  exact ⟨l, vs, e, seqT d.same hl, k1, k2 Q q⟩
end
section
variable {ε S L R : Type} {X : Cx} {W : ε → L2.St → Hp → Prop} {σ : L2.St} {G : Hp} {cs : Cells} {Φ : Po ε S L R} {m : Out ε S L R} {st : Stmt} {rest body : List Stmt} {e o tg : Expr} {P : Hp → V → Prop} {pos p : Pos}
/-- a target of any form = e -/
theorem b_asg {α : Type} {r : α → Hp → V → Prop} {x : α} {Sx : α → Hp → L2.St → L2.St → Prop} (he : D X e σ G cs (r x)) (ht : Tg X tg r Sx) (k : ∀ σ' G1, Same G G1 → Sx x G1 σ σ' → B X W rest σ' G1 cs Φ m)
    (hs : swapsWithSole [tg] e pos.line X.env = pure false := by rfl) (hw : swappedStores [tg] e X.env = pure none := by rfl) (h1 : (assignEach [tg] X.env).map (·.2) = [assign tg X.env] := by rfl) : B X W (.Assign [tg] e pos :: rest) σ G cs Φ m := by
  obtain ⟨g, hg, h2⟩ := ht
  exact b_cons (ps_asg (sE X e) hg hs hw (h1 := h1)) fun H d E w => he G H (Same.refl _) d _ fun G2 H2 v s2 d2 hv => h2 x v G2 cs H2 σ hv d2 _ fun σ' hS => k σ' G2 s2 hS H2 d2 E (w.up s2)
theorem b_augAdd (i : Nat) {x : Str} {p' : Pos} {z y : Int} (hN : X.N.Nodup) (hz : σ[i]? = some (some (.int z))) (he : D X e σ G cs (rI y)) (k : ∀ G1, Same G G1 → B X W rest (σ.set i (some (.int (z + y)))) G1 cs Φ m) (hi : X.N[i]? = some x := by rfl) (hx : Loc X.env.scope x := by first | exact Or.inl rfl | exact Or.inr rfl)
    (hf : X.fn x = true ∨ X.env.scope.names.lookup x = some .local := by first | exact .inl rfl | exact .inr rfl) : B X W (.AugAssign (.Name x p') .Add e pos :: rest) σ G cs Φ m :=
  b_cons (ps_aug hN hi hx (sE X e) ip_add hf) fun H d E w => ⟨_, hz, he G H (Same.refl _) d _ fun G2 H2 v s2 d2 hv => ⟨z, y, rfl, hv, k G2 s2 H2 d2 E (w.up s2)⟩⟩
theorem b_augSub (i : Nat) {x : Str} {p' : Pos} {z y : Int} (hN : X.N.Nodup) (hz : σ[i]? = some (some (.int z))) (he : D X e σ G cs (rI y)) (k : ∀ G1, Same G G1 → B X W rest (σ.set i (some (.int (z - y)))) G1 cs Φ m) (hi : X.N[i]? = some x := by rfl) (hx : Loc X.env.scope x := by first | exact Or.inl rfl | exact Or.inr rfl)
    (hf : X.fn x = true ∨ X.env.scope.names.lookup x = some .local := by first | exact .inl rfl | exact .inr rfl) : B X W (.AugAssign (.Name x p') .Sub e pos :: rest) σ G cs Φ m :=
  b_cons (ps_aug hN hi hx (sE X e) ip_sub hf) fun H d E w => ⟨_, hz, he G H (Same.refl _) d _ fun G2 H2 v s2 d2 hv => ⟨z, y, rfl, hv, k G2 s2 H2 d2 E (w.up s2)⟩⟩
end

/-! ### sorted -/
def srt (xs : List Int) : List Int := xs.mergeSort fun a b => decide (a ≤ b)
def srtR (xs : List Int) : List Int := xs.mergeSort fun a b => decide (b ≤ a)
theorem perm_eq {le : Int → Int → Prop} (anti : ∀ a b, le a b → le b a → a = b) : ∀ {xs ys : List Int}, xs.Perm ys → xs.Pairwise le → ys.Pairwise le → xs = ys
  | [], ys, p, _, _ => (List.nil_perm.mp p).symm
  | x :: xs, [], p, _, _ => absurd (List.perm_nil.mp p) (by simp)
  | x :: xs, y :: ys, p, h1, h2 => by
    have hx : x ∈ y :: ys := p.mem_iff.mp List.mem_cons_self
    have hy : y ∈ x :: xs := p.mem_iff.mpr List.mem_cons_self
    have e : x = y := by
      rcases List.mem_cons.mp hx with e | hx
      · exact e
      · rcases List.mem_cons.mp hy with e | hy
        · exact e.symm
        · exact anti _ _ ((List.pairwise_cons.mp h1).1 y hy) ((List.pairwise_cons.mp h2).1 x hx)
    subst e
    rw [perm_eq anti (List.perm_cons x |>.mp p) (List.pairwise_cons.mp h1).2 (List.pairwise_cons.mp h2).2]
theorem srt_is {xs ys : List Int} (p : ys.Perm xs) (h : ys.Pairwise (· ≤ ·)) : ys = srt xs := by
  refine perm_eq (le := fun a b => a ≤ b) (fun a b => Int.le_antisymm) (p.trans (List.mergeSort_perm xs _).symm) h ?_
  have q := List.pairwise_mergeSort (le := fun a b : Int => decide (a ≤ b)) (fun a b c h1 h2 => by simp at *; omega) (fun a b => by simp; omega) xs
  exact q.imp fun h => of_decide_eq_true h
theorem srtR_is {xs ys : List Int} (p : ys.Perm xs) (h : ys.Pairwise (· ≥ ·)) : ys = srtR xs := by
  refine perm_eq (le := fun a b => b ≤ a) (fun a b h1 h2 => Int.le_antisymm h2 h1) (p.trans (List.mergeSort_perm xs _).symm) h ?_
  have q := List.pairwise_mergeSort (le := fun a b : Int => decide (b ≤ a)) (fun a b c h1 h2 => by simp at *; omega) (fun a b => by simp; omega) xs
  exact q.imp fun h => of_decide_eq_true h
section
variable {X : Cx} {σ : L2.St} {G : Hp} {cs : Cells} {a : Expr} {pos p : Pos} {xs : List Int}
theorem n_sorted (hm : X.mg "sorted" = none) (ha : D X a σ G cs (rdL X.K cs rI xs)) (hg : Gl X "sorted" := by rfl) (hv : bootBuiltins "sorted" = some (.builtin "sorted") := by decide +kernel)
    (he : starEach [a] X.env = (false, eval a X.env) :: starEach [] X.env := by rfl) (hpl : (backTo pos (starEach [] X.env)).any (·.1) = false := by rfl) : N X (.Call (.Name "sorted" p) [a] [] pos) σ G cs rI (srt xs) := fun G1 H s d Q q =>
  uE (pe_callB cr_sortedI hg hm hv (sA X [a]) (he := he) (hpl := hpl)) (a_cons ha a_nil he G1 H s d _ fun G2 H2 vs s2 d2 hvs => by
    obtain ⟨v, ws, e1, h1, h2⟩ := hvs
    cases h2
    obtain ⟨l, us, e, hl, hr⟩ := h1.sq d2
    subst e
    have hu := rs_int hr
    subst hu
    refine ⟨l, xs, e1, hl, fun ys l' hp hs hl' => q G2 _ l' _ s2 (d2.newCell hl' _) ?_⟩
    rw [srt_is hp hs]
    exact Rs.of_map (fun _ => rfl) _)
theorem n_sortedR {kn : Option Str} {jj : Nat} {p2 p3 : Pos} (hk : PK X [⟨kn, .Constant (.bool true) jj p2, p3⟩] (fun _ H Q => Q [.bl true] H)) (hm : X.mg "sorted" = none) (ha : D X a σ G cs (rdL X.K cs rI xs)) (hg : Gl X "sorted" := by rfl) (hv : bootBuiltins "sorted" = some (.builtin "sorted") := by decide +kernel)
    (he : backTo pos (starEach [a] X.env) = (false, eval a X.env) :: backTo pos (starEach [] X.env) := by rfl) (hst : starEach [a] X.env = (false, eval a X.env) :: starEach [] X.env := by rfl) (hpl : (backTo pos (starEach [a] X.env)).any (·.1) = false := by rfl)
    (hall : (backToKw pos (keywordEach [⟨kn, .Constant (.bool true) jj p2, p3⟩] X.env)).all (·.1.isSome) = true := by rfl) (hnone : (backToKw pos (keywordEach [⟨kn, .Constant (.bool true) jj p2, p3⟩] X.env)).any (·.1.isNone) = false := by rfl)
    (hks : (backToKw pos (keywordEach [⟨kn, .Constant (.bool true) jj p2, p3⟩] X.env)).filterMap (·.1) = [Str.ofString "reverse"] := by rfl) :
    N X (.Call (.Name "sorted" p) [a] [⟨kn, .Constant (.bool true) jj p2, p3⟩] pos) σ G cs rI (srtR xs) := fun G1 H s d Q q =>
  uE (pe_callBK (ks := [Str.ofString "reverse"]) (cr_sortedRev (b := true)) hg hm hv (sA X [a]) hk (he := he) (hpl := hpl) (hall := hall) (hnone := hnone) (hks := hks)) (a_cons ha a_nil hst G1 H s d _ fun G2 H2 vs s2 d2 hvs => by
    obtain ⟨v, ws, e1, h1, h2⟩ := hvs
    cases h2
    obtain ⟨l, us, e, hl, hr⟩ := h1.sq d2
    subst e
    have hu := rs_int hr
    subst hu
    refine ⟨l, xs, e1, rfl, hl, fun ys l' hp hs hl' => q G2 _ l' _ s2 (d2.newCell hl' _) ?_⟩
    have hs' : ys.Pairwise (· ≥ ·) := hs
    rw [srtR_is hp hs']
    exact Rs.of_map (fun _ => rfl) _)
end

/-! ### comprehensions -/
def Xb (X : Cx) (scope : Scope) (s : Shared) (H : Hp) (C : Addr) (cl : List (Str × Addr)) (fp : List Addr) : Cx := X.blk s H scope (compEnvC scope cl C X.env) fp
section
variable {X : Cx} {σ : L2.St} {G : Hp} {cs : Cells} {elt tg iter : Expr} {ifs : List Expr} {pos : Pos} {scope : Scope} {own : List (Str × Nat)} {α β : Type} {xs : List α} {Pi : α → Hp → V → Prop} {r : β → Hp → V → Prop} {f : α → β} {q : α → Bool}
/-- a target within a comprehension's block -/
def TgB (X : Cx) (scope : Scope) (tg : Expr) (P : α → Hp → V → Prop) (Sx : α → Hp → L2.St → L2.St → Prop) : Prop :=
  ∃ g, (∀ s H C cl fp, PG (X.blk s H scope (compEnvC scope cl C X.env) fp) tg g) ∧ ∀ x v G cs H σ, P x G v → Desc G cs H → ∀ Q : L2.St → Hp → Prop, (∀ σ', Sx x G σ σ' → Q σ' H) → g v σ H Q
theorem tgb_name (i : Nat) {x : Str} (hN : X.N.Nodup) (hi : X.N[i]? = some x := by rfl) (hx : scope.names.lookup x = some .local := by rfl) : TgB X scope (.Name x pos) Pi (sxN i Pi) :=
  ⟨_, fun s H C cl fp => by
    have k : (X.blk s H scope (compEnvC scope cl C X.env) fp).env.scope.names.lookup x = some .local := by
      first
      | exact lookup_relabel_local hx
      | (show (relabel scope X.env).names.lookup x = some .local
         unfold relabel
         exact lookup_relabel_local hx)
    exact pg_name (X := X.blk s H scope (compEnvC scope cl C X.env) fp) hN hi (.inl k) (.inr k), fun x v G cs H σ h d Q q => q _ ⟨v, h, rfl⟩⟩
/-- [elt for tg in iter if ..]: f of the items that q lets through -/
theorem lc_go {wi : TI} {g : TG} {tt : TT} {te : TE} {Sx : α → Hp → L2.St → L2.St → Prop} {C : Cells → Prop} {vs : List Nat} {H : Hp}
    (hw : ∀ Rr : It → Hp → Prop, (∀ J G2 H2, Same G G2 → Desc G2 cs H2 → WalkD J xs G2 C Pi → Rr J H2) → wi σ H Rr) (hg : ∀ x v G cs H σ, Pi x G v → Desc G cs H → ∀ Q : L2.St → Hp → Prop, (∀ σ', Sx x G σ σ' → Q σ' H) → g v σ H Q)
    (hC : ∀ l us, C ((l, .lst us) :: cs)) (hwipe : ∀ x G1 σ', Sx x G1 (wipe σ vs) σ' → wipe σ' vs = wipe σ vs) [∀ y, Mono (r y)]
    (ht : ∀ x, x ∈ xs → ∀ G1 cs1 σ', Same G G1 → (∃ c, cs1 = c :: cs) → Sx x G1 (wipe σ vs) σ' → ∀ G2 H2, Same G1 G2 → Desc G2 cs1 H2 → ∀ Q : Bool → Hp → Prop, (∀ G3 H3, Same G2 G3 → Desc G3 cs1 H3 → Q (q x) H3) → tt σ' H2 Q)
    (he : ∀ x, x ∈ xs → q x = true → ∀ G1 cs1 σ', Same G G1 → (∃ c, cs1 = c :: cs) → Sx x G1 (wipe σ vs) σ' → ∀ G2 H2, Same G1 G2 → Desc G2 cs1 H2 → ∀ Q : VK, (∀ G3 H3 v, Same G2 G3 → Desc G3 cs1 H3 → r (f x) G3 v → Q v H3) → te σ' H2 Q)
    (hsz : xs.length ≤ 16777215) {Q : VK} (hQ : ∀ G2 H2 l us, Same G G2 → Desc G2 ((l, .lst us) :: cs) H2 → Rs r G2 ((xs.filter q).map f) us → Q (.ref l) H2) : tLc wi g tt te vs σ H Q := by
  refine hw _ fun J G2 H2 s2 d2 wk => fun l hl => ?_
  have hlen : ∀ i, ((xs.take i).filter q).length ≤ i := fun i => Nat.le_trans (List.length_filter_le _ _) (by rw [List.length_take]; omega)
  let Pv : Nat → Hp → Prop := fun i H1 => ∃ G1 us, i ≤ xs.length ∧ Same G2 G1 ∧ Desc G1 ((l, .lst us) :: cs) H1 ∧ Rs r G1 (((xs.take i).filter q).map f) us
  refine ⟨fun i n H1 => n = xs.length - i ∧ Pv i H1, ⟨xs.length, rfl, G2, [], Nat.zero_le _, Same.refl _, d2.newCell hl _, .nil⟩, ?_⟩
  rintro i n H1 ⟨rfl, G1, us, hi, s1, d1, hr⟩
  by_cases hlt : i < xs.length
  · refine .inr ⟨wk.goes i G1 H1 _ hlt s1 (hC _ _) d1, Pv (i + 1), fun H' p' => ⟨_, by omega, rfl, p'⟩, fun v H3 y => ?_⟩
    have hx : xs[i]? = some xs[i] := by simp [hlt]
    have hm : xs[i] ∈ xs := List.getElem_mem hlt
    obtain ⟨G3, s3, d3, pv⟩ := wk.yields i xs[i] G1 H1 _ v H3 hx s1 (hC _ _) d1 y
    have et : xs.take (i + 1) = xs.take i ++ [xs[i]] := by simp
    refine hg xs[i] v G3 _ H3 _ pv d3 _ fun σ' hS => ⟨hwipe _ _ _ hS, ?_⟩
    refine ht xs[i] hm G3 _ σ' ((s2.trans s1).trans s3) ⟨_, rfl⟩ hS G3 H3 (Same.refl _) d3 _ fun G4 H4 s4 d4 => ?_
    cases hq : q xs[i] with
    | true =>
      refine iteT (he xs[i] hm hq G3 _ σ' ((s2.trans s1).trans s3) ⟨_, rfl⟩ hS G4 H4 s4 d4 _ fun G5 H5 w s5 d5 hw => ⟨us, d5.at_ List.mem_cons_self, ?_, G5, us ++ [w], hlt, ((s1.trans s3).trans s4).trans s5, d5.write (k := 0) rfl _, ?_⟩)
      · rw [← hr.length, List.length_map]
        have := hlen i
        rw [sizeLine_eq]
        omega
      · rw [et, List.filter_append, List.map_append, List.filter_cons_of_pos hq]
        exact Rs.snoc hw (hr.mono ((s3.trans s4).trans s5))
    | false =>
      refine iteF ⟨G4, us, hlt, (s1.trans s3).trans s4, d4, ?_⟩
      rw [et, List.filter_append, List.filter_cons_of_neg (by rw [hq]; decide), List.filter_nil, List.append_nil]
      exact hr.mono (s3.trans s4)
  · have e : i = xs.length := by omega
    subst e
    rw [List.take_length] at hr
    exact .inl ⟨wk.stops G1 H1 _ s1 (hC _ _) d1, hQ G1 H1 l us (s2.trans s1) d1 hr⟩
def teB (X : Cx) (scope : Scope) (e : Expr) : TE := fun σ H Q => ∀ s H0 C cl fp, wE (X.blk s H0 scope (compEnvC scope cl C X.env) fp) e σ H Q
def ttB (X : Cx) (scope : Scope) (e : Expr) : TT := fun σ H Q => ∀ s H0 C cl fp, wT (X.blk s H0 scope (compEnvC scope cl C X.env) fp) e σ H Q
/-- without a test -/
theorem n_lc {Sx : α → Hp → L2.St → L2.St → Prop} {C : Cells → Prop} (hcalm : X.calm = true) (hN : X.N.Nodup) (ok : BlkOk X.N X.env.scope scope own) (hi : I X tg iter σ G cs C xs Pi) (ht : TgB X scope tg Pi Sx)
    (hC : ∀ l us, C ((l, .lst us) :: cs)) (hwipe : ∀ x G1 σ', Sx x G1 (wipe σ (own.map (·.2))) σ' → wipe σ' (own.map (·.2)) = wipe σ (own.map (·.2))) [∀ y, Mono (r y)]
    (he : ∀ x, x ∈ xs → ∀ G1 cs1 σ', Same G G1 → (∃ c, cs1 = c :: cs) → Sx x G1 (wipe σ (own.map (·.2))) σ' → ∀ s H0 C cl fp, D (X.blk s H0 scope (compEnvC scope cl C X.env) fp) elt σ' G1 cs1 (r (f x)))
    (hsz : xs.length ≤ 16777215) (hs : ∀ x, foldedSetIterable iter X.env x = pure x := by intro _; rfl) : N X (.ListComp elt [⟨tg, iter, [], 0⟩] scope pos) σ G cs r (xs.map f) := by
  obtain ⟨wi, hpi, hw⟩ := hi
  obtain ⟨g, hpg, hgt⟩ := ht
  intro G1 H s d Q q
  refine uE (pe_lc (te := teB X scope elt) hcalm hN hpi ok hpg (fun _ _ _ _ _ => pts_nil) (fun s H0 C cl fp => ⟨fun pins s1 σ H Q I h => (h s H0 C cl fp).run pins s1 I⟩) hs) ?_
  refine lc_go (Sx := Sx) (C := C) (r := r) (f := f) (q := fun _ => true) (hw G1 H s d) hgt hC hwipe (fun x hx G2 cs1 σ' s2 hc hS G3 H3 s3 d3 Q q => q G3 H3 (Same.refl _) d3)
    (fun x hx _ G2 cs1 σ' s2 hc hS G3 H3 s3 d3 Q q s4 H4 C4 cl4 fp4 => he x hx G2 cs1 σ' (s.trans s2) hc hS s4 H4 C4 cl4 fp4 G3 H3 s3 d3 Q q) hsz fun G2 H2 l us s2 d2 hr => q G2 H2 l us s2 d2 ?_
  have e : xs.filter (fun _ => true) = xs := by simp
  rw [e] at hr
  exact hr
/-- with one test -/
theorem n_lcIf {cnd : Expr} {Sx : α → Hp → L2.St → L2.St → Prop} {C : Cells → Prop} (hcalm : X.calm = true) (hN : X.N.Nodup) (ok : BlkOk X.N X.env.scope scope own) (hi : I X tg iter σ G cs C xs Pi) (ht : TgB X scope tg Pi Sx)
    (hC : ∀ l us, C ((l, .lst us) :: cs)) (hwipe : ∀ x G1 σ', Sx x G1 (wipe σ (own.map (·.2))) σ' → wipe σ' (own.map (·.2)) = wipe σ (own.map (·.2))) [∀ y, Mono (r y)]
    (hq : ∀ x, x ∈ xs → ∀ G1 cs1 σ', Same G G1 → (∃ c, cs1 = c :: cs) → Sx x G1 (wipe σ (own.map (·.2))) σ' → ∀ s H0 C cl fp, T (X.blk s H0 scope (compEnvC scope cl C X.env) fp) cnd σ' G1 cs1 (q x))
    (he : ∀ x, x ∈ xs → q x = true → ∀ G1 cs1 σ', Same G G1 → (∃ c, cs1 = c :: cs) → Sx x G1 (wipe σ (own.map (·.2))) σ' → ∀ s H0 C cl fp, D (X.blk s H0 scope (compEnvC scope cl C X.env) fp) elt σ' G1 cs1 (r (f x)))
    (hsz : xs.length ≤ 16777215) (hs : ∀ x, foldedSetIterable iter X.env x = pure x := by intro _; rfl) : N X (.ListComp elt [⟨tg, iter, [cnd], 0⟩] scope pos) σ G cs r ((xs.filter q).map f) := by
  obtain ⟨wi, hpi, hw⟩ := hi
  obtain ⟨g, hpg, hgt⟩ := ht
  intro G1 H s d Q k
  refine uE (pe_lc (te := teB X scope elt) (tt := ttB X scope cnd) hcalm hN hpi ok hpg (fun s H0 C cl fp => pts_one ⟨fun pins s1 σ H Q I h => (h s H0 C cl fp).run pins s1 I⟩) (fun s H0 C cl fp => ⟨fun pins s1 σ H Q I h => (h s H0 C cl fp).run pins s1 I⟩) hs) ?_
  exact lc_go (Sx := Sx) (C := C) (r := r) (f := f) (q := q) (hw G1 H s d) hgt hC hwipe (fun x hx G2 cs1 σ' s2 hc hS G3 H3 s3 d3 Q q s4 H4 C4 cl4 fp4 => hq x hx G2 cs1 σ' (s.trans s2) hc hS s4 H4 C4 cl4 fp4 G3 H3 s3 d3 Q q)
    (fun x hx hx2 G2 cs1 σ' s2 hc hS G3 H3 s3 d3 Q q s4 H4 C4 cl4 fp4 => he x hx hx2 G2 cs1 σ' (s.trans s2) hc hS s4 H4 C4 cl4 fp4 G3 H3 s3 d3 Q q) hsz fun G2 H2 l us s2 d2 hr => k G2 H2 l us s2 d2 hr
end
section
variable {ε S L R : Type} {X : Cx} {W : ε → L2.St → Hp → Prop} {σ : L2.St} {G : Hp} {cs : Cells} {Φ : Po ε S L R} {m : Out ε S L R} {rest : List Stmt} {elt tg iter : Expr} {pos spos : Pos} {scope : Scope} {own : List (Str × Nat)} {α β : Type} {xs : List α} {Pi : α → Hp → V → Prop} {r : β → Hp → V → Prop} {f : α → β} {q : α → Bool}
/-- y = [..], a statement of its own -/
theorem b_setLc (i : Nat) {y : Str} {py : Pos} {Sx : α → Hp → L2.St → L2.St → Prop} {C : Cells → Prop} (hcalm : X.calm = true) (hN : X.N.Nodup) (hyl : X.env.scope.names.lookup y = some .local) (hsw : swapsWith (.ListComp elt [⟨tg, iter, [], 0⟩] scope pos) (some (.Name y py)) spos.line X.env = pure true)
    (ok : BlkOk X.N X.env.scope scope own) (hi : I X tg iter σ G cs C xs Pi) (ht : TgB X scope tg Pi Sx)
    (hC : ∀ l us, C ((l, .lst us) :: cs)) (hwipe : ∀ x G1 σ', Sx x G1 (wipe σ (own.map (·.2))) σ' → wipe σ' (own.map (·.2)) = wipe σ (own.map (·.2))) [∀ y, Mono (r y)]
    (he : ∀ x, x ∈ xs → ∀ G1 cs1 σ', Same G G1 → (∃ c, cs1 = c :: cs) → Sx x G1 (wipe σ (own.map (·.2))) σ' → ∀ s H0 C cl fp, D (X.blk s H0 scope (compEnvC scope cl C X.env) fp) elt σ' G1 cs1 (r (f x)))
    (hsz : xs.length ≤ 16777215) (k : ∀ l vs G1, Same G G1 → Rs r G1 (xs.map f) vs → B X W rest (σ.set i (some (.ref l))) G1 ((l, .lst vs) :: cs) Φ m) (hy : X.N[i]? = some y := by rfl) (hs : ∀ x, foldedSetIterable iter X.env x = pure x := by intro _; rfl) :
    B X W (.Assign [.Name y py] (.ListComp elt [⟨tg, iter, [], 0⟩] scope pos) spos :: rest) σ G cs Φ m := by
  obtain ⟨wi, hpi, hw⟩ := hi
  obtain ⟨g, hpg, hgt⟩ := ht
  refine b_cons (ps_setLc (te := teB X scope elt) hcalm hN hy hyl hsw hpi ok hpg (fun _ _ _ _ _ => pts_nil) (fun s H0 C cl fp => ⟨fun pins s1 σ H Q I h => (h s H0 C cl fp).run pins s1 I⟩) hs) fun H d E w => ?_
  refine lc_go (Sx := Sx) (C := C) (r := r) (f := f) (q := fun _ => true) (hw G H (Same.refl _) d) hgt hC hwipe (fun x hx G2 cs1 σ' s2 hc hS G3 H3 s3 d3 Q q => q G3 H3 (Same.refl _) d3)
    (fun x hx _ G2 cs1 σ' s2 hc hS G3 H3 s3 d3 Q q s4 H4 C4 cl4 fp4 => he x hx G2 cs1 σ' s2 hc hS s4 H4 C4 cl4 fp4 G3 H3 s3 d3 Q q) hsz fun G2 H2 l us s2 d2 hr => k l us G2 s2 ?_ H2 d2 E (w.up s2)
  have e : xs.filter (fun _ => true) = xs := by simp
  rw [e] at hr
  exact hr
theorem b_setLcIf (i : Nat) {y : Str} {py : Pos} {cnd : Expr} {Sx : α → Hp → L2.St → L2.St → Prop} {C : Cells → Prop} (hcalm : X.calm = true) (hN : X.N.Nodup) (hyl : X.env.scope.names.lookup y = some .local) (hsw : swapsWith (.ListComp elt [⟨tg, iter, [cnd], 0⟩] scope pos) (some (.Name y py)) spos.line X.env = pure true)
    (ok : BlkOk X.N X.env.scope scope own) (hi : I X tg iter σ G cs C xs Pi) (ht : TgB X scope tg Pi Sx)
    (hC : ∀ l us, C ((l, .lst us) :: cs)) (hwipe : ∀ x G1 σ', Sx x G1 (wipe σ (own.map (·.2))) σ' → wipe σ' (own.map (·.2)) = wipe σ (own.map (·.2))) [∀ y, Mono (r y)]
    (hq : ∀ x, x ∈ xs → ∀ G1 cs1 σ', Same G G1 → (∃ c, cs1 = c :: cs) → Sx x G1 (wipe σ (own.map (·.2))) σ' → ∀ s H0 C cl fp, T (X.blk s H0 scope (compEnvC scope cl C X.env) fp) cnd σ' G1 cs1 (q x))
    (he : ∀ x, x ∈ xs → q x = true → ∀ G1 cs1 σ', Same G G1 → (∃ c, cs1 = c :: cs) → Sx x G1 (wipe σ (own.map (·.2))) σ' → ∀ s H0 C cl fp, D (X.blk s H0 scope (compEnvC scope cl C X.env) fp) elt σ' G1 cs1 (r (f x)))
    (hsz : xs.length ≤ 16777215) (k : ∀ l vs G1, Same G G1 → Rs r G1 ((xs.filter q).map f) vs → B X W rest (σ.set i (some (.ref l))) G1 ((l, .lst vs) :: cs) Φ m) (hy : X.N[i]? = some y := by rfl) (hs : ∀ x, foldedSetIterable iter X.env x = pure x := by intro _; rfl) :
    B X W (.Assign [.Name y py] (.ListComp elt [⟨tg, iter, [cnd], 0⟩] scope pos) spos :: rest) σ G cs Φ m := by
  obtain ⟨wi, hpi, hw⟩ := hi
  obtain ⟨g, hpg, hgt⟩ := ht
  refine b_cons (ps_setLc (te := teB X scope elt) (tt := ttB X scope cnd) hcalm hN hy hyl hsw hpi ok hpg (fun s H0 C cl fp => pts_one ⟨fun pins s1 σ H Q I h => (h s H0 C cl fp).run pins s1 I⟩) (fun s H0 C cl fp => ⟨fun pins s1 σ H Q I h => (h s H0 C cl fp).run pins s1 I⟩) hs) fun H d E w => ?_
  exact lc_go (Sx := Sx) (C := C) (r := r) (f := f) (q := q) (hw G H (Same.refl _) d) hgt hC hwipe (fun x hx G2 cs1 σ' s2 hc hS G3 H3 s3 d3 Q q s4 H4 C4 cl4 fp4 => hq x hx G2 cs1 σ' s2 hc hS s4 H4 C4 cl4 fp4 G3 H3 s3 d3 Q q)
    (fun x hx hx2 G2 cs1 σ' s2 hc hS G3 H3 s3 d3 Q q s4 H4 C4 cl4 fp4 => he x hx hx2 G2 cs1 σ' s2 hc hS s4 H4 C4 cl4 fp4 G3 H3 s3 d3 Q q) hsz fun G2 H2 l us s2 d2 hr => k l us G2 s2 hr H2 d2 E (w.up s2)
end

/-! ### defs -/
theorem Desc.drop {G H : Hp} {loc cs : Cells} (d : Desc G (loc ++ cs) H) : Desc G cs H := by
  induction loc with
  | nil => exact d
  | cons c loc ih => exact ih d.forget
/-- the promise of a def that raises nothing: i what it is given, pre how it lies, m what it gives, r how that lies -/
def SpP {I O : Type} (pre : I → Hp → List V → Prop) (r : I → O → Hp → V → Prop) (m : I → O) : Sp := fun vs H Q _ => ∃ (i : I) (G : Hp) (cs : Cells), Desc G cs H ∧ pre i G vs ∧ ∀ v G2 H2, Same G G2 → Desc G2 cs H2 → r i (m i) G2 v → Q v H2
/-- .. of one that may raise -/
def SpE {ε I O : Type} (cE : ε → Value) (pre : I → Hp → List V → Prop) (r : I → O → Hp → V → Prop) (m : I → Except ε O) : Sp := fun vs H Q E => ∃ (i : I) (G : Hp) (cs : Cells), Desc G cs H ∧ pre i G vs ∧
  (match m i with
    | .ok o => ∀ v G2 H2, Same G G2 → Desc G2 cs H2 → r i o G2 v → Q v H2
    | .error k => ∀ G2 H2, Same G G2 → Desc G2 cs H2 → E (cE k) none H2)
structure Fn0 (P : Program) (w : World) (K : PySem.W.Frag) (mg : Str → Option Value) (base : Heap) (CX : CXT) (k : Nat) (x : Str) (n : Nat) (sp : Sp) : Prop where
  ex : ∃ (f : Addr) (fd : FuncData) (ps : List Str), FnOk P w K mg base CX k f fd ps sp ∧ mg x = some (.ref f) ∧ PySem.W.keepIn K (.ref f) = true ∧ Binds K fd ps [] ∧ ps.length = n
/-- what is wanted at a def's end -/
def PoF {ε O : Type} [Inhabited O] (cs : Cells) (r : O → Hp → V → Prop) : Po ε Unit Empty O :=
  { nx := fun _ _ G2 cs2 => (∃ loc, cs2 = loc ++ cs) ∧ r default G2 .non, lp := fun l => l.elim, rt := fun o G2 cs2 v => (∃ loc, cs2 = loc ++ cs) ∧ r o G2 v, er := fun _ _ _ cs2 => ∃ loc, cs2 = loc ++ cs }
section
variable {P : Program} {w : World} {K : PySem.W.Frag} {mg : Str → Option Value} {base : Heap}
theorem fn_ok {I O : Type} [Inhabited O] {x : Str} {st : Stmt} {f : Addr} {fd : FuncData} {N ps : List Str} {k : Nat} {pre : I → Hp → List V → Prop} {r : I → O → Hp → V → Prop} (F : Fun K x x st f fd) (S : FnScope N ps (defScope st))
    (body : I → Out Empty Unit Empty O) (len : ∀ i G vs, pre i G vs → vs.length = ps.length)
    (h : ∀ (cdv : Value) (A : Around) (outer : List Env) (s : Shared) (H : Hp) (E : XK) (i : I) (G : Hp) (cs : Cells) (vs : List V), Room k (A.deeper (envOfC x (defScope st) s.heap.objs.size f cdv)) → pre i G vs →
      B (cxOf CX0 P w K mg base N x (defScope st) f cdv A outer s H E).nox (fun e _ _ => e.elim) (defBody st) (start N vs) G cs (PoF cs (r i)) (body i)) :
    FnOk P w K mg base CX0 (k + 1) f fd ps (SpP pre r fun i => (body i).val) := by
  refine F.ok S (fun vs H Q E hs => ?_) (fun cdv A outer s H vs Q E hr hs => ?_)
  · obtain ⟨i, G, cs, _, hp, _⟩ := hs
    exact len i G vs hp
  · obtain ⟨i, G, cs, d, hp, q⟩ := hs
    refine ⟨_, sSs _ (defBody st), h cdv A outer s H E i G cs vs hr hp H d _ ?_⟩
    cases hb : body i with
    | nx u =>
      rintro σ2 G2 cs2 H2 s2 d2 ⟨⟨loc, rfl⟩, hr2⟩
      refine q _ G2 H2 s2 d2.drop ?_
      dsimp only
      rw [hb]
      exact hr2
    | bk l => exact l.elim
    | ct l => exact l.elim
    | rt o =>
      rintro v G2 cs2 H2 s2 d2 ⟨⟨loc, rfl⟩, hr2⟩
      refine q _ G2 H2 s2 d2.drop ?_
      dsimp only
      rw [hb]
      exact hr2
    | er e => exact e.elim
theorem fn_mk {I O : Type} [Inhabited O] {x : Str} {st : Stmt} {f : Addr} {fd : FuncData} {N ps : List Str} {k : Nat} {pre : I → Hp → List V → Prop} {r : I → O → Hp → V → Prop} (F : Fun K x x st f fd) (S : FnScope N ps (defScope st)) (b : Binds K fd ps []) (hmg : mg x = some (.ref f))
    (body : I → Out Empty Unit Empty O) (len : ∀ i G vs, pre i G vs → vs.length = ps.length)
    (h : ∀ (cdv : Value) (A : Around) (outer : List Env) (s : Shared) (H : Hp) (E : XK) (i : I) (G : Hp) (cs : Cells) (vs : List V), Room k (A.deeper (envOfC x (defScope st) s.heap.objs.size f cdv)) → pre i G vs →
      B (cxOf CX0 P w K mg base N x (defScope st) f cdv A outer s H E).nox (fun e _ _ => e.elim) (defBody st) (start N vs) G cs (PoF cs (r i)) (body i)) :
    Fn0 P w K mg base CX0 (k + 1) x ps.length (SpP pre r fun i => (body i).val) :=
  ⟨f, fd, ps, fn_ok F S body len h, hmg, F.kp, b, rfl⟩
theorem fn_okE {ε I O : Type} [Inhabited O] {cE : ε → Value} {x : Str} {st : Stmt} {f : Addr} {fd : FuncData} {N ps : List Str} {k : Nat} {pre : I → Hp → List V → Prop} {r : I → O → Hp → V → Prop} (F : Fun K x x st f fd) (S : FnScope N ps (defScope st))
    (body : I → Out ε Unit Empty O) (len : ∀ i G vs, pre i G vs → vs.length = ps.length)
    (h : ∀ (cdv : Value) (A : Around) (outer : List Env) (s : Shared) (H : Hp) (E : XK) (i : I) (G : Hp) (cs : Cells) (vs : List V), Room k (A.deeper (envOfC x (defScope st) s.heap.objs.size f cdv)) → pre i G vs →
      B (cxOf (L2.CX P w) P w K mg base N x (defScope st) f cdv A outer s H E) (fun e _ H => E (cE e) none H) (defBody st) (start N vs) G cs (PoF cs (r i)) (body i)) :
    FnOk P w K mg base (L2.CX P w) (k + 1) f fd ps (SpE cE pre r fun i => (body i).res) := by
  refine F.okX S (fun vs H Q E hs => ?_) (fun cdv A outer s H vs Q E hr hs => ?_)
  · obtain ⟨i, G, cs, _, hp, _⟩ := hs
    exact len i G vs hp
  · obtain ⟨i, G, cs, d, hp, q⟩ := hs
    refine ⟨_, sSs _ (defBody st), h cdv A outer s H E i G cs vs hr hp H d _ ?_⟩
    cases hb : body i with
    | nx u =>
      dsimp only at q
      rw [hb] at q
      rintro σ2 G2 cs2 H2 s2 d2 ⟨⟨loc, rfl⟩, hr2⟩
      exact q _ G2 H2 s2 d2.drop hr2
    | bk l => exact l.elim
    | ct l => exact l.elim
    | rt o =>
      dsimp only at q
      rw [hb] at q
      rintro v G2 cs2 H2 s2 d2 ⟨⟨loc, rfl⟩, hr2⟩
      exact q _ G2 H2 s2 d2.drop hr2
    | er e =>
      dsimp only at q
      rw [hb] at q
      rintro σ2 G2 cs2 H2 s2 d2 ⟨loc, rfl⟩
      exact q G2 H2 s2 d2.drop
theorem fn_mkE {ε I O : Type} [Inhabited O] {cE : ε → Value} {x : Str} {st : Stmt} {f : Addr} {fd : FuncData} {N ps : List Str} {k : Nat} {pre : I → Hp → List V → Prop} {r : I → O → Hp → V → Prop} (F : Fun K x x st f fd) (S : FnScope N ps (defScope st)) (b : Binds K fd ps []) (hmg : mg x = some (.ref f))
    (body : I → Out ε Unit Empty O) (len : ∀ i G vs, pre i G vs → vs.length = ps.length)
    (h : ∀ (cdv : Value) (A : Around) (outer : List Env) (s : Shared) (H : Hp) (E : XK) (i : I) (G : Hp) (cs : Cells) (vs : List V), Room k (A.deeper (envOfC x (defScope st) s.heap.objs.size f cdv)) → pre i G vs →
      B (cxOf (L2.CX P w) P w K mg base N x (defScope st) f cdv A outer s H E) (fun e _ H => E (cE e) none H) (defBody st) (start N vs) G cs (PoF cs (r i)) (body i)) :
    Fn0 P w K mg base (L2.CX P w) (k + 1) x ps.length (SpE cE pre r fun i => (body i).res) :=
  ⟨f, fd, ps, fn_okE F S body len h, hmg, F.kp, b, rfl⟩
end
section
variable {X : Cx} {σ : L2.St} {G : Hp} {cs : Cells} {e : Expr} {es : List Expr} {pos p : Pos}
/-- a call of a def that raises nothing -/
theorem d_call {I O : Type} {pre : I → Hp → List V → Prop} {r : I → O → Hp → V → Prop} {m : I → O} {k j n : Nat} {x : Str} {Ps : Hp → List V → Prop} (i : I) (F : Fn0 X.prog X.w X.K X.mg X.base CX0 k x n (SpP pre r m)) (hr : Room j X.A) (hk : k ≤ j)
    (ha : A X (e :: es) σ G cs Ps) (hp : ∀ G1 vs, Same G G1 → Ps G1 vs → pre i G1 vs) (hg : Gl X x := by rfl) (hd : (x == ("__debug__" : Str)) = false := by decide)
    (he : starEach (e :: es) X.env = (false, eval e X.env) :: starEach es X.env := by exact star_plain rfl) (hpl : (backTo pos (starEach es X.env)).any (·.1) = false := by rfl) : D X (.Call (.Name x p) (e :: es) [] pos) σ G cs (r i (m i)) := by
  obtain ⟨f, fd, ps, F, hm, kp, b, _⟩ := F.ex
  refine d_by (pe_call F (hr.mono hk) hg hm kp b .nil pass0 (sA X _) (hdb := hd) (he := he) (hpl := hpl)) fun G1 H s d Q q => ha G1 H s d _ fun G2 H2 vs s2 d2 hvs => ?_
  refine ⟨i, G2, cs, d2, ?_, fun v G3 H3 s3 d3 hv => q G3 H3 v (s2.trans s3) d3 hv⟩
  rw [List.append_nil]
  exact hp G2 vs (s.trans s2) hvs
theorem d_callQ {I O : Type} {pre : I → Hp → List V → Prop} {r : I → O → Hp → V → Prop} {m : I → O} {k j n : Nat} {x : Str} {Ps : Hp → List V → Prop} {P : Hp → V → Prop} (i : I) (F : Fn0 X.prog X.w X.K X.mg X.base CX0 k x n (SpP pre r m)) (hr : Room j X.A) (hk : k ≤ j)
    (ha : A X (e :: es) σ G cs Ps) (hp : ∀ G1 vs, Same G G1 → Ps G1 vs → pre i G1 vs) (hP : ∀ G v, r i (m i) G v → P G v) (hg : Gl X x := by rfl) (hd : (x == ("__debug__" : Str)) = false := by decide)
    (he : starEach (e :: es) X.env = (false, eval e X.env) :: starEach es X.env := by exact star_plain rfl) (hpl : (backTo pos (starEach es X.env)).any (·.1) = false := by rfl) : D X (.Call (.Name x p) (e :: es) [] pos) σ G cs P :=
  (d_call i F hr hk ha hp hg hd he hpl).imp hP
end
end J

namespace J
open PySem L2 PyProof.Rows
section
variable {X : Cx}
/-- two readable lists end to end -/
def rCatW (K : PySem.W.Frag) : R2 := fun x y H Q => ∃ l b xs zs, x = .ref l ∧ y = .ref b ∧ SqL K H l xs ∧ SqL K H b zs ∧ xs.length + zs.length ≤ sizeLine ∧ ∀ p, H p = none → Q (.ref p) (upd H p (.lst (xs ++ zs)))
theorem op_catW : OpR X (binaryOp .Add) (rCatW X.K) := by
  intro pins s σ H x y v u Q I rx ry h
  obtain ⟨l, b, xs, zs, rfl, rfl, hH, hB, hz, q⟩ := h
  cases rx
  cases ry
  obtain ⟨its, r, p1, _⟩ := I.list hH
  obtain ⟨its2, r2, p2, _⟩ := I.list hB
  have e1 := r.length
  have e2 := r2.length
  obtain ⟨⟨c1, d1, da1, sl1⟩, n1, g1, h1, _, k1⟩ := p1
  obtain ⟨⟨c2, d2, da2, sl2⟩, n2, g2, h2, _, k2⟩ := p2
  dsimp only at h1 k1 h2 k2
  subst h1 k1 h2 k2
  have hsz : its.toArray.size + its2.toArray.size ≤ sizeLine := by
    rw [List.size_toArray, List.size_toArray]
    omega
  have ea : its.toArray ++ its2.toArray = (its ++ its2).toArray := by simp
  refine concat_meets ⟨_, g1, rfl⟩ ⟨_, g2, rfl⟩ noFill_list_add seq_list_add PySem.F.slot_list_add PySem.F.entry_list_add (PySem.F.args_list_add_2 _ _)
    (list_addW l b its.toArray its2.toArray n1 n2 d1 d2 sl1 sl2 hsz) ⟨g1, g2, ?_⟩
  rw [ea]
  refine ⟨.ref s.heap.objs.size, _, I.lnew (t' := s.toks) (r.append r2) ?_, rfl, q _ I.fresh⟩
  rw [List.length_append]
  exact hz
end
section
variable {X : Cx} {σ : L2.St} {G : Hp} {cs : Cells} {a b : Expr} {pos : Pos} {α : Type} {r : α → Hp → V → Prop} {xs ys : List α}
theorem n_cat [∀ x, Mono (r x)] (ha : D X a σ G cs (rdL X.K cs r xs)) (hb : D X b σ G cs (rdL X.K cs r ys)) (hl : xs.length + ys.length ≤ sizeLine) : N X (.BinOp a .Add b pos) σ G cs r (xs ++ ys) := fun G1 H s d Q q =>
  uE (pe_op op_catW (sE X a) (sE X b)) (ha G1 H s d _ fun G2 H2 x s2 d2 hx => hb G2 H2 (s.trans s2) d2 _ fun G3 H3 y s3 d3 hy => by
    obtain ⟨l, vs, e, h1, h2⟩ := (Mono.mono s3 hx).sq d3
    obtain ⟨l', vs', e', h1', h2'⟩ := hy.sq d3
    exact ⟨l, l', vs, vs', e, e', h1, h1', by rw [← h2.length, ← h2'.length]; exact hl, fun p hp => q G3 _ p _ (s2.trans s3) (d3.newCell hp _) (Rs.append h2' h2)⟩)
end

/-! ### == of data -/
class EqR {α : Type} (K : PySem.W.Frag) (r : α → Hp → V → Prop) where
  toD : α → PyData
  ok : α → Prop
  dep : Nat
  dp : ∀ {x G H v}, r x G v → Same G H → Dp K H v (toD x)
  lay : ∀ {x}, ok x → (toD x).canLay0 = true
  deep : ∀ x, (toD x).depth ≤ dep
  eqv : ∀ x y, PyData.eqv (toD x) (toD y) = true ↔ x = y
instance (K : PySem.W.Frag) : EqR K rI where
  toD := .int
  ok _ := True
  dep := 1
  dp h _ := by cases h; exact .int _
  lay _ := rfl
  deep x := by unfold PyData.depth; omega
  eqv x y := by
    unfold PyData.eqv
    exact beq_iff_eq
instance (K : PySem.W.Frag) : EqR K rB where
  toD := .bool
  ok _ := True
  dep := 1
  dp h _ := by cases h; exact .bl _
  lay _ := rfl
  deep x := by unfold PyData.depth; omega
  eqv x y := by
    unfold PyData.eqv
    exact beq_iff_eq
instance (K : PySem.W.Frag) : EqR K rS where
  toD l := .str (SX.S l)
  ok l := ∀ c ∈ l, c < 1114112
  dep := 1
  dp h _ := by cases h; exact .str _
  lay {x} h := by
    unfold PyData.canLay0 PySem.PyData.strOk
    show (SX.S x).cps.all _ = true
    rw [← Array.all_toList]
    exact List.all_eq_true.mpr fun c hc => decide_eq_true (h c hc)
  deep x := by unfold PyData.depth; omega
  eqv x y := by
    unfold PyData.eqv
    rw [SX.S_beq]
    exact beq_iff_eq
theorem dpAll {K : PySem.W.Frag} {α : Type} {r : α → Hp → V → Prop} [q : EqR K r] {G H : Hp} (s : Same G H) : ∀ {xs : List α} {vs : List V}, Rs r G xs vs → DpAll K H vs (xs.map q.toD)
  | _, _, .nil => .nil
  | _, _, .cons h t => .cons (q.dp h s) (dpAll s t)
theorem layAll {K : PySem.W.Frag} {α : Type} {r : α → Hp → V → Prop} [q : EqR K r] : ∀ {xs : List α}, (∀ x ∈ xs, q.ok x) → PyData.canLayAll0 (xs.map q.toD) = true
  | [], _ => by rw [List.map_nil]; unfold PyData.canLayAll0; rfl
  | x :: xs, h => by
    rw [List.map_cons]
    unfold PyData.canLayAll0
    rw [Bool.and_eq_true]
    exact ⟨q.lay (h x List.mem_cons_self), layAll fun y hy => h y (List.mem_cons_of_mem _ hy)⟩
theorem deepAll {K : PySem.W.Frag} {α : Type} {r : α → Hp → V → Prop} [q : EqR K r] : ∀ (xs : List α), PyData.depthAll (xs.map q.toD) ≤ q.dep
  | [] => by rw [List.map_nil]; unfold PyData.depthAll; omega
  | x :: xs => by
    rw [List.map_cons]
    unfold PyData.depthAll
    exact Nat.max_le.mpr ⟨q.deep x, deepAll xs⟩
theorem eqvAll {K : PySem.W.Frag} {α : Type} {r : α → Hp → V → Prop} [q : EqR K r] : ∀ (xs ys : List α), PyData.eqvAll (xs.map q.toD) (ys.map q.toD) = true ↔ xs = ys
  | [], [] => by rw [List.map_nil]; unfold PyData.eqvAll; simp
  | [], y :: ys => by rw [List.map_nil, List.map_cons]; unfold PyData.eqvAll; simp
  | x :: xs, [] => by rw [List.map_nil, List.map_cons]; unfold PyData.eqvAll; simp
  | x :: xs, y :: ys => by
    rw [List.map_cons, List.map_cons]
    unfold PyData.eqvAll
    rw [Bool.and_eq_true, q.eqv, eqvAll xs ys]
    simp
instance (K : PySem.W.Frag) {α : Type} (r : α → Hp → V → Prop) [q : EqR K r] : EqR K (rL K r) where
  toD xs := .list (xs.map q.toD)
  ok xs := ∀ x ∈ xs, q.ok x
  dep := q.dep + 1
  dp h s := by
    obtain ⟨a, vs, rfl, h1, h2⟩ := h
    exact .lst (s.seq h1) (dpAll s h2)
  lay h := by
    unfold PyData.canLay0
    exact layAll h
  deep xs := by
    unfold PyData.depth
    have := deepAll (K := K) (r := r) xs
    omega
  eqv xs ys := by
    unfold PyData.eqv
    rw [eqvAll]
/-- the places of a tuple as data -/
class EqT {α : Type} (K : PySem.W.Frag) (r : α → Hp → List V → Prop) where
  toD : α → List PyData
  ok : α → Prop
  dep : Nat
  dp : ∀ {x G H vs}, r x G vs → Same G H → DpAll K H vs (toD x)
  lay : ∀ {x}, ok x → PyData.canLayAll0 (toD x) = true
  deep : ∀ x, PyData.depthAll (toD x) ≤ dep
  eqv : ∀ x y, PyData.eqvAll (toD x) (toD y) = true ↔ x = y
instance (K : PySem.W.Frag) {α : Type} (r : α → Hp → V → Prop) [q : EqR K r] : EqT K (c0 r) where
  toD x := [q.toD x]
  ok x := q.ok x
  dep := q.dep
  dp h s := by
    obtain ⟨v, rfl, h1⟩ := h
    exact .cons (q.dp h1 s) .nil
  lay h := by
    unfold PyData.canLayAll0
    rw [q.lay h]
    rfl
  deep x := by
    unfold PyData.depthAll
    exact Nat.max_le.mpr ⟨q.deep x, by unfold PyData.depthAll; omega⟩
  eqv x y := by
    unfold PyData.eqvAll
    rw [Bool.and_eq_true, q.eqv]
    exact ⟨fun h => h.1, fun h => ⟨h, by unfold PyData.eqvAll; rfl⟩⟩
instance (K : PySem.W.Frag) {α β : Type} (r : α → Hp → V → Prop) (r' : β → Hp → List V → Prop) [q : EqR K r] [q' : EqT K r'] : EqT K (cc r r') where
  toD x := q.toD x.1 :: q'.toD x.2
  ok x := q.ok x.1 ∧ q'.ok x.2
  dep := max q.dep q'.dep
  dp h s := by
    obtain ⟨v, ws, rfl, h1, h2⟩ := h
    exact .cons (q.dp h1 s) (q'.dp h2 s)
  lay h := by
    unfold PyData.canLayAll0
    rw [q.lay h.1, q'.lay h.2]
    rfl
  deep x := by
    unfold PyData.depthAll
    have h1 := q.deep x.1
    have h2 := q'.deep x.2
    exact Nat.max_le.mpr ⟨Nat.le_trans h1 (Nat.le_max_left _ _), Nat.le_trans h2 (Nat.le_max_right _ _)⟩
  eqv x y := by
    unfold PyData.eqvAll
    rw [Bool.and_eq_true, q.eqv, q'.eqv]
    exact ⟨fun h => Prod.ext h.1 h.2, fun h => by rw [h]; exact ⟨rfl, rfl⟩⟩
instance (K : PySem.W.Frag) {α : Type} (r : α → Hp → List V → Prop) [q : EqT K r] : EqR K (rT K r) where
  toD x := .tuple (q.toD x)
  ok x := q.ok x
  dep := q.dep + 1
  dp h s := by
    obtain ⟨a, vs, rfl, h1, h2⟩ := h
    exact .tup (seqT s h1) (q.dp h2 s)
  lay h := by
    unfold PyData.canLay0
    exact q.lay h
  deep x := by
    unfold PyData.depth
    have := q.deep x
    omega
  eqv x y := by
    unfold PyData.eqv
    rw [q.eqv]
section
variable {X : Cx} {σ : L2.St} {G : Hp} {cs : Cells} {a b : Expr} {pos : Pos} {α : Type} {r : α → Hp → V → Prop} {x y : α}
theorem shp {K : PySem.W.Frag} [q : EqR K r] (h : q.ok x) (hd : q.dep ≤ 64) : SeqAt.shaped (q.toD x) = true := by
  unfold SeqAt.shaped
  rw [q.lay h, decide_eq_true (Nat.le_trans (q.deep x) hd)]
  rfl
theorem eqv_dec {K : PySem.W.Frag} [q : EqR K r] [DecidableEq α] : PyData.eqv (q.toD x) (q.toD y) = decide (x = y) := by
  by_cases h : x = y
  · rw [decide_eq_true h, (q.eqv x y).mpr h]
  · rw [decide_eq_false h]
    cases e : PyData.eqv (q.toD x) (q.toD y) with
    | false => rfl
    | true => exact absurd ((q.eqv x y).mp e) h
variable [DecidableEq α] [∀ z, Mono (r z)] {k : Nat}
theorem d_eqD {K : PySem.W.Frag} [q : EqR K r] (hr : Room k X.A) (ha : D X a σ G cs (r x)) (hb : D X b σ G cs (r y)) (hx : q.ok x) (hy : q.ok y) (hd : q.dep ≤ 64 := by exact Nat.le_of_ble_eq_true rfl) (hK : X.K = K := by rfl) : D X (.Compare a [.Eq] [b] pos) σ G cs (rB (decide (x = y))) := by
  subst hK
  exact d_cmp (op_eqD (Nat.lt_of_le_of_lt (by omega) hr.un)) (nomark _) ha hb fun G1 H u v s d hu hv Q qq => ⟨_, _, q.dp hu d.same, q.dp hv d.same, shp hx hd, shp hy hd, by rw [eqv_dec]; exact qq⟩
theorem t_eqD {K : PySem.W.Frag} [q : EqR K r] (hr : Room k X.A) (ha : D X a σ G cs (r x)) (hb : D X b σ G cs (r y)) (hx : q.ok x) (hy : q.ok y) (hd : q.dep ≤ 64 := by exact Nat.le_of_ble_eq_true rfl) (hK : X.K = K := by rfl) : T X (.Compare a [.Eq] [b] pos) σ G cs (decide (x = y)) := by
  subst hK
  exact t_cmp (op_eqD (Nat.lt_of_le_of_lt (by omega) hr.un)) (nomark _) ha hb fun G1 H u v s d hu hv Q qq => ⟨_, _, q.dp hu d.same, q.dp hv d.same, shp hx hd, shp hy hd, by rw [eqv_dec]; exact qq⟩
theorem d_neD {K : PySem.W.Frag} [q : EqR K r] (hr : Room k X.A) (ha : D X a σ G cs (r x)) (hb : D X b σ G cs (r y)) (hx : q.ok x) (hy : q.ok y) (hd : q.dep ≤ 64 := by exact Nat.le_of_ble_eq_true rfl) (hK : X.K = K := by rfl) : D X (.Compare a [.NotEq] [b] pos) σ G cs (rB (!decide (x = y))) := by
  subst hK
  exact d_cmp (op_neD (Nat.lt_of_le_of_lt (by omega) hr.un)) (nomark _) ha hb fun G1 H u v s d hu hv Q qq => ⟨_, _, q.dp hu d.same, q.dp hv d.same, shp hx hd, shp hy hd, by rw [eqv_dec]; exact qq⟩
theorem t_neD {K : PySem.W.Frag} [q : EqR K r] (hr : Room k X.A) (ha : D X a σ G cs (r x)) (hb : D X b σ G cs (r y)) (hx : q.ok x) (hy : q.ok y) (hd : q.dep ≤ 64 := by exact Nat.le_of_ble_eq_true rfl) (hK : X.K = K := by rfl) : T X (.Compare a [.NotEq] [b] pos) σ G cs (!decide (x = y)) := by
  subst hK
  exact t_cmp (op_neD (Nat.lt_of_le_of_lt (by omega) hr.un)) (nomark _) ha hb fun G1 H u v s d hu hv Q qq => ⟨_, _, q.dp hu d.same, q.dp hv d.same, shp hx hd, shp hy hd, by rw [eqv_dec]; exact qq⟩
end
/-! ### places, by the whole numbers that name them -/
def ixg {α : Type} [Inhabited α] (xs : List α) (i : Int) : α := (atI xs i).getD default
theorem atI_ixg {α : Type} [Inhabited α] {xs : List α} {i : Int} (h : -(xs.length : Int) ≤ i ∧ i < (xs.length : Int)) : atI xs i = some (ixg xs i) := by
  unfold ixg
  have : ∃ x, atI xs i = some x := by
    by_cases h0 : 0 ≤ i
    · exact ⟨_, atI_lt h0 h.2⟩
    · have e : i = -((-i).toNat : Int) := by omega
      rw [e]
      exact ⟨_, atI_neg (by omega) (by omega)⟩
  obtain ⟨x, e⟩ := this
  rw [e]
  rfl
theorem ixg_nat {α : Type} [Inhabited α] {xs : List α} {i : Int} (h0 : 0 ≤ i) (h1 : i < (xs.length : Int)) : ixg xs i = xs.getD i.toNat default := by
  unfold ixg
  rw [atI_lt h0 h1]
  rfl
theorem ixg_mem {α : Type} [Inhabited α] {xs : List α} {i : Int} (h0 : 0 ≤ i) (h1 : i < (xs.length : Int)) : ixg xs i ∈ xs := by
  rw [ixg_nat h0 h1]
  have h : i.toNat < xs.length := by omega
  have e : xs.getD i.toNat default = xs[i.toNat] := by simp [h]
  rw [e]
  exact List.getElem_mem h
end J

namespace J
open PySem L2 PyProof.Rows
section
variable {ε S L R : Type} {X : Cx} {W : ε → L2.St → Hp → Prop} {σ : L2.St} {G : Hp} {cs : Cells} {Φ : Po ε S L R} {m : Out ε S L R} {sts rest : List Stmt} {e tg : Expr} {P : Hp → V → Prop} {pos p : Pos}
theorem letV_intro {α : Type} {y : α} {f : α → Out ε S L R} (h : ∀ z, z = y → B X W sts σ G cs Φ (f z)) : B X W sts σ G cs Φ (letV y f) := h y rfl
theorem b_augAddV (i : Nat) {x : Str} {p' : Pos} {z y : Int} {f : Int → Out ε S L R} (hN : X.N.Nodup) (hz : σ[i]? = some (some (.int z))) (he : D X e σ G cs (rI y)) (k : ∀ u, u = z + y → ∀ G1, Same G G1 → B X W rest (σ.set i (some (.int u))) G1 cs Φ (f u)) (hi : X.N[i]? = some x := by rfl) (hx : Loc X.env.scope x := by first | exact Or.inl rfl | exact Or.inr rfl)
    (hf : X.fn x = true ∨ X.env.scope.names.lookup x = some .local := by first | exact .inl rfl | exact .inr rfl) : B X W (.AugAssign (.Name x p') .Add e pos :: rest) σ G cs Φ (letV (z + y) f) :=
  b_augAdd i hN hz he (fun G1 s1 => k _ rfl G1 s1) hi hx hf
theorem b_augSubV (i : Nat) {x : Str} {p' : Pos} {z y : Int} {f : Int → Out ε S L R} (hN : X.N.Nodup) (hz : σ[i]? = some (some (.int z))) (he : D X e σ G cs (rI y)) (k : ∀ u, u = z - y → ∀ G1, Same G G1 → B X W rest (σ.set i (some (.int u))) G1 cs Φ (f u)) (hi : X.N[i]? = some x := by rfl) (hx : Loc X.env.scope x := by first | exact Or.inl rfl | exact Or.inr rfl)
    (hf : X.fn x = true ∨ X.env.scope.names.lookup x = some .local := by first | exact .inl rfl | exact .inr rfl) : B X W (.AugAssign (.Name x p') .Sub e pos :: rest) σ G cs Φ (letV (z - y) f) :=
  b_augSub i hN hz he (fun G1 s1 => k _ rfl G1 s1) hi hx hf
theorem b_asgV {α : Type} {r : α → Hp → V → Prop} {y : α} {f : α → Out ε S L R} {Sx : α → Hp → L2.St → L2.St → Prop} (he : D X e σ G cs (r y)) (ht : Tg X tg r Sx) (k : ∀ z, z = y → ∀ σ' G1, Same G G1 → Sx z G1 σ σ' → B X W rest σ' G1 cs Φ (f z))
    (hs : swapsWithSole [tg] e pos.line X.env = pure false := by rfl) (hw : swappedStores [tg] e X.env = pure none := by rfl) (h1 : (assignEach [tg] X.env).map (·.2) = [assign tg X.env] := by rfl) : B X W (.Assign [tg] e pos :: rest) σ G cs Φ (letV y f) :=
  b_asg he ht (fun σ' G1 s1 h => k y rfl σ' G1 s1 h) hs hw h1
end
theorem wipe1 {σ : L2.St} {i : Nat} {x : Option V} : wipe ((wipe σ [i]).set i x) [i] = wipe σ [i] := by
  show (((σ.set i none).set i x).set i none) = σ.set i none
  rw [List.set_set, List.set_set]
theorem divS {i j : Int} (h : 0 < j) (hb : j < 2 ^ 62) : CDivW i j := wide_div (b := 62) h (by omega) (by decide) (by decide)
theorem pk_true {X : Cx} {kn : Option Str} {jj : Nat} {p2 p3 : Pos} : PK X [⟨kn, .Constant (.bool true) jj p2, p3⟩] (fun _ H Q => Q [.bl true] H) := pk_cons pe_bl pk_nil
end J
namespace J
theorem enum_mem {α : Type} {xs : List α} {p : Int × α} (h : p ∈ enumL xs) : p.2 ∈ xs := by
  obtain ⟨i, hi⟩ := List.getElem?_of_mem h
  exact List.mem_of_getElem? (enumL_getE hi).2
theorem enum_bd {α : Type} {xs : List α} {p : Int × α} (h : p ∈ enumL xs) : 0 ≤ p.1 ∧ p.1 < (xs.length : Int) := by
  obtain ⟨i, hi⟩ := List.getElem?_of_mem h
  obtain ⟨e1, e2⟩ := enumL_getE hi
  have := (List.getElem?_eq_some_iff.mp e2).1
  omega
end J
namespace J
theorem ix_mod {a : Int} {n : Nat} (h : 0 < n) : -(n : Int) ≤ a % (n : Int) ∧ a % (n : Int) < (n : Int) := by
  have h1 := Int.emod_nonneg a (show (n : Int) ≠ 0 by omega)
  have h2 := Int.emod_lt_of_pos a (show (0 : Int) < n by omega)
  omega
/-- a loop that always goes on is a fold -/
theorem forL_fold {ε S L R α : Type} {f : S → α → Out ε S S R} {g : S → α → S} : ∀ {xs : List α} {s : S}, (∀ s x, x ∈ xs → f s x = .nx (g s x)) → (forL f s xs : Out ε S L R) = .nx (xs.foldl g s)
  | [], _, _ => rfl
  | x :: xs, s, h => by
    rw [forL_cons, h s x List.mem_cons_self]
    exact forL_fold fun s y hy => h s y (List.mem_cons_of_mem _ hy)
/-- an invariant of a loop that always goes on -/
theorem forL_inv {ε S L R α : Type} {f : S → α → Out ε S S R} (P : Nat → S → Prop) : ∀ {xs : List α} {s : S} {n : Nat}, P n s → (∀ n s x, x ∈ xs → P n s → ∃ s', f s x = .nx s' ∧ P (n + 1) s') → ∃ s', (forL f s xs : Out ε S L R) = .nx s' ∧ P (n + xs.length) s'
  | [], s, n, h, _ => ⟨s, rfl, h⟩
  | x :: xs, s, n, h, st => by
    obtain ⟨s1, e1, h1⟩ := st n s x List.mem_cons_self h
    obtain ⟨s2, e2, h2⟩ := forL_inv (L := L) P (xs := xs) h1 fun n s y hy => st n s y (List.mem_cons_of_mem _ hy)
    refine ⟨s2, ?_, ?_⟩
    · rw [forL_cons, e1]
      exact e2
    · rw [List.length_cons, show n + (xs.length + 1) = n + 1 + xs.length by omega]
      exact h2
/-- .. by the item -/
theorem forL_all {ε S L R α : Type} {f : S → α → Out ε S S R} (P : S → Prop) {xs : List α} {s : S} (h : P s) (st : ∀ s x, x ∈ xs → P s → ∃ s', f s x = .nx s' ∧ P s') : ∃ s', (forL f s xs : Out ε S L R) = .nx s' ∧ P s' :=
  forL_inv (fun _ => P) (n := 0) h fun _ s x hx hp => st s x hx hp
end J
namespace J
theorem letV_elim {α β : Type} {y : α} {f : α → β} {m : β} (h : ∀ z, z = y → f z = m) : letV y f = m := h y rfl
theorem ifB {α : Type} {c : Bool} {a b m : α} (hc : c = false) (h : b = m) : (if c = true then a else b) = m := by
  subst hc
  rw [if_neg Bool.false_ne_true]
  exact h
theorem ifT {α : Type} {c : Bool} {a b m : α} (hc : c = true) (h : a = m) : (if c = true then a else b) = m := by
  subst hc
  rw [if_pos rfl]
  exact h
theorem bind_elim {ε S S' L R : Type} {m : Out ε S L R} {k : S → Out ε S' L R} {o : Out ε S' L R} {s : S} (e : m = .nx s) (h : k s = o) : m.bind k = o := by
  rw [e]
  exact h
/-- a loop all of whose turns go on with nothing -/
theorem forL_unit {ε L R α : Type} {f : Unit → α → Out ε Unit Unit R} {xs : List α} (h : ∀ x, x ∈ xs → f () x = .nx ()) : (forL f () xs : Out ε Unit L R) = .nx () := by
  obtain ⟨_, e, _⟩ := forL_all (L := L) (fun _ : Unit => True) (f := f) (xs := xs) (s := ()) trivial fun _ x hx _ => ⟨(), h x hx, trivial⟩
  exact e
end J

namespace J
open PySem L2 PyProof.Rows

/-! ### outcomes of what may raise -/
def callE {ε S L R O : Type} (m : Except ε O) (k : O → Out ε S L R) : Out ε S L R := match m with
  | .ok o => k o
  | .error e => .er e
@[simp] theorem callE_ok {ε S L R O : Type} (o : O) (k : O → Out ε S L R) : callE (.ok o) k = k o := rfl
@[simp] theorem callE_er {ε S L R O : Type} (e : ε) (k : O → Out ε S L R) : callE (.error e) k = .er e := rfl
def tryO {ε' ε S L R : Type} (m : Out ε' S L R) (h : ε' → Out ε S L R) : Out ε S L R := match m with
  | .nx s => .nx s
  | .bk l => .bk l
  | .ct l => .ct l
  | .rt r => .rt r
  | .er e => h e
@[simp] theorem tryO_nx {ε' ε S L R : Type} (s : S) (h : ε' → Out ε S L R) : tryO (.nx s : Out ε' S L R) h = .nx s := rfl
@[simp] theorem tryO_rt {ε' ε S L R : Type} (r : R) (h : ε' → Out ε S L R) : tryO (.rt r : Out ε' S L R) h = .rt r := rfl
@[simp] theorem tryO_er {ε' ε S L R : Type} (e : ε') (h : ε' → Out ε S L R) : tryO (.er e : Out ε' S L R) h = h e := rfl
/-- what it gives, if it gives anything -/
def okV {ε O : Type} [Inhabited O] (m : Except ε O) : O := match m with
  | .ok o => o
  | .error _ => default
@[simp] theorem okV_ok {ε O : Type} [Inhabited O] (o : O) : okV (.ok o : Except ε O) = o := rfl

/-! ### the errors of a law: n classes, each right under the one at B -/
structure ErrOne (K : PySem.W.Frag) (mg : Str → Option Value) (x : Str) (C B : Addr) : Prop where
  ex : PySem.W.excIn K C [.type "ValueError", .type "Exception", .type "BaseException", .type "object"] "ValueError.__new__" = true
  mg : mg x = some (.ref C)
  kp : PySem.W.keepIn K (.ref C) = true
  be : PySem.W.subIn K (.ref C) (.type "BaseException") = some true
  ty : PySem.W.typeIn K (.ref C) = some (.type "type")
  cl : ExcC K C
  ca : PySem.W.exmOne K (.ref C) (.ref B) = some true
structure Errs (K : PySem.W.Frag) (mg : Str → Option Value) {n : Nat} (nm : Fin n → Str) (adr : Fin n → Addr) (B : Addr) : Prop where
  one : ∀ i, ErrOne K mg (nm i) (adr i) B
  is : ∀ i j, PySem.W.kitOne K (.ref (adr i)) (.ref (adr j)) = some (decide (i = j))
  mB : mg "BankError" = some (.ref B)
theorem kit_ref {K : PySem.W.Frag} {C D : Addr} {b : Bool} (hd : PySem.W.hasDictIn K D = true) (ht : PySem.W.typeIn K (.ref D) = some (.type "type")) (hs : PySem.W.subIn K (.ref C) (.ref D) = some b) (hc : PySem.W.subIn K (.ref D) (.ref D) = some true) : PySem.W.kitOne K (.ref C) (.ref D) = some b := by
  obtain ⟨cd, hcd, _⟩ := PySem.W.any_some hd
  unfold PySem.W.kitOne
  by_cases h : (Value.ref C == Value.ref D) = true
  · rw [if_pos h]
    have e : C = D := Value.ref.inj (beq_iff_eq.mp h)
    rw [e, hc] at hs
    exact hs
  · rw [if_neg h]
    show (if ((PySem.W.clsIn K D).isSome && PySem.W.typeIn K (.ref D) == some (.type "type")) = true then PySem.W.subIn K (.ref C) (.ref D) else none) = some b
    rw [hcd, ht, if_pos (show ((some cd).isSome && (some (Value.type "type") == some (Value.type "type"))) = true by rw [Option.isSome_some, Bool.true_and]; exact beq_self_eq_true _), hs]
/-- how an error lies in the wishes of the layer -/
abbrev wE2 {n : Nat} (adr : Fin n → Addr) (Wx : WX) : Fin n → L2.St → Hp → Prop := fun e σ H => Wx (.ref (adr e)) none σ H
abbrev cE {n : Nat} (adr : Fin n → Addr) : Fin n → Value := fun e => .ref (adr e)

section
variable {n : Nat} {nm : Fin n → Str} {adr : Fin n → Addr} {B0 : Addr}
variable {S L R : Type} {X : Cx} {Wx : WX} {σ : L2.St} {G : Hp} {cs : Cells} {st : Stmt} {rest body : List Stmt} {e : Expr} {es : List Expr} {pos p q : Pos}
/-- raise X('..') -/
theorem b_raise {Φ : Po (Fin n) S L R} {x m : Str} {j : Nat} {p2 p3 : Pos} (i : Fin n) (Er : Errs X.K X.mg nm adr B0) (hc : X.calm = true) (tk : Takes X Wx) (hx : nm i = x) (k : Φ.er i σ G cs) (hg : Gl X x := by rfl) (hd : (x == ("__debug__" : Str)) = false := by decide) :
    B X (wE2 adr Wx) (.Raise (some (.Call (.Name x p) [.Constant (.str m) j p2] [] p3)) none pos :: rest) σ G cs Φ (.er i) := by
  subst hx
  have o := Er.one i
  exact b_cons (ps_raise hc tk (pmk_own F.excBase_ValueError o.ex o.mg o.kp (raises_own o.be o.ty) hg hd)) fun H d E w => w σ G cs H (Same.refl _) d k
/-- a call that may raise, as a value of a statement -/
def DE (X : Cx) (adr : Fin n → Addr) (Wx : WX) (e : Expr) (σ : L2.St) (G : Hp) (cs : Cells) {O : Type} (P : O → Hp → V → Prop) (m : Except (Fin n) O) : Prop :=
  ∀ G1 H, Same G G1 → Desc G1 cs H → ∀ Q : VK, (match m with
    | .ok o => ∀ G2 H2 v, Same G1 G2 → Desc G2 cs H2 → P o G2 v → Q v H2
    | .error k => ∀ G2 H2, Same G1 G2 → Desc G2 cs H2 → Wx (.ref (adr k)) none σ H2) → wE X e σ H Q
theorem de_call {I O : Type} {pre : I → Hp → List V → Prop} {r : I → O → Hp → V → Prop} {m : I → Except (Fin n) O} {k j a : Nat} {x : Str} {Ps : Hp → List V → Prop} (i : I) (F : Fn0 X.prog X.w X.K X.mg X.base (L2.CX X.prog X.w) k x a (SpE (cE adr) pre r m)) (tk : Takes X Wx) (hr : Room j X.A) (hk : k ≤ j)
    (ha : A X (e :: es) σ G cs Ps) (hp : ∀ G1 vs, Same G G1 → Ps G1 vs → pre i G1 vs) (hg : Gl X x := by rfl) (hd : (x == ("__debug__" : Str)) = false := by decide)
    (he : starEach (e :: es) X.env = (false, eval e X.env) :: starEach es X.env := by exact star_plain rfl) (hpl : (backTo pos (starEach es X.env)).any (·.1) = false := by rfl) : DE X adr Wx (.Call (.Name x p) (e :: es) [] pos) σ G cs (r i) (m i) := by
  obtain ⟨f, fd, ps, F, hm, kp, b, _⟩ := F.ex
  refine fun G1 H s d Q q => uE (pe_callS F (hr.mono hk) hg hm kp b (fun σ => passAt tk σ) (sA X _) (hdb := hd) (he := he) (hpl := hpl)) ?_
  refine ha G1 H s d _ fun G2 H2 vs s2 d2 hvs => ⟨i, G2, cs, d2, hp G2 vs (s.trans s2) hvs, ?_⟩
  cases hm : m i with
  | ok o =>
    rw [hm] at q
    exact fun v G3 H3 s3 d3 hv => q G3 H3 v (s2.trans s3) d3 hv
  | error k =>
    rw [hm] at q
    exact fun G3 H3 s3 d3 => q G3 H3 (s2.trans s3) d3
theorem DE.imp {O : Type} {P P' : O → Hp → V → Prop} {m : Except (Fin n) O} (h : DE X adr Wx e σ G cs P m) (i : ∀ o G v, P o G v → P' o G v) : DE X adr Wx e σ G cs P' m := fun G1 H s d Q q => h G1 H s d Q (by
  cases m with
  | ok o => exact fun G2 H2 v s2 d2 hv => q G2 H2 v s2 d2 (i _ _ _ hv)
  | error k => exact q)
/-- a call that may raise, but does not here -/
theorem d_callS {I O : Type} {pre : I → Hp → List V → Prop} {r : I → O → Hp → V → Prop} {m : I → Except (Fin n) O} {P : Hp → V → Prop} {k j a : Nat} {x : Str} {Ps : Hp → List V → Prop} {o : O} (i : I) (F : Fn0 X.prog X.w X.K X.mg X.base (L2.CX X.prog X.w) k x a (SpE (cE adr) pre r m)) (ho : m i = .ok o) (hr : Room j X.A) (hk : k ≤ j)
    (ha : A X (e :: es) σ G cs Ps) (hp : ∀ G1 vs, Same G G1 → Ps G1 vs → pre i G1 vs) (hP : ∀ G v, r i o G v → P G v) (hg : Gl X x := by rfl) (hd : (x == ("__debug__" : Str)) = false := by decide)
    (he : starEach (e :: es) X.env = (false, eval e X.env) :: starEach es X.env := by exact star_plain rfl) (hpl : (backTo pos (starEach es X.env)).any (·.1) = false := by rfl) : D X (.Call (.Name x p) (e :: es) [] pos) σ G cs P := by
  obtain ⟨f, fd, ps, F, hm, kp, b, _⟩ := F.ex
  refine d_by (pe_callS (E := fun _ _ _ _ => False) F (hr.mono hk) hg hm kp b (fun σ pins H s u s' I c => ?_) (sA X _) (hdb := hd) (he := he) (hpl := hpl)) fun G1 H s d Q q => ?_
  · obtain ⟨_, _, _, _, _, _, _, _, _, _, _, _, z⟩ := c
    exact z.elim
  · refine ha G1 H s d _ fun G2 H2 vs s2 d2 hvs => ⟨i, G2, cs, d2, hp G2 vs (s.trans s2) hvs, ?_⟩
    rw [ho]
    exact fun v G3 H3 s3 d3 hv => q G3 H3 v (s2.trans s3) d3 (hP _ _ hv)
section
variable {Φ : Po (Fin n) S L R} {O : Type} {P : O → Hp → V → Prop} {m : Except (Fin n) O}
/-- x = f(..) -/
theorem b_setE (i : Nat) {x : Str} {g : O → Out (Fin n) S L R} (hN : X.N.Nodup) (he : DE X adr Wx e σ G cs P m) (kr : ∀ k, m = .error k → ∀ G1, Same G G1 → Φ.er k σ G1 cs)
    (k : ∀ o, m = .ok o → ∀ v G1, Same G G1 → P o G1 v → B X (wE2 adr Wx) rest (σ.set i (some v)) G1 cs Φ (g o)) (hi : X.N[i]? = some x := by rfl) (hx : Loc X.env.scope x := by first | exact Or.inl rfl | exact Or.inr rfl)
    (hs : swapsWith e (some (.Name x p)) pos.line X.env = pure false := by rfl) (hf : X.fn x = true ∨ X.env.scope.names.lookup x = some .local := by first | exact .inl rfl | exact .inr rfl) : B X (wE2 adr Wx) (.Assign [.Name x p] e pos :: rest) σ G cs Φ (callE m g) :=
  b_cons (ps_set hN hi hx (sE X e) hs hf) fun H d E w => he G H (Same.refl _) d _ (by
    cases hm : m with
    | ok o =>
      rw [hm] at w
      exact fun G2 H2 v s2 d2 hv => k o hm v G2 s2 hv H2 d2 E (Wish.up (m := g o) w s2)
    | error c =>
      rw [hm] at w
      exact fun G2 H2 s2 d2 => w σ G2 cs H2 s2 d2 (kr c hm G2 s2))
/-- return f(..) -/
theorem b_retE {g : O → R} (he : DE X adr Wx e σ G cs P m) (kr : ∀ k, m = .error k → ∀ G1, Same G G1 → Φ.er k σ G1 cs) (k : ∀ o, m = .ok o → ∀ v G1, Same G G1 → P o G1 v → Φ.rt (g o) G1 cs v) :
    B X (wE2 adr Wx) (.Return (some e) pos :: rest) σ G cs Φ (callE m fun o => .rt (g o)) :=
  b_cons (ps_ret (sE X e)) fun H d E w => he G H (Same.refl _) d _ (by
    cases hm : m with
    | ok o =>
      rw [hm] at w
      exact fun G2 H2 v s2 d2 hv => w v G2 cs H2 s2 d2 (k o hm v G2 s2 hv)
    | error c =>
      rw [hm] at w
      exact fun G2 H2 s2 d2 => w σ G2 cs H2 s2 d2 (kr c hm G2 s2))
/-- f(..) alone -/
theorem b_exprE {g : O → Out (Fin n) S L R} (he : DE X adr Wx e σ G cs P m) (kr : ∀ k, m = .error k → ∀ G1, Same G G1 → Φ.er k σ G1 cs)
    (k : ∀ o, m = .ok o → ∀ G1, Same G G1 → B X (wE2 adr Wx) rest σ G1 cs Φ (g o)) (hs : swapsWith e none pos.line X.env = pure false := by rfl) : B X (wE2 adr Wx) (.Expr e pos :: rest) σ G cs Φ (callE m g) :=
  b_cons (ps_expr (sE X e) hs) fun H d E w => he G H (Same.refl _) d _ (by
    cases hm : m with
    | ok o =>
      rw [hm] at w
      exact fun G2 H2 v s2 d2 hv => k o hm G2 s2 H2 d2 E (Wish.up (m := g o) w s2)
    | error c =>
      rw [hm] at w
      exact fun G2 H2 s2 d2 => w σ G2 cs H2 s2 d2 (kr c hm G2 s2))
end
section
variable {ε S' : Type} {Φ : Po ε S L R} {W : ε → L2.St → Hp → Prop} {suite : List Stmt} {b₀ : Stmt} {np : Pos}
/-- try: .. except BankError as x: .. -/
theorem b_tryAs {mb : Out (Fin n) S' L R} {mh : Fin n → Out ε S' L R} {g : S' → Out ε S L R} {x : Str} (i : Nat) (Mid : S' → L2.St → Hp → Cells → Prop) (Mx : Fin n → L2.St → Hp → Cells → Prop) (Er : Errs X.K X.mg nm adr B0) (hN : X.N.Nodup)
    (hb : ∀ (Wx : WX) (pn : List (Addr × Obj)) (xe : Value → Shared → Prop), Takes (X.tr pn xe) Wx → PassesOwn (model X.prog X.w) X.A X.env xe → B (X.tr pn xe) (wE2 adr Wx) body σ G cs { nx := Mid, lp := Φ.lp, rt := Φ.rt, er := Mx } mb)
    (hh : ∀ k, mb = .er k → ∀ (a : Addr) (oe : Obj) (pn : List (Addr × Obj)) (σ1 : L2.St) (G1 : Hp) (cs1 : Cells), Same G G1 → Mx k σ1 G1 cs1 → Zc (.ref (adr k)) none oe → (∃ vs, oe.data = .fields vs) →
      B (X.suite a ((a, oe) :: pn)) W (b₀ :: suite) (σ1.set i (some (.ref a))) G1 cs1 { nx := fun s σ2 => Mid s (σ2.set i none), lp := fun l σ2 => Φ.lp l (σ2.set i none), rt := Φ.rt, er := fun _ _ _ _ => False } (mh k))
    (hr : ∀ s σ2 G2 cs2, Same G G2 → Mid s σ2 G2 cs2 → tryO mb mh = .nx s → B X W rest σ2 G2 cs2 Φ (g s))
    (hs : X.stack = X.env :: X.outer := by rfl) (hf : X.env.frame = some X.env.locals := by rfl) (hi : X.N[i]? = some x := by rfl) (hln : X.env.kindOf x = some .local := by rfl) (hg : Gl X "BankError" := by rfl) :
    B X W (.Try body [.ExceptHandler (some (.Name "BankError" np)) (some x) (b₀ :: suite) q] [] [] pos :: rest) σ G cs Φ ((tryO mb mh).bind g) := by
  refine b_cons (ps_try_as (i := i) (tb := fun Wx D σ H => ∀ pn xe, Takes (X.tr pn xe) Wx → PassesOwn (model X.prog X.w) X.A X.env xe → wSs (X.tr pn xe) body D σ H) (ts := fun a cls d D σ H => ∀ oe pn, Zc cls d oe → (∃ vs, oe.data = .fields vs) → wSs (X.suite a ((a, oe) :: pn)) (b₀ :: suite) D σ H) (Wout := fun _ _ _ _ => False)
    hs hf hN hi hln ⟨hg, by decide, .inl Er.mB⟩ takes0 (fun Wx pn xe tk po => ⟨fun pins s _ _ _ I h => (h pn xe tk po).run pins s I⟩) (fun a oe cls d pn hz hfd => ⟨fun pins s _ _ _ I h => (h oe pn hz hfd).run pins s I⟩)) fun H d E w => ?_
  intro pn xe tk po
  have h1 := hb _ pn xe tk po
  refine h1 H d _ ?_
  cases hm : mb with
  | nx s =>
    rw [hm] at w hr
    exact fun σ2 G2 cs2 H2 s2 d2 p => hr s σ2 G2 cs2 s2 p rfl H2 d2 E (Wish.up (G := G) (show Wish W G Φ E (g s) from w) s2)
  | bk l =>
    rw [hm] at w
    exact fun σ2 G2 cs2 H2 s2 d2 p => w σ2 G2 cs2 H2 s2 d2 p
  | ct l =>
    rw [hm] at w
    exact fun σ2 G2 cs2 H2 s2 d2 p => w σ2 G2 cs2 H2 s2 d2 p
  | rt r =>
    rw [hm] at w
    exact fun v G2 cs2 H2 s2 d2 p => w v G2 cs2 H2 s2 d2 p
  | er k =>
    rw [hm] at w hr
    intro σ2 G2 cs2 H2 s2 d2 p
    refine ⟨true, (Er.one k).ca, fun _ a ha oe pn2 hz hfd => ?_, fun z => nomatch z⟩
    refine hh k hm a oe pn2 σ2 G2 cs2 s2 p hz hfd H2 d2 _ ?_
    have w2 : Wish W G Φ E ((mh k).bind g) := w
    have hr2 : ∀ s σ2 G2 cs2, Same G G2 → Mid s σ2 G2 cs2 → mh k = .nx s → B X W rest σ2 G2 cs2 Φ (g s) := hr
    cases hk : mh k with
    | nx s =>
      rw [hk] at w2
      exact fun σ3 G3 cs3 H3 s3 d3 p3 => hr2 s _ G3 cs3 (s2.trans s3) p3 hk H3 d3 E (Wish.up (G := G) (show Wish W G Φ E (g s) from w2) (s2.trans s3))
    | bk l =>
      rw [hk] at w2
      exact fun σ3 G3 cs3 H3 s3 d3 p3 => w2 _ G3 cs3 H3 (s2.trans s3) d3 p3
    | ct l =>
      rw [hk] at w2
      exact fun σ3 G3 cs3 H3 s3 d3 p3 => w2 _ G3 cs3 H3 (s2.trans s3) d3 p3
    | rt r =>
      rw [hk] at w2
      exact fun v G3 cs3 H3 s3 d3 p3 => w2 v G3 cs3 H3 (s2.trans s3) d3 p3
    | er e => exact fun _ _ _ _ _ _ z => z.elim
/-- try: .. except BankError: .. -/
theorem b_tryOnly {mb : Out (Fin n) S' L R} {mh : Fin n → Out ε S' L R} {g : S' → Out ε S L R} (Mid : S' → L2.St → Hp → Cells → Prop) (Mx : Fin n → L2.St → Hp → Cells → Prop) (Er : Errs X.K X.mg nm adr B0)
    (hb : ∀ (Wx : WX) (pn : List (Addr × Obj)) (xe : Value → Shared → Prop), Takes (X.tr pn xe) Wx → PassesOwn (model X.prog X.w) X.A X.env xe → B (X.tr pn xe) (wE2 adr Wx) body σ G cs { nx := Mid, lp := Φ.lp, rt := Φ.rt, er := Mx } mb)
    (hh : ∀ k, mb = .er k → ∀ (a : Addr) (oe : Obj) (pn : List (Addr × Obj)) (σ1 : L2.St) (G1 : Hp) (cs1 : Cells), Same G G1 → Mx k σ1 G1 cs1 → Zc (.ref (adr k)) none oe → (∃ vs, oe.data = .fields vs) →
      B (X.suite a ((a, oe) :: pn)) W (b₀ :: suite) σ1 G1 cs1 { nx := Mid, lp := Φ.lp, rt := Φ.rt, er := fun _ _ _ _ => False } (mh k))
    (hr : ∀ s σ2 G2 cs2, Same G G2 → Mid s σ2 G2 cs2 → tryO mb mh = .nx s → B X W rest σ2 G2 cs2 Φ (g s))
    (hs : X.stack = X.env :: X.outer := by rfl) (hf : X.env.frame = some X.env.locals := by rfl) (hg : Gl X "BankError" := by rfl) :
    B X W (.Try body [.ExceptHandler (some (.Name "BankError" np)) none (b₀ :: suite) q] [] [] pos :: rest) σ G cs Φ ((tryO mb mh).bind g) := by
  refine b_cons (ps_try_only (tb := fun Wx D σ H => ∀ pn xe, Takes (X.tr pn xe) Wx → PassesOwn (model X.prog X.w) X.A X.env xe → wSs (X.tr pn xe) body D σ H) (ts := fun a cls d D σ H => ∀ oe pn, Zc cls d oe → (∃ vs, oe.data = .fields vs) → wSs (X.suite a ((a, oe) :: pn)) (b₀ :: suite) D σ H) (Wout := fun _ _ _ _ => False)
    hs hf ⟨hg, by decide, .inl Er.mB⟩ takes0 (fun Wx pn xe tk po => ⟨fun pins s _ _ _ I h => (h pn xe tk po).run pins s I⟩) (fun a oe cls d pn hz hfd => ⟨fun pins s _ _ _ I h => (h oe pn hz hfd).run pins s I⟩)) fun H d E w => ?_
  intro pn xe tk po
  have h1 := hb _ pn xe tk po
  refine h1 H d _ ?_
  cases hm : mb with
  | nx s =>
    rw [hm] at w hr
    exact fun σ2 G2 cs2 H2 s2 d2 p => hr s σ2 G2 cs2 s2 p rfl H2 d2 E (Wish.up (G := G) (show Wish W G Φ E (g s) from w) s2)
  | bk l =>
    rw [hm] at w
    exact fun σ2 G2 cs2 H2 s2 d2 p => w σ2 G2 cs2 H2 s2 d2 p
  | ct l =>
    rw [hm] at w
    exact fun σ2 G2 cs2 H2 s2 d2 p => w σ2 G2 cs2 H2 s2 d2 p
  | rt r =>
    rw [hm] at w
    exact fun v G2 cs2 H2 s2 d2 p => w v G2 cs2 H2 s2 d2 p
  | er k =>
    rw [hm] at w hr
    intro σ2 G2 cs2 H2 s2 d2 p
    refine ⟨true, (Er.one k).ca, fun _ a ha oe pn2 hz hfd => ?_, fun z => nomatch z⟩
    refine hh k hm a oe pn2 σ2 G2 cs2 s2 p hz hfd H2 d2 _ ?_
    have w2 : Wish W G Φ E ((mh k).bind g) := w
    have hr2 : ∀ s σ2 G2 cs2, Same G G2 → Mid s σ2 G2 cs2 → mh k = .nx s → B X W rest σ2 G2 cs2 Φ (g s) := hr
    cases hk : mh k with
    | nx s =>
      rw [hk] at w2
      exact fun σ3 G3 cs3 H3 s3 d3 p3 => hr2 s _ G3 cs3 (s2.trans s3) p3 hk H3 d3 E (Wish.up (G := G) (show Wish W G Φ E (g s) from w2) (s2.trans s3))
    | bk l =>
      rw [hk] at w2
      exact fun σ3 G3 cs3 H3 s3 d3 p3 => w2 _ G3 cs3 H3 (s2.trans s3) d3 p3
    | ct l =>
      rw [hk] at w2
      exact fun σ3 G3 cs3 H3 s3 d3 p3 => w2 _ G3 cs3 H3 (s2.trans s3) d3 p3
    | rt r =>
      rw [hk] at w2
      exact fun v G3 cs3 H3 s3 d3 p3 => w2 v G3 cs3 H3 (s2.trans s3) d3 p3
    | er e => exact fun _ _ _ _ _ _ z => z.elim
end
end
end J

namespace J
open PySem PySem.Spec L2 PyProof.Rows
open L2H (RoomH PinOk cxH)

/-! ### defs that are handed the error in hand -/
/-- what a def promises that is called within an except suite: a the error, C its class -/
structure FnX (P : Program) (w : World) (K : PySem.W.Frag) (mg : Str → Option Value) (base : Heap) (k : Nat) (x : Str) (n : Nat) (sp : Addr → Addr → Sp) : Prop where
  ex : ∃ (f : Addr) (fd : FuncData) (ps : List Str), (∀ a C vs H Q E, sp a C vs H Q E → vs.length = ps.length) ∧
    (∀ (A : Around) (outer : List Env) (s : Shared) (H : Hp) (args : Args) (us : List Value) (vs : List V) (Q : VK) (E : XK) (p : Addr × Obj) (C : Addr), RoomH k A → PinOk outer H s p → Zc (.ref C) none p.2 → (∃ u, p.2.data = .fields u) → Env0 P w K mg base A outer s H →
      BindsTo s fd args (ps.zip us) → Vals vs us → sp p.1 C vs H Q E → codeAny (model P w) A (.call (.ref f) args) (CR CX0 outer P w H s Q E) s) ∧
    mg x = some (.ref f) ∧ PySem.W.keepIn K (.ref f) = true ∧ Binds K fd ps [] ∧ ps.length = n
section
variable {P : Program} {w : World} {K : PySem.W.Frag} {mg : Str → Option Value} {base : Heap}
/-- the promise of such a def, that raises nothing: i the error's number -/
def SpK {I O : Type} (adr : I → Addr) (r : O → Hp → V → Prop) (m : I → O) : Addr → Addr → Sp := fun a C vs H Q _ => ∃ (i : I) (G : Hp) (cs : Cells), C = adr i ∧ vs = [.ref a] ∧ Desc G cs H ∧ ∀ v G2 H2, Same G G2 → Desc G2 cs H2 → r (m i) G2 v → Q v H2
theorem fn_mkX {I O : Type} [Inhabited O] {x y : Str} {st : Stmt} {f : Addr} {fd : FuncData} {N : List Str} {k : Nat} {adr : I → Addr} {r : O → Hp → V → Prop} (F : Fun K x x st f fd) (S : FnScope N [y] (defScope st)) (b : Binds K fd [y] []) (hmg : mg x = some (.ref f))
    (body : I → Out Empty Unit Empty O)
    (h : ∀ (cdv : Value) (A : Around) (outer : List Env) (s : Shared) (H : Hp) (E : XK) (p : Addr × Obj) (i : I) (G : Hp) (cs : Cells), RoomH k (A.deeper (envOfC x (defScope st) s.heap.objs.size f cdv)) → Zc (.ref (adr i)) none p.2 → (∃ u, p.2.data = .fields u) →
      B (cxH CX0 P w K mg base N x (defScope st) f cdv A outer s H E p) (fun e _ _ => e.elim) (defBody st) (start N [.ref p.1]) G cs (PoF cs r) (body i)) :
    FnX P w K mg base (k + 1) x 1 (SpK adr r fun i => (body i).val) := by
  obtain ⟨oc, od, kV, doc, pm, an, cdv, ct, osl, rfl, hk, hcode⟩ := F.ex
  refine ⟨f, _, [y], ?_, ?_, hmg, F.kp, b, rfl⟩
  · rintro a C vs H Q E ⟨i, G, cs, _, rfl, _⟩
    rfl
  · rintro A outer s0 H args us vs Q E p C room pin hz hf en hbi rv ⟨i, G, cs, rfl, rfl, d, q⟩
    have kin := en.mod.kin.keeps fun a o z => (en.bs a o z).1
    have nol := en.mod.nolimit.keeps fun a o z => (en.bs a o z).1
    have kinds : ∀ z ∈ [y].zip us, (defScope st).names.lookup z.1 = some .local ∨ ((defScope st).names.lookup z.1 = some .cell ∧ ((cellsFrom (s0.heap.objs.size + 1) (defScope st).names []).lookup z.1).isSome = true) := fun ⟨nm, v⟩ hz =>
      (S.par nm (List.of_mem_zip hz).1).imp id fun t => ⟨t, PySem.W.cellsFrom_some _ _ _ (.inl t)⟩
    refine codeAny_call_function room.depth (kin _ _ hk) rfl S.co S.gen rfl (PySem.W.codeRec_of kin hcode) (hbi _ _ _ _ (wpAny_newFunctionEnv_cells S.kind kinds fun env he s1 ic => ?_))
    subst he
    refine ⟨nol.keeps ic.toInCall.keep, codeAny_func ?_⟩
    have Iv := L2H.inv_startH (CX := CX0) (qual := x) (cd := cdv) (E := E) S pin en rfl rv ic
    have run := h cdv A outer s0 H E p i G cs (room.deeper _) hz hf H d { nx := fun _ H' => Q .non H', rt := Q } (by
      dsimp only at q
      cases hb : body i with
      | nx u =>
        rw [hb] at q
        rintro σ2 G2 cs2 H2 s2 d2 ⟨⟨loc, rfl⟩, hr2⟩
        exact q _ G2 H2 s2 d2.drop hr2
      | bk l => exact l.elim
      | ct l => exact l.elim
      | rt o =>
        rw [hb] at q
        rintro v G2 cs2 H2 s2 d2 ⟨⟨loc, rfl⟩, hr2⟩
        exact q _ G2 H2 s2 d2.drop hr2
      | er e => exact e.elim)
    refine wpAny_mono (run.run [] s1 Iv) (fun fl s2 hs => ?_) fun e s2 hs => hs
    have done : ∀ {σ' : L2.St} {H' : Hp} {v : V} {u : Value}, Inv (cxH CX0 P w K mg base N x (defScope st) f cdv A outer s0 H E p) [] σ' H' s2 → RelV v u → Q v H' → CE outer P w H s0 Q u s2 := fun Jv rvu qv => ⟨_, _, Jv.os, Jv.bare, Jv.base, Jv.hok, rvu, qv⟩
    cases fl with
    | ret u =>
      obtain ⟨v, σ2, H2, Jv, rvu, qv⟩ := hs
      exact done Jv rvu qv
    | next =>
      obtain ⟨σ2, H2, Jv, qv⟩ := hs
      exact done (v := V.non) (u := Value.none) Jv rfl qv
    | brk =>
      obtain ⟨_, _, _, z⟩ := hs
      exact z.elim
    | cont =>
      obtain ⟨_, _, _, z⟩ := hs
      exact z.elim
end
section
variable {n : Nat} {nm : _root_.Fin n → Str} {adr : _root_.Fin n → Addr} {B0 : Addr} {X : Cx} {σ : L2.St} {G : Hp} {cs : Cells} {e : Expr} {es : List Expr} {pos p : Pos}
theorem roomX {A A' : Around} {j k : Nat} (h : Room j A) (hk : k ≤ j) (hd : A'.depth = A.depth := by rfl) (hu : A'.units = A.units := by rfl) : RoomH k A' := ⟨by rw [hd]; exact (h.mono hk).dp, by rw [hu]; exact (h.mono hk).un⟩
/-- f(e), e the error in hand -/
theorem d_callX {I O : Type} {ad : I → Addr} {r : O → Hp → V → Prop} {m : I → O} {P : Hp → V → Prop} {k a : Nat} {x : Str} {b : Addr} {ob : Obj} (i : I) (F : FnX X.prog X.w X.K X.mg X.base k x a (SpK ad r m)) (hr : RoomH k X.A) (hp : (b, ob) ∈ X.pn) (hz : Zc (.ref (ad i)) none ob) (hf : ∃ u, ob.data = .fields u)
    (he : D X e σ G cs (rV (.ref b))) (hP : ∀ G v, r (m i) G v → P G v) (hg : Gl X x := by rfl) (hd : (x == ("__debug__" : Str)) = false := by decide)
    (hst : starEach [e] X.env = (false, eval e X.env) :: starEach [] X.env := by rfl) (hpl : (backTo pos (starEach [] X.env)).any (·.1) = false := by rfl) : D X (.Call (.Name x p) [e] [] pos) σ G cs P := by
  obtain ⟨f, fd, ps, hlen, F, hm, kp, hb, _⟩ := F.ex
  refine fun G1 H s d Q q => ⟨fun pins s0 Iv => wpAny_Call_Name_kw (ld_glob Iv hg hm ?_ hd)⟩
  refine PySem.W.callWith_K (h₀ := X.base) Iv.ok.mod.kin kp (thn ((pa_cons (sE X e) pa_nil hst).run pos pins s0 σ H (fun vs H2 => vs = [V.ref b] ∧ ∃ G2, Same G1 G2 ∧ Desc G2 cs H2) Iv (he G1 H s d _ fun G2 H2 v s2 d2 hv => ⟨by rw [show v = V.ref b from hv], G2, s2, d2⟩)) fun us s1 hh => ?_) hst hpl
  obtain ⟨vs, H2, I2, rv, rfl, G2, s2, d2⟩ := hh
  refine ⟨I2.kIn, ?_⟩
  have sp : SpK ad r m b (ad i) [V.ref b] H2 Q (fun _ _ _ => False) := ⟨i, G2, cs, rfl, rfl, d2, fun v G3 H3 s3 d3 hv => q G3 H3 v (s2.trans s3) d3 (hP _ _ hv)⟩
  have bb := hb s1 us I2.kIn (by rw [List.append_nil, ← rv.length]; exact hlen _ _ _ _ _ _ sp)
  rw [List.append_nil] at bb
  obtain ⟨p1, p2, p3, p4, p5⟩ := I2.pin (b, ob) (List.mem_append_left _ hp)
  have pin : PinOk X.stack H2 s1 (b, ob) := ⟨p1, p2, fun z => (List.mem_cons.mp (I2.stkSub b z)).elim p3 p4, p5⟩
  refine wpAny_call (codeAny_mono (F X.A X.stack s1 H2 ⟨us, []⟩ us _ Q (fun _ _ _ => False) (b, ob) (ad i) hr pin hz hf I2.env0 bb rv sp) fun t s2 hq => ?_)
  cases t with
  | error c => exact absurd hq (by intro z; exact z)
  | ok fl =>
    cases fl with
    | ret u => exact I2.after hq
    | next => exact hq.elim
    | brk => exact hq.elim
    | cont => exact hq.elim
/-- isinstance(e, C), e the error in hand -/
theorem call_isP {b C : Addr} {ob : Obj} (c : ExcC X.K C) (hz : Zc (.ref C) none ob) (hf : ∃ u, ob.data = .fields u) (hp : (b, ob) ∈ X.pn) : CallR X (.builtin "isinstance") (rIsE X.K C b) := by
  rintro pins s0 σ H xs us Q Iv rv ⟨cl, cv, t, rfl, hcv, kt, q⟩
  obtain ⟨u1, u2, rfl, r1, r2⟩ := vals2 rv
  obtain rfl := hcv _ r2
  cases (show u1 = Value.ref b from r1)
  obtain ⟨fs, hv⟩ := hf
  have at1 : PySem.W.InstAt s0.heap b ob C none := by
    have g := (Iv.pin (b, ob) (List.mem_append_left _ hp)).1
    obtain ⟨k1, k2, k3, k4⟩ := ob
    obtain ⟨rfl, rfl⟩ := hz
    cases (show k3 = _ from hv)
    exact ⟨g, rfl, rfl, trivial⟩
  exact PySem.W.kia_one (PySem.W.handS_kitx_exc c.hg c.hk c.hs c.hd c.ha c.hn c.ht c.hm) Iv.kIn at1 kt (fun z => nomatch z) fun tk => ⟨.bl t, H, Iv.kept (t' := tk) fun _ _ z => z, rfl, q⟩
theorem d_isE {y : Str} {b : Addr} {ob : Obj} {py : Pos} (i j : _root_.Fin n) (Er : Errs X.K X.mg nm adr B0) (hz : Zc (.ref (adr i)) none ob) (hf : ∃ u, ob.data = .fields u) (hp : (b, ob) ∈ X.pn) (hm : X.mg "isinstance" = none) (he : D X e σ G cs (rV (.ref b))) (hy : nm j = y)
    (hg : Gl X "isinstance" := by rfl) (hgy : Gl X y := by rfl) (hdy : (y == ("__debug__" : Str)) = false := by decide) (hst : starEach [e, .Name y py] X.env = (false, eval e X.env) :: starEach [.Name y py] X.env := by rfl) (hst2 : starEach [.Name y py] X.env = (false, eval (.Name y py) X.env) :: starEach [] X.env := by rfl)
    (hpl : (backTo pos (starEach [.Name y py] X.env)).any (·.1) = false := by rfl) : D X (.Call (.Name "isinstance" p) [e, .Name y py] [] pos) σ G cs (rB (decide (i = j))) := by
  subst hy
  refine d_callB (Ps := aC (rV (.ref b)) (aC (rV (.ref (adr j))) aN)) (call_isP (Er.one i).cl hz hf hp) hm (a_cons (P := rV (.ref b)) he (a_cons (P := rV (.ref (adr j))) ?_ a_nil hst2) hst) (fun G1 H vs s d h Q q => ?_) hg (he := hst) (hpl := hpl)
  · exact d_by (pe_glob hgy (Er.one j).mg (v := .ref (adr j)) rfl hdy) fun G1 H s d Q q => q G1 H _ (Same.refl _) d rfl
  · obtain ⟨v, w, rfl, hv, v2, w2, rfl, hv2, hw⟩ := h
    cases (show w2 = [] from hw)
    cases (show v = V.ref b from hv)
    cases (show v2 = V.ref (adr j) from hv2)
    exact ⟨_, _, _, rfl, fun u z => z, Er.is i j, q G1 H _ (Same.refl _) d rfl⟩
end
end J

namespace J
open PySem L2 PyProof.Rows
/-! ### one of two kinds of values -/
def rSum {α β : Type} (r : α → Hp → V → Prop) (r' : β → Hp → V → Prop) : α ⊕ β → Hp → V → Prop
  | .inl x => r x
  | .inr y => r' y
instance {α β : Type} (r : α → Hp → V → Prop) (r' : β → Hp → V → Prop) [m : ∀ x, Mono (r x)] [m' : ∀ x, Mono (r' x)] (x : α ⊕ β) : Mono (rSum r r' x) :=
  ⟨fun e h => by
    cases x with
    | inl x => exact (m x).mono e h
    | inr x => exact (m' x).mono e h⟩
instance (K : PySem.W.Frag) : EqR K (rSum rI rS) where
  toD x := match x with
    | .inl i => .int i
    | .inr l => .str (SX.S l)
  ok x := match x with
    | .inl _ => True
    | .inr l => ∀ c ∈ l, c < 1114112
  dep := 1
  dp {x} _ _ _ h s := by
    cases x with
    | inl i => cases (show _ = _ from h); exact .int _
    | inr l => cases (show _ = _ from h); exact .str _
  lay {x} h := by
    cases x with
    | inl i => rfl
    | inr l => exact (inferInstance : EqR K rS).lay h
  deep x := by cases x <;> (unfold PyData.depth; omega)
  eqv x y := by
    cases x <;> cases y <;> unfold PyData.eqv
    · simp [beq_iff_eq]
    · simp
    · simp
    · rw [SX.S_beq]
      simp [beq_iff_eq]
section
variable {X : Cx} {σ : L2.St} {G : Hp} {cs : Cells} {a b e : Expr} {pos p : Pos} {i j : Int}
theorem d_inl {α β : Type} {r : α → Hp → V → Prop} {r' : β → Hp → V → Prop} {x : α} (h : D X e σ G cs (r x)) : D X e σ G cs (rSum r r' (.inl x)) := h
theorem d_inr {α β : Type} {r : α → Hp → V → Prop} {r' : β → Hp → V → Prop} {x : β} (h : D X e σ G cs (r' x)) : D X e σ G cs (rSum r r' (.inr x)) := h
theorem Rs.to {α β : Type} {r : α → Hp → V → Prop} {r' : β → Hp → V → Prop} {f : α → β} {G : Hp} (h : ∀ x v, r x G v → r' (f x) G v) : ∀ {xs : List α} {vs : List V}, Rs r G xs vs → Rs r' G (xs.map f) vs
  | _, _, .nil => .nil
  | _, _, .cons q t => .cons (h _ _ q) (Rs.to h t)
/-- a list, each item told otherwise -/
theorem d_lmap {α β : Type} {r : α → Hp → V → Prop} {r' : β → Hp → V → Prop} (f : α → β) {xs : List α} (h : D X e σ G cs (rL X.K r xs)) (q : ∀ x G v, r x G v → r' (f x) G v) : D X e σ G cs (rL X.K r' (xs.map f)) :=
  h.imp fun G v ⟨l, vs, e1, e2, e3⟩ => ⟨l, vs, e1, e2, Rs.to (fun x v => q x G v) e3⟩

/-! ### what may be None, and is not -/
def oGet {α : Type} [Inhabited α] (o : Option α) : α := o.getD default
theorem oS1 {α : Type} {o : Option α} (h : (!o.isNone) = true) : o.isSome = true := by cases o <;> simp_all
theorem oS2 {α : Type} {o : Option α} (h : o.isNone = false) : o.isSome = true := by cases o <;> simp_all
theorem d_unO {α : Type} [Inhabited α] {r : α → Hp → V → Prop} {o : Option α} (h : D X e σ G cs (rO r o)) (hs : o.isSome = true) : D X e σ G cs (r (oGet o)) := by
  cases o with
  | none => cases hs
  | some x => exact h

/-! ### is of bools -/
theorem c_isB {H : Hp} {Q : VK} {i j : Bool} {x y : V} {G1 : Hp} (hx : rB i G1 x) (hy : rB j G1 y) (q : Q (.bl (decide (i = j))) H) : ∃ a b, x = .bl a ∧ y = .bl b ∧ Q (.bl (decide (a = b))) H := ⟨i, j, hx, hy, q⟩
theorem c_nisB {H : Hp} {Q : VK} {i j : Bool} {x y : V} {G1 : Hp} (hx : rB i G1 x) (hy : rB j G1 y) (q : Q (.bl (!decide (i = j))) H) : ∃ a b, x = .bl a ∧ y = .bl b ∧ Q (.bl (!decide (a = b))) H := ⟨i, j, hx, hy, q⟩

theorem d_isNN {jj : Nat} {p' : Pos} (ha : D X a σ G cs (rN ())) : D X (.Compare a [.Is] [.Constant .none jj p'] pos) σ G cs (rB true) :=
  d_cmp op_isN (nomark _) ha d_non fun G1 H x y s d hx hy Q q => ⟨hy, by cases (show x = V.non from hx); exact q⟩
theorem t_isNN {jj : Nat} {p' : Pos} (ha : D X a σ G cs (rN ())) : T X (.Compare a [.Is] [.Constant .none jj p'] pos) σ G cs true :=
  t_cmp op_isN (nomark _) ha d_non fun G1 H x y s d hx hy Q q => ⟨hy, by cases (show x = V.non from hx); exact q⟩
theorem d_notNN {jj : Nat} {p' : Pos} (ha : D X a σ G cs (rN ())) : D X (.Compare a [.IsNot] [.Constant .none jj p'] pos) σ G cs (rB false) :=
  d_cmp op_notN (nomark _) ha d_non fun G1 H x y s d hx hy Q q => ⟨hy, by cases (show x = V.non from hx); exact q⟩
theorem t_notNN {jj : Nat} {p' : Pos} (ha : D X a σ G cs (rN ())) : T X (.Compare a [.IsNot] [.Constant .none jj p'] pos) σ G cs false :=
  t_cmp op_notN (nomark _) ha d_non fun G1 H x y s d hx hy Q q => ⟨hy, by cases (show x = V.non from hx); exact q⟩

/-! ### x in xs -/
theorem inV_S (l : List Nat) : ∀ xs : List (List Nat), inV (.str (SX.S l)) (xs.map fun y => .str (SX.S y)) = decide (l ∈ xs)
  | [] => by simp [inV]
  | y :: xs => by
    have ih := inV_S l xs
    unfold inV at ih ⊢
    rw [List.map_cons, List.any_cons, ih]
    show (SX.S y == SX.S l || _) = _
    rw [SX.S_beq]
    by_cases h : y = l
    · subst h
      simp
    · have h2 : ¬ l = y := fun z => h z.symm
      simp [h, h2]
theorem inV_I (i : Int) : ∀ xs : List Int, inV (.int i) (xs.map V.int) = decide (i ∈ xs)
  | [] => by simp [inV]
  | y :: xs => by
    have ih := inV_I i xs
    unfold inV at ih ⊢
    rw [List.map_cons, List.any_cons, ih]
    show (y == i || _) = _
    by_cases h : y = i
    · subst h
      simp
    · have h2 : ¬ i = y := fun z => h z.symm
      simp [h, h2]
/-- items that `in` may ask -/
class InR {α : Type} [DecidableEq α] (r : α → Hp → V → Prop) where
  f : α → V
  is : ∀ {x G v}, r x G v → v = f x
  fl : ∀ x, flatV (f x) = true
  iv : ∀ (x : α) (xs : List α), inV (f x) (xs.map f) = decide (x ∈ xs)
instance : InR rS where
  f l := .str (SX.S l)
  is h := h
  fl _ := rfl
  iv x xs := (inV_S x xs).trans (decide_eq_decide.mpr Iff.rfl)
instance : InR rI where
  f := .int
  is h := h
  fl _ := rfl
  iv x xs := (inV_I x xs).trans (decide_eq_decide.mpr Iff.rfl)
theorem Rs.eqMap {α : Type} [DecidableEq α] {r : α → Hp → V → Prop} [q : InR r] {G : Hp} : ∀ {xs : List α} {vs : List V}, Rs r G xs vs → vs = xs.map q.f
  | _, _, .nil => rfl
  | _, _, .cons h t => by rw [List.map_cons, q.is h, Rs.eqMap t]
theorem allFlat {α : Type} [DecidableEq α] {r : α → Hp → V → Prop} [q : InR r] (xs : List α) : (xs.map q.f).all flatV = true := by
  rw [List.all_eq_true]
  intro v hv
  obtain ⟨x, _, rfl⟩ := List.mem_map.mp hv
  exact q.fl x
/-- readable as a row of items: a list or a tuple -/
def rRow (K : PySem.W.Frag) (cs : Cells) {α : Type} (r : α → Hp → V → Prop) (xs : List α) : Hp → V → Prop := fun G v => ∃ a vs, v = .ref a ∧ (∀ H, Desc G cs H → SqL K H a vs ∨ SqT K H a vs) ∧ Rs r G xs vs
theorem rRow_l {K : PySem.W.Frag} {cs : Cells} {α : Type} {r : α → Hp → V → Prop} {xs : List α} {G : Hp} {v : V} (h : rdL K cs r xs G v) : rRow K cs r xs G v := by
  obtain ⟨a, vs, e, h1, h2⟩ := h
  refine ⟨a, vs, e, fun H d => .inl ?_, h2⟩
  rcases h1 with h1 | h1
  · exact d.same.seq h1
  · exact SqL.of (d.at_ h1)
theorem rRow_t {K : PySem.W.Frag} {cs : Cells} {α : Type} {r : α → Hp → V → Prop} {xs : List α} {G : Hp} {v : V} (h : rU K r xs G v) : rRow K cs r xs G v := by
  obtain ⟨a, vs, e, h1, h2⟩ := h
  exact ⟨a, vs, e, fun H d => .inr (seqT d.same h1), h2⟩
section
/-- x among xs -/
def inB {α : Type} [DecidableEq α] (x : α) (xs : List α) : Bool := decide (x ∈ xs)
theorem inB_iff {α : Type} [DecidableEq α] {x : α} {xs : List α} : inB x xs = true ↔ x ∈ xs := decide_eq_true_iff
variable {α : Type} [DecidableEq α] {r : α → Hp → V → Prop} [q0 : InR r] [∀ x, Mono (r x)] {x : α} {xs : List α}
theorem d_in (ha : D X a σ G cs (r x)) (hb : D X b σ G cs (rRow X.K cs r xs)) (hm : behindInMarks .In b = false := by rfl) : D X (.Compare a [.In] [b] pos) σ G cs (rB (inB x xs)) :=
  d_cmp op_in_seq hm ha hb fun G1 H u w s d hu hw Q q => by
    obtain ⟨l, vs, rfl, h1, h2⟩ := hw
    rw [h2.eqMap] at h1
    rw [q0.is hu]
    refine ⟨l, _, rfl, h1 H d, q0.fl x, allFlat xs, ?_⟩
    rw [if_neg (by simp), q0.iv]
    exact q
theorem d_nin (ha : D X a σ G cs (r x)) (hb : D X b σ G cs (rRow X.K cs r xs)) (hm : behindInMarks .NotIn b = false := by rfl) : D X (.Compare a [.NotIn] [b] pos) σ G cs (rB (!inB x xs)) :=
  d_cmp op_notIn_seq hm ha hb fun G1 H u w s d hu hw Q q => by
    obtain ⟨l, vs, rfl, h1, h2⟩ := hw
    rw [h2.eqMap] at h1
    rw [q0.is hu]
    refine ⟨l, _, rfl, h1 H d, q0.fl x, allFlat xs, ?_⟩
    rw [if_pos rfl, q0.iv]
    exact q
theorem t_in (ha : D X a σ G cs (r x)) (hb : D X b σ G cs (rRow X.K cs r xs)) (hm : behindInMarks .In b = false := by rfl) : T X (.Compare a [.In] [b] pos) σ G cs (inB x xs) :=
  t_cmp op_in_seq hm ha hb fun G1 H u w s d hu hw Q q => by
    obtain ⟨l, vs, rfl, h1, h2⟩ := hw
    rw [h2.eqMap] at h1
    rw [q0.is hu]
    refine ⟨l, _, rfl, h1 H d, q0.fl x, allFlat xs, ?_⟩
    rw [if_neg (by simp), q0.iv]
    exact q
theorem t_nin (ha : D X a σ G cs (r x)) (hb : D X b σ G cs (rRow X.K cs r xs)) (hm : behindInMarks .NotIn b = false := by rfl) : T X (.Compare a [.NotIn] [b] pos) σ G cs (!inB x xs) :=
  t_cmp op_notIn_seq hm ha hb fun G1 H u w s d hu hw Q q => by
    obtain ⟨l, vs, rfl, h1, h2⟩ := hw
    rw [h2.eqMap] at h1
    rw [q0.is hu]
    refine ⟨l, _, rfl, h1 H d, q0.fl x, allFlat xs, ?_⟩
    rw [if_pos rfl, q0.iv]
    exact q
end

/-! ### isinstance(x, T), T built in -/
class HasTy {α : Type} (K : PySem.W.Frag) (r : α → Hp → V → Prop) (t : outParam String) : Prop where
  ty : ∀ {x G H v cs}, r x G v → Desc G cs H → TyX K H v (.type t)
instance (K : PySem.W.Frag) : HasTy K rI "int" := ⟨fun h _ => by cases h; exact .base (.int _)⟩
instance (K : PySem.W.Frag) : HasTy K rB "bool" := ⟨fun h _ => by cases h; exact .base (.bl _)⟩
instance (K : PySem.W.Frag) : HasTy K rS "str" := ⟨fun h _ => by cases h; exact .base (.str _)⟩
theorem ty_list {K : PySem.W.Frag} {H : Hp} {a : Addr} {vs : List V} (h : SqL K H a vs) : TyX K H (.ref a) (.type "list") := by
  rcases h with (h | ⟨o, h⟩) | ⟨o, _, _, h1, h2, _⟩
  · exact .base (.lst h)
  · exact .base (.frz h)
  · exact .kList h1 h2
theorem ty_tuple {K : PySem.W.Frag} {H : Hp} {a : Addr} {vs : List V} (h : SqT K H a vs) : TyX K H (.ref a) (.type "tuple") := by
  rcases h with (h | ⟨o, h⟩) | ⟨o, _, _, h1, h2, _⟩
  · exact .base (.tup h)
  · exact .fTuple h
  · exact .kTuple h1 h2
instance (K : PySem.W.Frag) {α : Type} (r : α → Hp → V → Prop) : HasTy K (rL K r) "list" := ⟨fun h d => by
  obtain ⟨a, vs, rfl, h1, h2⟩ := h
  exact ty_list (d.same.seq h1)⟩
instance (K : PySem.W.Frag) {α : Type} (r : α → Hp → List V → Prop) : HasTy K (rT K r) "tuple" := ⟨fun h d => by
  obtain ⟨a, vs, rfl, h1, h2⟩ := h
  exact ty_tuple (seqT d.same h1)⟩
theorem d_isi {α : Type} {r : α → Hp → V → Prop} {x : α} {t u : String} {y : Str} {k : Bool} {py : Pos} [h : HasTy X.K r t] [∀ x, Mono (r x)] (hm : X.mg "isinstance" = none) (hmy : X.mg y = none) (ha : D X a σ G cs (r x)) (hk : kitB t u = some k := by decide +kernel)
    (hy : bootBuiltins y = some (.type u) := by decide +kernel) (hg : Gl X "isinstance" := by rfl) (hgy : Gl X y := by rfl) (hny : y ≠ "__name__" := by decide) (hdy : (y == ("__debug__" : Str)) = false := by decide)
    (hst : starEach [a, .Name y py] X.env = (false, eval a X.env) :: starEach [.Name y py] X.env := by rfl) (hst2 : starEach [.Name y py] X.env = (false, eval (.Name y py) X.env) :: starEach [] X.env := by rfl)
    (hpl : (backTo pos (starEach [.Name y py] X.env)).any (·.1) = false := by rfl) : D X (.Call (.Name "isinstance" p) [a, .Name y py] [] pos) σ G cs (rB k) := by
  refine d_callB (Ps := aC (r x) (aC (rV (.ty u)) aN)) call_isi hm (a_cons ha (a_cons (P := rV (.ty u)) ?_ a_nil hst2) hst) (fun G1 H vs s d h1 Q q => ?_) hg (he := hst) (hpl := hpl)
  · exact d_by (pe_bltn hgy hmy hy (v := .ty u) rfl hny hdy) fun G1 H s d Q q => q G1 H _ (Same.refl _) d rfl
  · obtain ⟨v, w, rfl, hv, v2, w2, rfl, hv2, hw⟩ := h1
    cases (show w2 = [] from hw)
    cases (show v2 = V.ty u from hv2)
    exact ⟨_, _, _, _, k, rfl, .ty u, h.ty hv d, kit_ty hk, q G1 H _ (Same.refl _) d rfl⟩

/-! ### slices -/
def cutL {α : Type} (xs : List α) (lo hi : Option Int) : List α := (xs.drop (HT.sIx xs.length 0 lo)).take (HT.sIx xs.length xs.length hi - HT.sIx xs.length 0 lo)
theorem cutL_map {α β : Type} (f : α → β) (xs : List α) (lo hi : Option Int) : cutL (xs.map f) lo hi = (cutL xs lo hi).map f := by
  unfold cutL
  rw [List.length_map, List.map_take, List.map_drop]
theorem cutL_le {α : Type} (xs : List α) (lo hi : Option Int) : (cutL xs lo hi).length ≤ xs.length := by
  unfold cutL
  rw [List.length_take, List.length_drop]
  omega
theorem cutL_up {α : Type} (xs : List α) {n : Int} (h : 0 ≤ n) : cutL xs none (some n) = xs.take n.toNat := by
  unfold cutL
  rw [HT.sIx_none]
  show List.take (HT.sIx xs.length xs.length (some n) - 0) (List.drop 0 xs) = _
  have e : n = (n.toNat : Int) := by omega
  rw [e, HT.sIx_nat, Nat.sub_zero, List.drop_zero]
  show List.take (min n.toNat xs.length) xs = List.take n.toNat xs
  rw [List.take_eq_take_iff]
  omega
theorem cutL_from {α : Type} (xs : List α) {n : Int} (h : 0 ≤ n) : cutL xs (some n) none = xs.drop n.toNat := by
  unfold cutL
  rw [HT.sIx_none]
  have e : n = (n.toNat : Int) := by omega
  rw [e, HT.sIx_nat]
  show List.take (xs.length - min n.toNat xs.length) (List.drop (min n.toNat xs.length) xs) = List.drop n.toNat xs
  by_cases hl : n.toNat ≤ xs.length
  · rw [Nat.min_eq_left hl, List.take_of_length_le (by rw [List.length_drop]; omega)]
  · rw [Nat.min_eq_right (by omega), List.drop_of_length_le (Nat.le_refl _), List.drop_of_length_le (by omega), List.take_nil]
structure wO (X : Cx) (eo : Option Expr) (σ : L2.St) (H : Hp) (Q : Option Int → Hp → Prop) : Prop where
  run : ∀ pins s, Inv X pins σ H s → wpAny (model X.prog X.w) X.A (evalPart eo X.env) (fun u s' => ∃ o H', Inv X pins σ H' s' ∧ IsPart u o ∧ Q o H') X.xe s
/-- a slice's part -/
def DO (X : Cx) (eo : Option Expr) (σ : L2.St) (G : Hp) (cs : Cells) (o : Option Int) : Prop :=
  ∀ G1 H, Same G G1 → Desc G1 cs H → ∀ Q : Option Int → Hp → Prop, (∀ G2 H2, Same G1 G2 → Desc G2 cs H2 → Q o H2) → wO X eo σ H Q
theorem do_none : DO X none σ G cs none := fun G1 H s d Q q => ⟨fun pins s0 Iv => po_none.run pins s0 σ H Q Iv (q G1 H (Same.refl _) d)⟩
theorem do_some (h : D X e σ G cs (rI i)) : DO X (some e) σ G cs (some i) := fun G1 H s d Q q => ⟨fun pins s0 Iv => (po_some (sE X e)).run pins s0 σ H Q Iv (h G1 H s d _ fun G2 H2 v s2 d2 hv => ⟨i, hv, q G2 H2 s2 d2⟩)⟩
theorem sO (eo : Option Expr) : PO X eo (wO X eo) := ⟨fun pins s _ _ _ Iv h => h.run pins s Iv⟩
section
variable {lo hi : Option Expr} {l u : Option Int} {p2 : Pos}
theorem d_slS {z : List Nat} (ha : D X a σ G cs (rS z)) (hl : DO X lo σ G cs l) (hu : DO X hi σ G cs u) (hz : z.length ≤ sizeLine) : D X (.Subscript a (.Slice lo hi none p2) pos) σ G cs (rS (cutL z l u)) :=
  d_by (pe_slice sl_str (sE X a) (sO lo) (sO hi)) fun G1 H s d Q q => ha G1 H s d _ fun G2 H2 v s2 d2 hv => hl G2 H2 (s.trans s2) d2 _ fun G3 H3 s3 d3 => hu G3 H3 ((s.trans s2).trans s3) d3 _ fun G4 H4 s4 d4 => by
    refine ⟨SX.S z, hv, by rw [SX.S_len]; exact hz, ?_⟩
    have e : cutS (SX.S z) l u = SX.S (cutL z l u) := by
      unfold cutS cutL
      rw [SX.S_len]
    rw [e]
    exact q G4 H4 _ ((s2.trans s3).trans s4) d4 rfl
theorem rs_cut {α : Type} {r : α → Hp → V → Prop} {G : Hp} {xs : List α} {vs : List V} (h : Rs r G xs vs) (l u : Option Int) : Rs r G (cutL xs l u) (cutV vs l u) := by
  unfold cutL cutV
  rw [h.length]
  exact (h.drop _).take _
theorem n_slL {α : Type} {r : α → Hp → V → Prop} [∀ x, Mono (r x)] {xs : List α} (ha : D X a σ G cs (rdL X.K cs r xs)) (hl : DO X lo σ G cs l) (hu : DO X hi σ G cs u) : N X (.Subscript a (.Slice lo hi none p2) pos) σ G cs r (cutL xs l u) := fun G1 H s d Q q =>
  uE (pe_slice sl_list (sE X a) (sO lo) (sO hi)) (ha G1 H s d _ fun G2 H2 v s2 d2 hv => hl G2 H2 (s.trans s2) d2 _ fun G3 H3 s3 d3 => hu G3 H3 ((s.trans s2).trans s3) d3 _ fun G4 H4 s4 d4 => by
    obtain ⟨x, vs, e1, h1, h2⟩ := (Mono.mono (s3.trans s4) hv).sq d4
    exact ⟨x, vs, e1, h1, fun p hp => q G4 _ p _ ((s2.trans s3).trans s4) (d4.newCell hp _) (rs_cut h2 l u)⟩)
end
theorem d_upper {z : List Nat} {apos : Pos} (ha : D X a σ G cs (rS z)) (h : z.all (· < 128) = true) (hz : z.length ≤ 5592405) (hbase : attributeBase a "upper" X.env (eval a X.env) = eval a X.env := by rfl) (hline : (apos.endLine == pos.line) = true := by rfl) :
    D X (.Call (.Attribute a "upper" apos) [] [] pos) σ G cs (rS (z.map PyProof.Rows.up1)) :=
  d_by (pe_upper (sE X a) hbase hline) fun G1 H s d Q q => ha G1 H s d _ fun G2 H2 v s2 d2 hv => ⟨⟨SX.S z, hv⟩, SX.S z, hv, rfl, by rw [SX.S_len]; exact hz, by rw [SX.upper_S h]; exact q G2 H2 _ s2 d2 rfl⟩

/-! ### tuples of the module -/
theorem d_ixU {α : Type} {r : α → Hp → V → Prop} [∀ x, Mono (r x)] {xs : List α} {x : α} (ha : D X a σ G cs (rU X.K r xs)) (hb : D X b σ G cs (rI i)) (hx : atI xs i = some x) (hs : PlainIx b := by exact fun _ _ => rfl) : D X (.Subscript a b pos) σ G cs (r x) :=
  d_by (pe_ix ix_tup (sE X a) (sE X b) hs) fun G1 H s d Q q => ha G1 H s d _ fun G2 H2 u s2 d2 hu => hb G2 H2 (s.trans s2) d2 _ fun G3 H3 y s3 d3 hy => by
    obtain ⟨l, vs, e, hl, hr⟩ := Mono.mono s3 hu
    obtain ⟨v, hv, hp⟩ := atI_rs hr hx
    exact ⟨l, vs, i, v, e, hy, seqT d3.same hl, hv, q G3 H3 v (s2.trans s3) d3 hp⟩
/-- a name of the module that tells data -/
def GlobR (mg : Str → Option Value) (x : Str) (P : Hp → V → Prop) : Prop := ∃ v u, mg x = some u ∧ RelV v u ∧ ∀ G, P G v
theorem d_globR {x : Str} {P : Hp → V → Prop} (h : GlobR X.mg x P) (hg : Gl X x := by rfl) (hd : (x == ("__debug__" : Str)) = false := by decide) : D X (.Name x pos) σ G cs P := by
  obtain ⟨v, u, hm, hr, hp⟩ := h
  exact d_by (pe_glob hg hm hr hd) fun G1 H s d Q q => q G1 H v (Same.refl _) d (hp G1)
theorem globT {K : PySem.W.Frag} {mg : Str → Option Value} {x : Str} {α : Type} {r : α → Hp → V → Prop} {xs : List α} {vs : List V} {a : Addr} {dd : Option Addr} {us : List Value} {n : Nat} {sl : Array (Option Value)} (hm : mg x = some (.ref a)) (hk : K.lookup a = some ⟨.type "tuple", dd, .seq us.toArray n, sl⟩)
    (hv : Vals vs us) (hl : us.length ≤ sizeLine) (hr : ∀ G, Rs r G xs vs) : GlobR mg x (rU K r xs) :=
  ⟨.ref a, _, hm, rfl, fun G => ⟨a, vs, rfl, .inr ⟨_, us.toArray, n, hk, rfl, rfl, by rw [List.size_toArray]; exact hl, by simpa using hv⟩, hr G⟩⟩
end
end J

namespace J
/-! the numbers that a law draws of a cell: every law's own mirror of them is this one, by rfl -/
def numStep (c : Int) (z : Int × List Int) (x : Int) : Out Empty (Int × List Int) (Int × List Int) (List Int) :=
  if (decide (0 < z.1)) = true then (letV (z.2 ++ [(z.1 % 10000000000000)]) fun ns => letV (z.1 / 10000000000000) fun r => .nx (r, ns))
  else (letV ((((c * 48271) + (x * 69621)) + 1013) % 2147483647) fun m => letV ((((m * m) + (8191 * x)) + 77) % 2147483629) fun m2 =>
    letV (z.2 ++ [(((((m2 * m2) + m2) % 2147483587) * 4001) + x)]) fun ns => .nx (z.1, ns))
def numsOf (c : Int) (n : Int) : List Int :=
  Out.val (letV 0 fun r => (if (decide (1000000000000000000 ≤ c)) = true then (letV (c / 1000000000000000000) fun r => .nx (r)) else (.nx (r)) : Out Empty (Int) Empty (List Int)).bind fun z =>
    letV ([] : (List Int)) fun ns => (forL (numStep c) (z, ns) (rng 0 n)).bind fun z => .rt z.2)
theorem numsOf_is (c n : Int) : ∃ r s, numsOf c n = s.2 ∧ (forL (numStep c) (r, []) (rng 0 n) : Out Empty _ Empty (List Int)) = .nx s ∧ (∀ (P : Nat → Int × List Int → Prop), (∀ r, P 0 (r, [])) → (∀ k s x, x ∈ rng 0 n → P k s → ∃ s', numStep c s x = .nx s' ∧ P (k + 1) s') → P (rng 0 n).length s) := by
  have key : ∀ r : Int, ∃ s, (forL (numStep c) (r, []) (rng 0 n) : Out Empty _ Empty (List Int)) = .nx s ∧ (∀ (P : Nat → Int × List Int → Prop), (∀ r, P 0 (r, [])) → (∀ k s x, x ∈ rng 0 n → P k s → ∃ s', numStep c s x = .nx s' ∧ P (k + 1) s') → P (rng 0 n).length s) := fun r => by
    obtain ⟨s, e, _⟩ := forL_inv (ε := Empty) (L := Empty) (f := numStep c) (xs := rng 0 n) (s := (r, [])) (n := 0) (fun _ _ => True) trivial fun k s x hx _ => by
      unfold numStep letV
      by_cases hc : 0 < s.1
      · exact ⟨_, by rw [decide_eq_true hc]; rfl, trivial⟩
      · exact ⟨_, by rw [decide_eq_false hc]; rfl, trivial⟩
    refine ⟨s, e, fun P h0 hs => ?_⟩
    obtain ⟨s2, e2, h2⟩ := forL_inv (ε := Empty) (L := Empty) (f := numStep c) (xs := rng 0 n) (s := (r, [])) (n := 0) P (h0 r) hs
    rw [e] at e2
    cases e2
    rw [Nat.zero_add] at h2
    exact h2
  unfold numsOf letV
  by_cases hc : 1000000000000000000 ≤ c
  · rw [decide_eq_true hc]
    obtain ⟨s, e, hl⟩ := key (c / 1000000000000000000)
    refine ⟨_, s, ?_, e, hl⟩
    show Out.val (Out.bind (forL (numStep c) (c / 1000000000000000000, []) (rng 0 n)) fun z => .rt z.2) = _
    rw [e]
    rfl
  · rw [decide_eq_false hc]
    obtain ⟨s, e, hl⟩ := key 0
    refine ⟨_, s, ?_, e, hl⟩
    show Out.val (Out.bind (forL (numStep c) (0, []) (rng 0 n)) fun z => .rt z.2) = _
    rw [e]
    rfl
theorem numsOf_length (c : Int) {n : Int} (h : 0 ≤ n) : (numsOf c n).length = n.toNat := by
  obtain ⟨r, s, e, _, hp⟩ := numsOf_is c n
  rw [e, hp (fun k s => s.2.length = k) (fun _ => rfl) (fun k s x hx hk => by
    unfold numStep letV
    by_cases hc : 0 < s.1
    · exact ⟨_, by rw [decide_eq_true hc]; rfl, by simp [hk]⟩
    · exact ⟨_, by rw [decide_eq_false hc]; rfl, by simp [hk]⟩), rng_length]
  omega
theorem numsOf_bd (c : Int) {n : Int} (h : n ≤ 1000) : ∀ x ∈ numsOf c n, 0 ≤ x ∧ x < 10000000000000 := by
  obtain ⟨r, s, e, _, hp⟩ := numsOf_is c n
  rw [e]
  refine hp (fun _ s => ∀ x ∈ s.2, 0 ≤ x ∧ x < 10000000000000) (fun _ x hx => by simp at hx) (fun k s x hx hk => ?_)
  unfold numStep letV
  have hk0 := rng_mem.mp hx
  by_cases hc : 0 < s.1
  · refine ⟨_, by rw [decide_eq_true hc]; rfl, fun y hy => ?_⟩
    rcases List.mem_append.mp hy with hy | hy
    · exact hk y hy
    · have e := List.mem_singleton.mp hy
      rw [e]
      omega
  · refine ⟨_, by rw [decide_eq_false hc]; rfl, fun y hy => ?_⟩
    rcases List.mem_append.mp hy with hy | hy
    · exact hk y hy
    · have e := List.mem_singleton.mp hy
      rw [e]
      generalize ((c * 48271 + x * 69621 + 1013) % 2147483647 * ((c * 48271 + x * 69621 + 1013) % 2147483647) + 8191 * x + 77) % 2147483629 = m
      generalize m * m + m = q
      omega
/-- what a law may count on of its numbers -/
structure Nums (n : Nat) (xs : List Int) : Prop where
  len : xs.length = n
  mem : ∀ x ∈ xs, 0 ≤ x ∧ x < 10000000000000
theorem nums (c : Int) (n : Nat) (h : n ≤ 1000 := by decide) : Nums n (numsOf c (n : Int)) := ⟨by rw [numsOf_length c (by omega)]; omega, numsOf_bd c (by omega)⟩
theorem Nums.bd {n : Nat} {xs : List Int} (h : Nums n xs) (i : Int) : 0 ≤ ixg xs i ∧ ixg xs i < 10000000000000 := by
  unfold ixg
  cases e : L2.atI xs i with
  | none => exact ⟨by decide, by decide⟩
  | some x =>
    refine h.mem x ?_
    have e2 : ((L2.ixN xs.length i).bind fun j => xs[j]?) = some x := e
    obtain ⟨j, _, hj⟩ := Option.bind_eq_some_iff.mp e2
    exact List.mem_of_getElem? hj
end J

namespace J
open PySem L2
/-- the turns n are enough -/
def Ends {ε S R : Type} (c : S → Bool) (f : S → Out ε S S R) : Nat → S → Prop
  | 0, s => c s = false
  | n + 1, s => c s = true → ∀ s', (f s = .nx s' ∨ f s = .ct s') → Ends c f n s'
theorem whileN_false {ε S L R : Type} {c : S → Bool} {f : S → Out ε S S R} {n : Nat} {s : S} (h : c s = false) : (whileN c f n s : Out ε S L R) = .nx s := by
  cases n with
  | zero => rfl
  | succ n =>
    unfold whileN
    rw [h]
    rfl
theorem whileN_true {ε S L R : Type} {c : S → Bool} {f : S → Out ε S S R} {n : Nat} {s : S} (h : c s = true) : (whileN c f (n + 1) s : Out ε S L R) = (match f s with
    | .nx s' => whileN c f n s'
    | .ct s' => whileN c f n s'
    | .bk s' => .nx s'
    | .rt r => .rt r
    | .er e => .er e) := by
  conv => lhs; unfold whileN
  rw [h]
  rfl
theorem while_out {ε S L R : Type} {c : S → Bool} {f : S → Out ε S S R} {z : S} (hb : ∀ s s', f s ≠ .bk s') : ∀ {n : Nat} {s : S}, Ends c f n s → (whileN c f n s : Out ε S L R) = .nx z → c z = false
  | 0, s, he, h => by
    have e : s = z := Out.nx.inj h
    rw [← e]
    exact he
  | n + 1, s, he, h => by
    cases hc : c s with
    | false =>
      rw [whileN_false hc] at h
      have e : s = z := Out.nx.inj h
      rw [← e]
      exact hc
    | true =>
      rw [whileN_true hc] at h
      cases hm : f s with
      | nx s' =>
        rw [hm] at h
        exact while_out hb (he hc s' (.inl hm)) h
      | ct s' =>
        rw [hm] at h
        exact while_out hb (he hc s' (.inr hm)) h
      | bk s' => exact absurd hm (hb s s')
      | rt r =>
        rw [hm] at h
        cases h
      | er e =>
        rw [hm] at h
        cases h
theorem while_run {ε S L R : Type} {c : S → Bool} {f : S → Out ε S S R} (I : S → Prop) (hs : ∀ s, I s → c s = true → ∃ s', f s = .nx s' ∧ I s') : ∀ {n : Nat} {s : S}, Ends c f n s → I s → ∃ z, (whileN c f n s : Out ε S L R) = .nx z ∧ I z ∧ c z = false
  | 0, s, he, hi => ⟨s, rfl, hi, he⟩
  | n + 1, s, he, hi => by
    cases hc : c s with
    | false => exact ⟨s, whileN_false hc, hi, hc⟩
    | true =>
      obtain ⟨s', h1, h2⟩ := hs s hi hc
      obtain ⟨z, h3, h4⟩ := while_run (L := L) I hs (he hc s' (.inl h1)) h2
      exact ⟨z, by rw [whileN_true hc, h1]; exact h3, h4⟩
theorem ends_by {ε S R : Type} {c : S → Bool} {f : S → Out ε S S R} (I : S → Prop) (μ : S → Nat) (hs : ∀ s, I s → c s = true → 0 < μ s ∧ ∀ s', (f s = .nx s' ∨ f s = .ct s') → I s' ∧ μ s' < μ s) : ∀ {n : Nat} {s : S}, I s → μ s ≤ n → Ends c f n s
  | 0, s, hi, hm => by
    show c s = false
    cases hc : c s with
    | false => rfl
    | true =>
      have := (hs s hi hc).1
      omega
  | n + 1, s, hi, hm => fun hc s' h => by
    obtain ⟨h1, h2⟩ := (hs s hi hc).2 s' h
    exact ends_by I μ hs h1 (by omega)
section
variable {ε S L R S1 : Type} {X : Cx} {W : ε → L2.St → Hp → Prop} {σ : L2.St} {G : Hp} {cs : Cells} {Φ : Po ε S L R} {rest body : List Stmt} {c : Expr} {pos : Pos}
theorem b_while {cond : S1 → Bool} {f : S1 → Out ε S1 S1 R} {g : S1 → Out ε S L R} {n : Nat} {s0 : S1} (N : S1 → L2.St → Hp → Cells → Prop) (hp : PassesOwn (model X.prog X.w) X.A X.env X.xe)
    (h0 : ∀ G1, Same G G1 → N s0 σ G1 cs) (hc : ∀ s σ1 G1 cs1, Same G G1 → N s σ1 G1 cs1 → T X c σ1 G1 cs1 (cond s))
    (hb : ∀ s σ1 G0 G1 cs1, Same G G0 → N s σ1 G0 cs1 → Same G0 G1 → cond s = true → B X W body σ1 G1 cs1 { nx := N, lp := N, rt := Φ.rt, er := Φ.er } (f s))
    (he : Ends cond f n s0)
    (hr : ∀ s σ1 G0 G1 cs1, Same G G0 → N s σ1 G0 cs1 → Same G0 G1 → (whileN cond f n s0 : Out ε S1 L R) = .nx s → B X W rest σ1 G1 cs1 Φ (g s)) : B X W (.While c body [] pos :: rest) σ G cs Φ ((whileN cond f n s0).bind g) := by
  refine b_cons (ps_while hp (sT X c) (sSs X body)) fun H d E w => ?_
  refine ⟨fun k σ1 H1 => ∃ s G1 cs1, Same G G1 ∧ Desc G1 cs1 H1 ∧ N s σ1 G1 cs1 ∧ Ends cond f k s ∧ (whileN cond f k s : Out ε S1 L R) = whileN cond f n s0, ⟨n, s0, G, cs, Same.refl _, d, h0 G (Same.refl _), he, rfl⟩, ?_⟩
  rintro k σ1 H1 ⟨s, G1, cs1, s1, d1, hN, en, eq⟩
  refine hc s σ1 G1 cs1 s1 hN G1 H1 (Same.refl _) d1 _ fun G2 H2 s2 d2 => ?_
  have sG : Same G G2 := s1.trans s2
  cases hk : cond s with
  | false =>
    rw [whileN_false hk] at eq
    rw [if_neg Bool.false_ne_true]
    rw [← eq] at w
    exact hr s σ1 G1 G2 cs1 s1 hN s2 eq.symm H2 d2 E (Wish.up (show Wish W G Φ E (g s) from w) sG)
  | true =>
    rw [if_pos rfl]
    cases k with
    | zero =>
      have : cond s = false := en
      rw [hk] at this
      cases this
    | succ k =>
      rw [whileN_true hk] at eq
      refine ⟨fun σ' H' => ∃ m', m' < k + 1 ∧ ∃ s G1 cs1, Same G G1 ∧ Desc G1 cs1 H' ∧ N s σ' G1 cs1 ∧ Ends cond f m' s ∧ (whileN cond f m' s : Out ε S1 L R) = whileN cond f n s0, fun σ' H' h => h, ?_⟩
      refine hb s σ1 G1 G2 cs1 s1 hN s2 hk H2 d2 _ ?_
      cases hm : f s with
      | nx s' => exact fun σ4 G4 cs4 H4 s4 d4 p4 => ⟨k, Nat.lt_succ_self k, s', G4, cs4, sG.trans s4, d4, p4, en hk s' (.inl hm), by rw [hm] at eq; exact eq⟩
      | ct s' => exact fun σ4 G4 cs4 H4 s4 d4 p4 => ⟨k, Nat.lt_succ_self k, s', G4, cs4, sG.trans s4, d4, p4, en hk s' (.inr hm), by rw [hm] at eq; exact eq⟩
      | bk s' =>
        rw [hm] at eq
        rw [← eq] at w
        exact fun σ4 G4 cs4 H4 s4 d4 p4 => hr s' σ4 G4 G4 cs4 (sG.trans s4) p4 (Same.refl _) eq.symm H4 d4 E (Wish.up (show Wish W G Φ E (g s') from w) (sG.trans s4))
      | rt r =>
        rw [hm] at eq
        rw [← eq] at w
        exact fun v4 G4 cs4 H4 s4 d4 p4 => w v4 G4 cs4 H4 (sG.trans s4) d4 p4
      | er e =>
        rw [hm] at eq
        rw [← eq] at w
        exact fun σ4 G4 cs4 H4 s4 d4 p4 => w σ4 G4 cs4 H4 (sG.trans s4) d4 p4
end
/-! ### tuples of one kind of items -/
class HomT {α : Type} {β : outParam Type} (r : α → Hp → List V → Prop) (q : outParam (β → Hp → V → Prop)) where
  toL : α → List β
  rs : ∀ {x G vs}, r x G vs → Rs q G (toL x) vs
instance {β : Type} (q : β → Hp → V → Prop) : HomT (c0 q) q where
  toL x := [x]
  rs := fun ⟨_, e, h⟩ => by
    rw [e]
    exact .cons h .nil
instance {α β : Type} (q : β → Hp → V → Prop) (r : α → Hp → List V → Prop) [h : HomT r q] : HomT (cc q r) q where
  toL x := x.1 :: h.toL x.2
  rs := fun ⟨_, _, e, h1, h2⟩ => by
    rw [e]
    exact .cons h1 (h.rs h2)
class LenT {α : Type} (r : α → Hp → List V → Prop) (n : outParam Nat) : Prop where
  len : ∀ {x G vs}, r x G vs → vs.length = n
instance {β : Type} (q : β → Hp → V → Prop) : LenT (c0 q) 1 := ⟨fun ⟨_, e, _⟩ => by rw [e]; rfl⟩
instance {α β : Type} (q : β → Hp → V → Prop) (r : α → Hp → List V → Prop) {n : Nat} [h : LenT r n] : LenT (cc q r) (n + 1) := ⟨fun ⟨_, _, e, _, h2⟩ => by rw [e, List.length_cons, h.len h2]⟩
section
variable {X : Cx} {σ : L2.St} {G : Hp} {cs : Cells} {a : Expr} {pos p : Pos}
theorem d_homT {α β : Type} {r : α → Hp → List V → Prop} {q : β → Hp → V → Prop} [h : HomT r q] {x : α} (ha : D X a σ G cs (rT X.K r x)) : D X a σ G cs (rU X.K q (h.toL x)) := ha.imp fun G v ⟨l, vs, e, hl, hr⟩ => ⟨l, vs, e, hl, h.rs hr⟩
theorem d_lenT {α : Type} {r : α → Hp → List V → Prop} {n : Nat} [h : LenT r n] [∀ x, MonoA (r x)] {y : α} {x : Str} (hm : X.mg x = none) (ha : D X a σ G cs (rT X.K r y)) (hg : Gl X x := by rfl) (hv : bootBuiltins x = some (.builtin "len") := by first | exact PySem.boot_len | decide +kernel) (hn : x ≠ "__name__" := by decide) (hd : (x == ("__debug__" : Str)) = false := by decide)
    (he : starEach [a] X.env = (false, eval a X.env) :: starEach [] X.env := by rfl) (hpl : (backTo pos (starEach [] X.env)).any (·.1) = false := by rfl) : D X (.Call (.Name x p) [a] [] pos) σ G cs (rI (n : Int)) :=
  d_callB call_len hm (a_cons ha a_nil he) (fun G1 H vs s d hvs Q q => by
    obtain ⟨v, ws, e1, h1, h2⟩ := hvs
    cases h2
    obtain ⟨l, us, e, hl, hr⟩ := h1
    subst e
    exact ⟨_, n, e1, .inr ⟨us, seqT d.same hl, (h.len hr).symm⟩, q G1 H _ (Same.refl _) d rfl⟩) hg hv hn hd he hpl
end
end J

namespace J
open PySem L2 PyProof.Rows
section
variable {X : Cx} {σ : L2.St} {G : Hp} {cs : Cells} {a b e : Expr} {pos p : Pos}
theorem d_intB {x : Str} {k : Bool} (hm : X.mg x = none) (ha : D X a σ G cs (rB k)) (hg : Gl X x := by rfl) (hv : bootBuiltins x = some (.type "int") := by decide +kernel) (hn : x ≠ "__name__" := by decide) (hd : (x == ("__debug__" : Str)) = false := by decide)
    (he : starEach [a] X.env = (false, eval a X.env) :: starEach [] X.env := by rfl) (hpl : (backTo pos (starEach [] X.env)).any (·.1) = false := by rfl) : D X (.Call (.Name x p) [a] [] pos) σ G cs (rI (if k then 1 else 0)) :=
  d_callTy call_int1 hm (a_cons ha a_nil he) (fun G1 H vs s d hvs Q q => by
    obtain ⟨v, ws, e1, h1, h2⟩ := hvs
    cases h2
    cases h1
    exact .inr ⟨k, e1, q G1 H _ (Same.refl _) d rfl⟩) hg hv hn hd he hpl
/-! ### isinstance of one of two kinds -/
def kSum {α β : Type} (k k' : Bool) : α ⊕ β → Bool
  | .inl _ => k
  | .inr _ => k'
theorem d_isiS {α β : Type} {r : α → Hp → V → Prop} {r' : β → Hp → V → Prop} {x : α ⊕ β} {t t' u : String} {y : Str} {k k' : Bool} {py : Pos} [h : HasTy X.K r t] [h' : HasTy X.K r' t'] [∀ x, Mono (r x)] [∀ x, Mono (r' x)] (hm : X.mg "isinstance" = none) (hmy : X.mg y = none) (ha : D X a σ G cs (rSum r r' x)) (hk : kitB t u = some k := by decide +kernel) (hk' : kitB t' u = some k' := by decide +kernel)
    (hy : bootBuiltins y = some (.type u) := by decide +kernel) (hg : Gl X "isinstance" := by rfl) (hgy : Gl X y := by rfl) (hny : y ≠ "__name__" := by decide) (hdy : (y == ("__debug__" : Str)) = false := by decide)
    (hst : starEach [a, .Name y py] X.env = (false, eval a X.env) :: starEach [.Name y py] X.env := by rfl) (hst2 : starEach [.Name y py] X.env = (false, eval (.Name y py) X.env) :: starEach [] X.env := by rfl)
    (hpl : (backTo pos (starEach [.Name y py] X.env)).any (·.1) = false := by rfl) : D X (.Call (.Name "isinstance" p) [a, .Name y py] [] pos) σ G cs (rB (kSum k k' x)) := by
  cases x with
  | inl x => exact d_isi (r := r) (x := x) hm hmy ha hk hy hg hgy hny hdy hst hst2 hpl
  | inr x => exact d_isi (r := r') (x := x) hm hmy ha hk' hy hg hgy hny hdy hst hst2 hpl
/-! ### two kinds that are never equal -/
class NeR {α β : Type} (K : PySem.W.Frag) (r : α → Hp → V → Prop) (r' : β → Hp → V → Prop) [q : EqR K r] [q' : EqR K r'] : Prop where
  ne : ∀ x y, PyData.eqv (q.toD x) (q'.toD y) = false ∧ PyData.eqv (q'.toD y) (q.toD x) = false
instance (K : PySem.W.Frag) : NeR K rB rS := ⟨fun x y => by constructor <;> (show PyData.eqv _ _ = false; unfold PyData.eqv; rfl)⟩
instance (K : PySem.W.Frag) {α : Type} (r : α → Hp → V → Prop) [EqR K r] : NeR K rB (rL K r) := ⟨fun x y => by constructor <;> (show PyData.eqv _ _ = false; unfold PyData.eqv; rfl)⟩
instance (K : PySem.W.Frag) {α : Type} (r : α → Hp → V → Prop) [EqR K r] : NeR K rI (rL K r) := ⟨fun x y => by constructor <;> (show PyData.eqv _ _ = false; unfold PyData.eqv; rfl)⟩
instance (K : PySem.W.Frag) {α : Type} (r : α → Hp → V → Prop) [EqR K r] : NeR K rS (rL K r) := ⟨fun x y => by constructor <;> (show PyData.eqv _ _ = false; unfold PyData.eqv; rfl)⟩
instance (K : PySem.W.Frag) {α β : Type} (r : α → Hp → V → Prop) (r' : β → Hp → V → Prop) [q : EqR K r] [q' : EqR K r'] [n : NeR K r r'] : EqR K (rSum r r') where
  toD x := match x with
    | .inl i => q.toD i
    | .inr l => q'.toD l
  ok x := match x with
    | .inl i => q.ok i
    | .inr l => q'.ok l
  dep := max q.dep q'.dep
  dp {x} _ _ _ h s := by
    cases x with
    | inl i => exact q.dp h s
    | inr l => exact q'.dp h s
  lay {x} h := by
    cases x with
    | inl i => exact q.lay h
    | inr l => exact q'.lay h
  deep x := by
    cases x with
    | inl i => exact Nat.le_trans (q.deep i) (Nat.le_max_left _ _)
    | inr l => exact Nat.le_trans (q'.deep l) (Nat.le_max_right _ _)
  eqv x y := by
    cases x with
    | inl x =>
      cases y with
      | inl y => exact (q.eqv x y).trans ⟨fun h => by rw [h], fun h => by cases h; rfl⟩
      | inr y => exact ⟨fun h => (by rw [(n.ne x y).1] at h; cases h), fun h => nomatch h⟩
    | inr x =>
      cases y with
      | inl y => exact ⟨fun h => (by rw [(n.ne y x).2] at h; cases h), fun h => nomatch h⟩
      | inr y => exact (q'.eqv x y).trans ⟨fun h => by rw [h], fun h => by cases h; rfl⟩
/-! ### order of data -/
def rCmpD (K : PySem.W.Frag) (f : PyData → PyData → Bool) : R2 := fun x y H Q => ∃ d e, Dp K H x d ∧ Dp K H y e ∧ PySem.W.alike d e = true ∧ d ≠ .none ∧ d.depth ≤ 64 ∧ Q (.bl (f d e)) H
theorem op_ltD (hu : X.A.units + 64 < cLine) : OpR X (compareOp .Lt) (rCmpD X.K fun d e => PySem.W.dataLt d e) := by
  intro pins s σ H x y v u Q I rx ry h
  obtain ⟨d, e, hd, he, ha, hn, hz, q⟩ := h
  obtain ⟨as, r1⟩ := Dp.reads I d x v hd rx
  obtain ⟨bs, r2⟩ := Dp.reads I e y u he ry
  exact PySem.W.lt_data r1 r2 ha hn (by omega) ⟨.bl _, H, I, rfl, q⟩
theorem op_gtD (hu : X.A.units + 64 < cLine) : OpR X (compareOp .Gt) (rCmpD X.K fun d e => PySem.W.dataLt e d) := by
  intro pins s σ H x y v u Q I rx ry h
  obtain ⟨d, e, hd, he, ha, hn, hz, q⟩ := h
  obtain ⟨as, r1⟩ := Dp.reads I d x v hd rx
  obtain ⟨bs, r2⟩ := Dp.reads I e y u he ry
  exact PySem.W.gt_data r1 r2 ha hn (by omega) ⟨.bl _, H, I, rfl, q⟩
theorem op_leD (hu : X.A.units + 64 < cLine) : OpR X (compareOp .LtE) (rCmpD X.K fun d e => !PySem.W.dataLt e d) := by
  intro pins s σ H x y v u Q I rx ry h
  obtain ⟨d, e, hd, he, ha, hn, hz, q⟩ := h
  obtain ⟨as, r1⟩ := Dp.reads I d x v hd rx
  obtain ⟨bs, r2⟩ := Dp.reads I e y u he ry
  exact PySem.W.le_data r1 r2 ha hn (by omega) ⟨.bl _, H, I, rfl, q⟩
theorem op_geD (hu : X.A.units + 64 < cLine) : OpR X (compareOp .GtE) (rCmpD X.K fun d e => !PySem.W.dataLt d e) := by
  intro pins s σ H x y v u Q I rx ry h
  obtain ⟨d, e, hd, he, ha, hn, hz, q⟩ := h
  obtain ⟨as, r1⟩ := Dp.reads I d x v hd rx
  obtain ⟨bs, r2⟩ := Dp.reads I e y u he ry
  exact PySem.W.ge_data r1 r2 ha hn (by omega) ⟨.bl _, H, I, rfl, q⟩
end
theorem rm64 {k : Nat} {A : Around} (hr : Room k A) : A.units + 64 < cLine := Nat.lt_of_le_of_lt (by omega) hr.un
/-- order of plain data: any two of a kind are alike -/
class OrdR {α : Type} (K : PySem.W.Frag) (r : α → Hp → V → Prop) where
  toD : α → PyData
  dep : Nat
  dp : ∀ {x G H v}, r x G v → Same G H → Dp K H v (toD x)
  alike : ∀ x y, PySem.W.alike (toD x) (toD y) = true
  nn : ∀ x, toD x ≠ .none
  deep : ∀ x, (toD x).depth ≤ dep
instance (K : PySem.W.Frag) : OrdR K rI where
  toD := .int
  dep := 1
  dp h _ := by cases h; exact .int _
  alike _ _ := by unfold PySem.W.alike; rfl
  nn _ h := nomatch h
  deep x := by unfold PyData.depth; omega
/-- of lists of whole numbers: the first one that differs, or the shorter one -/
def ltI (xs ys : List Int) : Bool := PySem.W.dataLt (.list (xs.map .int)) (.list (ys.map .int))
theorem alikeInts : ∀ xs ys : List Int, PySem.W.alikeAll (xs.map .int) (ys.map .int) = true
  | [], ys => by rw [List.map_nil]; unfold PySem.W.alikeAll; rfl
  | x :: xs, [] => by rw [List.map_nil, List.map_cons]; unfold PySem.W.alikeAll; rfl
  | x :: xs, y :: ys => by
    rw [List.map_cons, List.map_cons]
    unfold PySem.W.alikeAll PySem.W.alike
    rw [alikeInts xs ys]
    rfl
section
variable {X : Cx} {σ : L2.St} {G : Hp} {cs : Cells} {a b e : Expr} {pos p : Pos} {xs ys : List Int} {G1 H : Hp} {x y : V} {Q : VK}
theorem c_ints {f : PyData → PyData → Bool} (hx : rL X.K rI xs G1 x) (hy : rL X.K rI ys G1 y) (s : Same G1 H) (q : Q (.bl (f (.list (xs.map .int)) (.list (ys.map .int)))) H) : rCmpD X.K f x y H Q := by
  have d1 := (inferInstance : EqR X.K (rL X.K rI)).dp hx s
  have d2 := (inferInstance : EqR X.K (rL X.K rI)).dp hy s
  refine ⟨.list (xs.map .int), .list (ys.map .int), d1, d2, ?_, fun z => (by cases z), ?_, q⟩
  · unfold PySem.W.alike
    exact alikeInts xs ys
  · have := (inferInstance : EqR X.K (rL X.K rI)).deep xs
    exact Nat.le_trans this (by exact Nat.le_of_ble_eq_true rfl)
/-- a list all of whose items are of the first kind -/
def unL {α β : Type} [Inhabited α] (x : α ⊕ β) : α := match x with
  | .inl y => y
  | .inr _ => default
def isL {α β : Type} (x : α ⊕ β) : Bool := match x with
  | .inl _ => true
  | .inr _ => false
theorem rs_unL {α β : Type} [Inhabited α] {r : α → Hp → V → Prop} {r' : β → Hp → V → Prop} : ∀ {xs : List (α ⊕ β)} {vs : List V}, xs.all isL = true → Rs (rSum r r') G xs vs → Rs r G (xs.map unL) vs
  | _, _, _, .nil => .nil
  | x :: _, _, ha, .cons h t => by
    rw [List.all_cons, Bool.and_eq_true] at ha
    cases x with
    | inl x => exact .cons h (rs_unL ha.2 t)
    | inr x => cases ha.1
theorem d_unL {α β : Type} [Inhabited α] {r : α → Hp → V → Prop} {r' : β → Hp → V → Prop} {xs : List (α ⊕ β)} (ha : D X a σ G cs (rL X.K (rSum r r') xs)) (h : xs.all isL = true) : D X a σ G cs (rL X.K r (xs.map unL)) :=
  ha.imp fun G v ⟨l, vs, e, hl, hr⟩ => ⟨l, vs, e, hl, rs_unL h hr⟩
def unR {α β : Type} [Inhabited β] (x : α ⊕ β) : β := match x with
  | .inl _ => default
  | .inr y => y
def isR {α β : Type} (x : α ⊕ β) : Bool := match x with
  | .inl _ => false
  | .inr _ => true
theorem d_unl {α β : Type} [Inhabited α] {r : α → Hp → V → Prop} {r' : β → Hp → V → Prop} {x : α ⊕ β} (ha : D X a σ G cs (rSum r r' x)) (h : isL x = true) : D X a σ G cs (r (unL x)) := by
  cases x with
  | inl x => exact ha
  | inr x => cases h
theorem d_unr {α β : Type} [Inhabited β] {r : α → Hp → V → Prop} {r' : β → Hp → V → Prop} {x : α ⊕ β} (ha : D X a σ G cs (rSum r r' x)) (h : isR x = true) : D X a σ G cs (r' (unR x)) := by
  cases x with
  | inl x => cases h
  | inr x => exact ha
/-! ### slices of tuples: the first n places -/
def Tk (R : Hp → List V → Prop) (n m : Nat) (P : Hp → List V → Prop) : Prop := ∀ G vs, R G vs → vs.length = m ∧ P G (vs.take n)
theorem tk_1 {α β : Type} {r : α → Hp → V → Prop} {r' : β → Hp → List V → Prop} {m : Nat} [h : LenT r' m] {x : α × β} : Tk (cc r r' x) 1 (m + 1) (c0 r x.1) := fun G vs ⟨v, ws, e, h1, h2⟩ => by
  rw [e]
  exact ⟨by rw [List.length_cons, h.len h2], v, rfl, h1⟩
theorem tk_c {α β γ : Type} {r : α → Hp → V → Prop} {r' : β → Hp → List V → Prop} {r2 : γ → Hp → List V → Prop} {n m : Nat} {x : α × β} {y : γ} (h : Tk (r' x.2) n m (r2 y)) : Tk (cc r r' x) (n + 1) (m + 1) (cc r r2 (x.1, y)) := fun G vs ⟨v, ws, e, h1, h2⟩ => by
  obtain ⟨k1, k2⟩ := h G ws h2
  rw [e]
  exact ⟨by rw [List.length_cons, k1], v, ws.take n, rfl, h1, k2⟩
theorem d_slT {α γ : Type} {r : α → Hp → List V → Prop} {r2 : γ → Hp → List V → Prop} [∀ x, MonoA (r x)] [∀ x, MonoA (r2 x)] {x : α} {y : γ} {n m : Nat} {hi : Option Expr} {p2 : Pos} (ha : D X a σ G cs (rT X.K r x)) (hu : DO X hi σ G cs (some (n : Int))) (ht : Tk (r x) n m (r2 y)) (hn : n < m := by decide) : D X (.Subscript a (.Slice none hi none p2) pos) σ G cs (rT X.K r2 y) :=
  d_by (pe_slice sl_tup (sE X a) (sO none) (sO hi)) fun G1 H s d Q q => ha G1 H s d _ fun G2 H2 v s2 d2 hv => do_none (X := X) (σ := σ) (cs := cs) G2 H2 (s.trans s2) d2 _ fun G3 H3 s3 d3 => hu G3 H3 ((s.trans s2).trans s3) d3 _ fun G4 H4 s4 d4 => by
    obtain ⟨l, vs, e, hl, hr⟩ := Mono.mono (s3.trans s4) hv
    obtain ⟨k1, k2⟩ := ht G4 vs hr
    have e0 : HT.sIx vs.length 0 none = 0 := HT.sIx_none _ _
    have e1 : HT.sIx vs.length vs.length (some (n : Int)) = n := by rw [HT.sIx_nat]; omega
    refine ⟨l, vs, e, seqT d4.same hl, by rw [e0, e1]; omega, fun p hp => ?_⟩
    have ec : cutV vs none (some (n : Int)) = vs.take n := by
      unfold cutV
      rw [e0, e1]
      rfl
    rw [ec]
    have sf : Same G4 (upd G4 p (.tup (vs.take n))) := Same.fresh d4.same hp _
    exact q _ _ _ (((s2.trans s3).trans s4).trans sf) (d4.new hp _) ⟨p, vs.take n, rfl, SqT.of upd_same, MonoA.mono sf k2⟩
end
section
variable {n : Nat} {adr : Fin n → Addr} {S L R : Type} {X : Cx} {Wx : WX} {σ : L2.St} {G : Hp} {cs : Cells} {rest : List Stmt} {e tg : Expr} {pos p : Pos} {Φ : Po (Fin n) S L R} {O : Type} {P : O → Hp → V → Prop} {m : Except (Fin n) O}
/-- a, b = f(..) that may raise -/
theorem b_asgE {g : O → Out (Fin n) S L R} {Sx : O → Hp → L2.St → L2.St → Prop} (he : DE X adr Wx e σ G cs P m) (ht : Tg X tg P Sx) (kr : ∀ k, m = .error k → ∀ G1, Same G G1 → Φ.er k σ G1 cs)
    (k : ∀ o, m = .ok o → ∀ σ' G1, Same G G1 → Sx o G1 σ σ' → B X (wE2 adr Wx) rest σ' G1 cs Φ (g o))
    (hs : swapsWithSole [tg] e pos.line X.env = pure false := by rfl) (hw : swappedStores [tg] e X.env = pure none := by rfl) (h1 : (assignEach [tg] X.env).map (·.2) = [assign tg X.env] := by rfl) : B X (wE2 adr Wx) (.Assign [tg] e pos :: rest) σ G cs Φ (callE m g) := by
  obtain ⟨gt, hg, h2⟩ := ht
  refine b_cons (ps_asg (sE X e) hg hs hw (h1 := h1)) fun H d E w => he G H (Same.refl _) d _ ?_
  cases hm : m with
  | ok o =>
    rw [hm] at w
    exact fun G2 H2 v s2 d2 hv => h2 o v G2 cs H2 σ hv d2 _ fun σ' hS => k o hm σ' G2 s2 hS H2 d2 E (Wish.up (m := g o) w s2)
  | error c =>
    rw [hm] at w
    exact fun G2 H2 s2 d2 => w σ G2 cs H2 s2 d2 (kr c hm G2 s2)
end
section
variable {n : Nat} {adr : Fin n → Addr} {X : Cx} {Wx : WX} {σ : L2.St} {G : Hp} {cs : Cells} {a b : Expr} {rest : List Expr} {pos : Pos} {O : Type} {m : Except (Fin n) O}
theorem de_callQ {I O : Type} {pre : I → Hp → List V → Prop} {r : I → O → Hp → V → Prop} {m : I → Except (Fin n) O} {P : O → Hp → V → Prop} {e : Expr} {es : List Expr} {p : Pos} {k j a : Nat} {x : Str} {Ps : Hp → List V → Prop} (i : I) (F : Fn0 X.prog X.w X.K X.mg X.base (L2.CX X.prog X.w) k x a (SpE (cE adr) pre r m)) (tk : Takes X Wx) (hr : Room j X.A) (hk : k ≤ j)
    (ha : A X (e :: es) σ G cs Ps) (hp : ∀ G1 vs, Same G G1 → Ps G1 vs → pre i G1 vs) (hP : ∀ o G v, r i o G v → P o G v) {mm : Except (Fin n) O} (hmm : m i = mm := by rfl) (hg : Gl X x := by rfl) (hd : (x == ("__debug__" : Str)) = false := by decide)
    (he : starEach (e :: es) X.env = (false, eval e X.env) :: starEach es X.env := by exact star_plain rfl) (hpl : (backTo pos (starEach es X.env)).any (·.1) = false := by rfl) : DE X adr Wx (.Call (.Name x p) (e :: es) [] pos) σ G cs P mm := by
  subst hmm
  exact (de_call i F tk hr hk ha hp hg hd he hpl).imp hP
/-- a call that may raise, ahead in a comparison, in an and -/
theorem de_cmp {op : CmpOp} {r : R2} {Pa : O → Hp → V → Prop} {Pb : Hp → V → Prop} {k : O → Bool} [∀ o, Mono (Pa o)] (ho : OpR X (compareOp op) r) (hm : behindInMarks op b = false) (ha : DE X adr Wx a σ G cs Pa m) (hb : D X b σ G cs Pb)
    (hr : ∀ o G1 H x y, Same G G1 → Desc G1 cs H → Pa o G1 x → Pb G1 y → ∀ Q : VK, Q (.bl (k o)) H → r x y H Q) : DE X adr Wx (.Compare a [op] [b] pos) σ G cs (fun o => rB (k o)) m := fun G1 H s d Q q =>
  uE (pe_cmpR ho (sE X a) (sE X b) hm) (ha G1 H s d _ (by
    cases hk : m with
    | ok o =>
      rw [hk] at q
      exact fun G2 H2 x s2 d2 hx => hb G2 H2 (s.trans s2) d2 _ fun G3 H3 y s3 d3 hy => hr o G3 H3 x y ((s.trans s2).trans s3) d3 (Mono.mono s3 hx) hy Q (q G3 H3 _ (s2.trans s3) d3 rfl)
    | error c =>
      rw [hk] at q
      exact q))
theorem de_and {k k' : O → Bool} (h : DE X adr Wx a σ G cs (fun o => rB (k o)) m) (h' : ∀ o, k o = true → D X (.BoolOp .And (b :: rest) pos) σ G cs (rB (k' o))) : DE X adr Wx (.BoolOp .And (a :: b :: rest) pos) σ G cs (fun o => rB (k o && k' o)) m := fun G1 H s d Q q =>
  uE (pe_and (sE X a) (sE X _)) (h G1 H s d _ (by
    cases hk : m with
    | ok o =>
      rw [hk] at q
      refine fun G2 H2 v s2 d2 hv => ⟨k o, hv, ?_⟩
      cases hko : k o with
      | false => exact iteF (q G2 H2 _ s2 d2 (by show _ = V.bl (k o && k' o); rw [hko]; rfl))
      | true => exact iteT (h' o hko G2 H2 (s.trans s2) d2 Q fun G3 H3 w s3 d3 hw => q G3 H3 w (s2.trans s3) d3 (by show _ = V.bl (k o && k' o); rw [hko]; exact hw))
    | error c =>
      rw [hk] at q
      exact q))
end
section
variable {ε S L R : Type} {X : Cx} {W : ε → L2.St → Hp → Prop} {σ : L2.St} {G : Hp} {cs : Cells} {Φ : Po ε S L R} {m : Out ε S L R} {rest : List Stmt} {e o i : Expr} {P : Hp → V → Prop} {pos p : Pos}
/-- xs[i] = e, xs the cell at k -/
theorem b_put (k : Nat) {l : Addr} {vs : List V} {z : Int} {j : Nat} (hk : cs[k]? = some (l, .lst vs)) (he : D X e σ G cs P) (ho : D X o σ G cs (rV (.ref l))) (hi : D X i σ G cs (rI z)) (hj : ixN vs.length z = some j)
    (q : ∀ v G1, Same G G1 → P G1 v → B X W rest σ G1 (cs.set k (l, .lst (vs.set j v))) Φ m) [Mono P]
    (ha : ∀ v, assign (.Subscript o i p) X.env v = (do
      let ov ← holding [v] (eval o X.env)
      let iv ← holding [v, ov] (eval i X.env)
      standAt p
      holding [v, ov, iv] (setItem ov iv v)
      release [v, ov, iv] []) := by intro _; rfl)
    (hs : swapsWithSole [.Subscript o i p] e pos.line X.env = pure false := by rfl) (hw : swappedStores [.Subscript o i p] e X.env = pure none := by rfl) (h1 : (assignEach [.Subscript o i p] X.env).map (·.2) = [assign (.Subscript o i p) X.env] := by rfl) :
    B X W (.Assign [.Subscript o i p] e pos :: rest) σ G cs Φ m :=
  b_cons (ps_asg (sE X e) (pg_sub (sE X o) (sE X i) set_list ha) hs hw (h1 := h1)) fun H d E w => he G H (Same.refl _) d _ fun G2 H2 v s2 d2 hv =>
    ho G2 H2 s2 d2 _ fun G3 H3 u s3 d3 hu => hi G3 H3 (s2.trans s3) d3 _ fun G4 H4 y s4 d4 hy => by
      have eu : u = .ref l := hu
      have ey : y = .int z := hy
      subst eu ey
      exact ⟨l, vs, z, j, rfl, rfl, d4.at_ (List.mem_of_getElem? hk), hj, q v G4 ((s2.trans s3).trans s4) (Mono.mono (s3.trans s4) hv) _ (d4.write hk _) E (w.up ((s2.trans s3).trans s4))⟩
end
/-- xs with its place i changed -/
def putL {α : Type} (xs : List α) (i : Int) (x : α) : List α := xs.set ((ixN xs.length i).getD 0) x
theorem putL_len {α : Type} (xs : List α) (i : Int) (x : α) : (putL xs i x).length = xs.length := by
  unfold putL
  rw [List.length_set]
theorem ixN_ok {n : Nat} {i : Int} (h : -(n : Int) ≤ i ∧ i < (n : Int)) : ixN n i = some ((ixN n i).getD 0) := by
  unfold ixN
  by_cases h0 : 0 ≤ i
  · rw [if_pos h0, if_pos h.2]
    rfl
  · rw [if_neg h0, if_pos h.1]
    rfl
theorem Rs.put {α : Type} {r : α → Hp → V → Prop} {G : Hp} {xs : List α} {vs : List V} {x : α} {v : V} (hx : r x G v) (h : Rs r G xs vs) (i : Int) : Rs r G (putL xs i x) (vs.set ((ixN vs.length i).getD 0) v) := by
  unfold putL
  rw [h.length]
  exact Rs.set hx _ h
end J

namespace J
open PySem L2 PyProof.Rows
/-- a text's signs -/
def tlS (x : Str) : List Nat := x.cps.toList
theorem S_tlS (x : Str) : SX.S (tlS x) = x := SX.S_tl x
def zfL (z : List Nat) (n : Int) : List Nat := tlS (Txt.zfill (SX.S z) n)
def ljL (z : List Nat) (n : Int) (w : List Nat) : List Nat := tlS (Txt.ljustF (SX.S z) n ((SX.S w).cps.getD 0 0))
def digB (z : List Nat) : Bool := Txt.isdigit (SX.S z)
def findL (z w : List Nat) : Int := Txt.find (SX.S z) (SX.S w)
def partL (z w : List Nat) : List Nat × List Nat × List Nat := (tlS (Txt.partition (SX.S z) (SX.S w)).1, tlS (Txt.partition (SX.S z) (SX.S w)).2.1, tlS (Txt.partition (SX.S z) (SX.S w)).2.2)
def splL (z w : List Nat) : List (List Nat) := (Txt.split (SX.S z) (SX.S w)).map tlS
def joiL (z : List Nat) (ws : List (List Nat)) : List Nat := tlS (Txt.join (SX.S z) (ws.map SX.S))
def numT (z : List Nat) : Int := (PySem.intText? (SX.S z)).getD 0
/-- a number that is not negative, written -/
def decL (i : Int) : List Nat := TL.numL i.toNat
theorem rs_str {G : Hp} {xs : List (List Nat)} {vs : List V} (h : Rs rS G xs vs) : vs = (xs.map SX.S).map V.str := by
  rw [List.map_map]
  exact h.map fun _ _ e => e
theorem rs_tlS {G : Hp} (ys : List Str) : Rs rS G (ys.map tlS) (ys.map V.str) := by
  induction ys with
  | nil => exact .nil
  | cons y ys ih => exact .cons (show V.str y = V.str (SX.S (tlS y)) by rw [S_tlS]) ih
section
variable {X : Cx} {σ : L2.St} {G : Hp} {cs : Cells} {o a b e : Expr} {es : List Expr} {pos p : Pos} {z w : List Nat} {n : Int} {apos : Pos}
theorem d_zfill (ho : D X o σ G cs (rS z)) (he : D X e σ G cs (rI n)) (hp : PadOk n = true) (hs : starEach [e] X.env = [(false, eval e X.env)] := by rfl) (hbase : attributeBase o "zfill" X.env (eval o X.env) = eval o X.env := by rfl) (hline : (apos.endLine == pos.line) = true := by rfl) :
    D X (.Call (.Attribute o "zfill" apos) [e] [] pos) σ G cs (rS (zfL z n)) :=
  d_by (pe_m1 PySem.F.slot_str_zfill PySem.F.type_str_zfill mt_zfill (sE X o) (sE X e) hs hbase hline) fun G1 H s d Q q => ho G1 H s d _ fun G2 H2 u s2 d2 hu => ⟨⟨_, hu⟩, he G2 H2 (s.trans s2) d2 _ fun G3 H3 v s3 d3 hv => by
    refine ⟨SX.S z, n, hu, by rw [show v = .int n from hv], hp, q G3 H3 _ (s2.trans s3) d3 ?_⟩
    show _ = V.str (SX.S (zfL z n))
    unfold zfL
    rw [S_tlS]⟩
theorem d_isdigit (ho : D X o σ G cs (rS z)) (hbase : attributeBase o "isdigit" X.env (eval o X.env) = eval o X.env := by rfl) (hline : (apos.endLine == pos.line) = true := by rfl) : D X (.Call (.Attribute o "isdigit" apos) [] [] pos) σ G cs (rB (digB z)) :=
  d_by (pe_m0 PySem.F.slot_str_isdigit PySem.F.type_str_isdigit mt_isdigit (sE X o) hbase hline) fun G1 H s d Q q => ho G1 H s d _ fun G2 H2 u s2 d2 hu => ⟨⟨_, hu⟩, SX.S z, hu, rfl, trivial, q G2 H2 _ s2 d2 rfl⟩
theorem d_find (ho : D X o σ G cs (rS z)) (he : D X e σ G cs (rS w)) (hs : starEach [e] X.env = [(false, eval e X.env)] := by rfl) (hbase : attributeBase o "find" X.env (eval o X.env) = eval o X.env := by rfl) (hline : (apos.endLine == pos.line) = true := by rfl) :
    D X (.Call (.Attribute o "find" apos) [e] [] pos) σ G cs (rI (findL z w)) :=
  d_by (pe_m1 PySem.F.slot_str_find PySem.F.type_str_find mt_find (sE X o) (sE X e) hs hbase hline) fun G1 H s d Q q => ho G1 H s d _ fun G2 H2 u s2 d2 hu => ⟨⟨_, hu⟩, he G2 H2 (s.trans s2) d2 _ fun G3 H3 v s3 d3 hv =>
    ⟨SX.S z, SX.S w, hu, by rw [show v = .str (SX.S w) from hv], q G3 H3 _ (s2.trans s3) d3 rfl⟩⟩
theorem d_part (ho : D X o σ G cs (rS z)) (he : D X e σ G cs (rS w)) (hw : (w.length == 0) = false) (hz : z.length ≤ sizeLine) (hs : starEach [e] X.env = [(false, eval e X.env)] := by rfl) (hbase : attributeBase o "partition" X.env (eval o X.env) = eval o X.env := by rfl) (hline : (apos.endLine == pos.line) = true := by rfl) :
    D X (.Call (.Attribute o "partition" apos) [e] [] pos) σ G cs (rT X.K (cc rS (cc rS (c0 rS))) (partL z w)) :=
  d_by (pe_partition (sE X o) (sE X e) hs hbase hline) fun G1 H s d Q q => ho G1 H s d _ fun G2 H2 u s2 d2 hu => ⟨⟨_, hu⟩, he G2 H2 (s.trans s2) d2 _ fun G3 H3 v s3 d3 hv => by
    refine ⟨SX.S z, SX.S w, hu, by rw [show v = .str (SX.S w) from hv], by rw [SX.S_len]; exact hw, by rw [SX.S_len]; exact hz, fun l hl => ?_⟩
    have sf : Same G3 (upd G3 l (.tup [.str (Txt.partition (SX.S z) (SX.S w)).1, .str (Txt.partition (SX.S z) (SX.S w)).2.1, .str (Txt.partition (SX.S z) (SX.S w)).2.2])) := Same.fresh d3.same hl _
    refine q _ _ _ ((s2.trans s3).trans sf) (d3.new hl _) ⟨l, _, rfl, SqT.of upd_same, _, _, rfl, ?_, _, _, rfl, ?_, _, rfl, ?_⟩
    · show _ = V.str (SX.S (partL z w).1)
      unfold partL
      rw [S_tlS]
    · show _ = V.str (SX.S (partL z w).2.1)
      unfold partL
      rw [S_tlS]
    · show _ = V.str (SX.S (partL z w).2.2)
      unfold partL
      rw [S_tlS]⟩
theorem n_split (ho : D X o σ G cs (rS z)) (he : D X e σ G cs (rS w)) (hw : (w.length == 0) = false) (hz : z.length + 2 ≤ sizeLine) (hs : starEach [e] X.env = [(false, eval e X.env)] := by rfl) (hbase : attributeBase o "split" X.env (eval o X.env) = eval o X.env := by rfl) (hline : (apos.endLine == pos.line) = true := by rfl) :
    N X (.Call (.Attribute o "split" apos) [e] [] pos) σ G cs rS (splL z w) := fun G1 H s d Q q =>
  uE (pe_split (sE X o) (sE X e) hs hbase hline) (ho G1 H s d _ fun G2 H2 u s2 d2 hu => ⟨⟨_, hu⟩, he G2 H2 (s.trans s2) d2 _ fun G3 H3 v s3 d3 hv =>
    ⟨SX.S z, SX.S w, hu, by rw [show v = .str (SX.S w) from hv], by rw [SX.S_len]; exact hw, by rw [SX.S_len]; exact hz, fun l hl => q G3 _ l _ (s2.trans s3) (d3.newCell hl _) (rs_tlS _)⟩⟩)
theorem d_join {ws : List (List Nat)} (ho : D X o σ G cs (rS z)) (he : D X e σ G cs (rdL X.K cs rS ws)) (hz : (ws.map List.length).sum + ws.length * z.length ≤ 16777216) (hs : starEach [e] X.env = [(false, eval e X.env)] := by rfl) (hbase : attributeBase o "join" X.env (eval o X.env) = eval o X.env := by rfl) (hline : (apos.endLine == pos.line) = true := by rfl) :
    D X (.Call (.Attribute o "join" apos) [e] [] pos) σ G cs (rS (joiL z ws)) :=
  d_by (pe_join (sE X o) (sE X e) hs hbase hline) fun G1 H s d Q q => ho G1 H s d _ fun G2 H2 u s2 d2 hu => ⟨⟨_, hu⟩, he G2 H2 (s.trans s2) d2 _ fun G3 H3 v s3 d3 hv => by
    obtain ⟨l, vs, e1, hl, hr⟩ := hv.sq d3
    have ev := rs_str hr
    subst ev
    refine ⟨SX.S z, l, ws.map SX.S, hu, by rw [e1], .inl hl, ?_, q G3 H3 _ (s2.trans s3) d3 ?_⟩
    · rw [SX.lens, List.length_map, SX.S_len]
      exact hz
    · show _ = V.str (SX.S (joiL z ws))
      unfold joiL
      rw [S_tlS]⟩
theorem d_strI {x : Str} (hm : X.mg x = none) (ha : D X a σ G cs (rI n)) (h0 : 0 ≤ n) (hb : n < 2 ^ 1000) (hg : Gl X x := by rfl) (hv : bootBuiltins x = some (.type "str") := by decide +kernel) (hn : x ≠ "__name__" := by decide) (hd : (x == ("__debug__" : Str)) = false := by decide)
    (he : starEach [a] X.env = (false, eval a X.env) :: starEach [] X.env := by rfl) (hpl : (backTo pos (starEach [] X.env)).any (·.1) = false := by rfl) : D X (.Call (.Name x p) [a] [] pos) σ G cs (rS (decL n)) :=
  d_callTy call_str_int hm (a_cons ha a_nil he) (fun G1 H vs s d hvs Q q => by
    obtain ⟨v, ws, e1, h1, h2⟩ := hvs
    cases h2
    cases h1
    refine ⟨n, e1, ?_, q G1 H _ (Same.refl _) d ?_⟩
    · by_cases z : n.natAbs = 0
      · rw [z]
        decide
      · exact Nat.lt_trans ((Nat.log2_lt z).mpr (show n.natAbs < 2 ^ 1000 by omega)) (by decide)
    · show _ = V.str (SX.S (decL n))
      unfold decL
      obtain ⟨k, rfl⟩ := Int.eq_ofNat_of_zero_le h0
      exact congrArg V.str (SX.num_S k)) hg hv hn hd he hpl
theorem d_intS {x : Str} (hm : X.mg x = none) (ha : D X a σ G cs (rS z)) (h0 : (PySem.intText? (SX.S z)).isSome = true) (hb : z.length ≤ 640) (hg : Gl X x := by rfl) (hv : bootBuiltins x = some (.type "int") := by decide +kernel) (hn : x ≠ "__name__" := by decide) (hd : (x == ("__debug__" : Str)) = false := by decide)
    (he : starEach [a] X.env = (false, eval a X.env) :: starEach [] X.env := by rfl) (hpl : (backTo pos (starEach [] X.env)).any (·.1) = false := by rfl) : D X (.Call (.Name x p) [a] [] pos) σ G cs (rI (numT z)) :=
  d_callTy call_int_str hm (a_cons ha a_nil he) (fun G1 H vs s d hvs Q q => by
    obtain ⟨v, ws, e1, h1, h2⟩ := hvs
    cases h2
    cases h1
    refine ⟨SX.S z, numT z, e1, ?_, by rw [SX.S_len]; exact hb, q G1 H _ (Same.refl _) d rfl⟩
    unfold numT
    cases hc : PySem.intText? (SX.S z) with
    | none => rw [hc] at h0; cases h0
    | some k => rfl) hg hv hn hd he hpl
theorem d_ord {x : Str} {c : Nat} (hm : X.mg x = none) (ha : D X a σ G cs (rS [c])) (hg : Gl X x := by rfl) (hv : bootBuiltins x = some (.builtin "ord") := by decide +kernel) (hn : x ≠ "__name__" := by decide) (hd : (x == ("__debug__" : Str)) = false := by decide)
    (he : starEach [a] X.env = (false, eval a X.env) :: starEach [] X.env := by rfl) (hpl : (backTo pos (starEach [] X.env)).any (·.1) = false := by rfl) : D X (.Call (.Name x p) [a] [] pos) σ G cs (rI (c : Int)) :=
  d_callB call_ord hm (a_cons ha a_nil he) (fun G1 H vs s d hvs Q q => by
    obtain ⟨v, ws, e1, h1, h2⟩ := hvs
    cases h2
    cases h1
    exact ⟨SX.S [c], e1, rfl, q G1 H _ (Same.refl _) d rfl⟩) hg hv hn hd he hpl
/-! ### texts in texts -/
def inT (z w : List Nat) : Bool := !(Builtin.Str.occurrences (SX.S w) (SX.S z) 0 (SX.S w).length 1).isEmpty
theorem inT_one (c : Nat) (w : List Nat) : inT [c] w = decide (c ∈ w) := SX.in_one w c
theorem d_inT (ha : D X a σ G cs (rS z)) (hb : D X b σ G cs (rS w)) (hm : behindInMarks .In b = false := by rfl) : D X (.Compare a [.In] [b] pos) σ G cs (rB (inT z w)) :=
  d_cmp op_in_str hm ha hb fun G1 H u v s d hu hv Q q => ⟨SX.S z, SX.S w, hu, hv, q⟩
theorem d_ninT (ha : D X a σ G cs (rS z)) (hb : D X b σ G cs (rS w)) (hm : behindInMarks .NotIn b = false := by rfl) : D X (.Compare a [.NotIn] [b] pos) σ G cs (rB (!inT z w)) :=
  d_cmp op_notIn_str hm ha hb fun G1 H u v s d hu hv Q q => ⟨SX.S z, SX.S w, hu, hv, q⟩
theorem t_inT (ha : D X a σ G cs (rS z)) (hb : D X b σ G cs (rS w)) (hm : behindInMarks .In b = false := by rfl) : T X (.Compare a [.In] [b] pos) σ G cs (inT z w) :=
  t_cmp op_in_str hm ha hb fun G1 H u v s d hu hv Q q => ⟨SX.S z, SX.S w, hu, hv, q⟩
theorem t_ninT (ha : D X a σ G cs (rS z)) (hb : D X b σ G cs (rS w)) (hm : behindInMarks .NotIn b = false := by rfl) : T X (.Compare a [.NotIn] [b] pos) σ G cs (!inT z w) :=
  t_cmp op_notIn_str hm ha hb fun G1 H u v s d hu hv Q q => ⟨SX.S z, SX.S w, hu, hv, q⟩
/-! ### order of texts -/
theorem c_leS {H : Hp} {Q : VK} {x y : V} {G1 : Hp} (hx : rS z G1 x) (hy : rS w G1 y) (q : Q (.bl (!decide (w < z))) H) : ∃ i j, x = .str i ∧ y = .str j ∧ Q (.bl (!decide (j.cps.toList < i.cps.toList))) H := ⟨SX.S z, SX.S w, hx, hy, q⟩
/-! ### text times number -/
def repS (z : List Nat) (n : Int) : List Nat := (List.replicate n.toNat z).flatten
theorem foldl_cps : ∀ (k : Nat) (z : List Nat) (acc : Array Nat), ((List.replicate k z.toArray).foldl (· ++ ·) acc) = acc ++ ((List.replicate k z).flatten).toArray
  | 0, z, acc => by simp
  | k + 1, z, acc => by
    rw [List.replicate_succ, List.foldl_cons, foldl_cps k z, List.replicate_succ, List.flatten_cons]
    simp [Array.append_assoc]
theorem repS_len (z : List Nat) (n : Int) : (repS z n).length = n.toNat * z.length := by
  unfold repS
  rw [List.length_flatten, List.map_replicate, List.sum_replicate_nat]
theorem op_repS : OpR X (binaryOp .Mult) (fun x y H Q => ∃ (z : List Nat) (n : Int), x = .str (SX.S z) ∧ y = .int n ∧ -(2 ^ 31) < n ∧ n < 2 ^ 31 ∧ n.toNat * z.length ≤ 16777216 ∧ Q (.str (SX.S (repS z n))) H) := by
  intro pins s σ H x y v u Q I rx ry h
  obtain ⟨z, n, rfl, rfl, h1, h2, h3, q⟩ := h
  obtain ⟨t, rfl⟩ := rx
  obtain ⟨t', rfl⟩ := ry
  have el := SX.S_len z
  have es : ¬ n < 1 → (⟨(List.replicate n.toNat (SX.S z).cps).foldl (· ++ ·) #[]⟩ : Str) = SX.S (repS z n) := fun _ => by
    have e := foldl_cps n.toNat z #[]
    show (⟨(List.replicate n.toNat z.toArray).foldl (· ++ ·) #[]⟩ : Str) = ⟨(repS z n).toArray⟩
    rw [e]
    simp [repS]
  have hl : (SX.S (repS z n)).length ≤ sizeLine := by
    rw [SX.S_len, repS_len, sizeLine_eq]
    exact h3
  refine PySem.P.mul_str (by rw [decide_eq_false (by omega), decide_eq_false (by omega)]; rfl) (fun a _ => ?_) (fun a _ => ?_) ?_
  · rw [el]
    have hz : (z.length : Int) ≤ 16777216 := by
      have : z.length ≤ n.toNat * z.length := Nat.le_mul_of_pos_left _ (by omega)
      omega
    have hd : (4294967296 : Int) ≤ (2 ^ 63 - 1) / n := (Int.le_ediv_iff_mul_le (by omega)).mpr (by omega)
    omega
  · unfold Builtin.Str.tooLong
    rw [el]
    have := sizeLine_eq
    rw [Nat.mul_comm]
    simp
    omega
  · by_cases a : n < 1
    · rw [if_pos a]
      have e : repS z n = [] := by
        unfold repS
        rw [show n.toNat = 0 by omega]
        rfl
      rw [e] at q
      exact ⟨by decide, .str (SX.S []), H, I.tok _, ⟨_, rfl⟩, q⟩
    · rw [if_neg a]
      by_cases b : (n == 1 || (SX.S z).length == 0) = true
      · rw [if_pos b]
        have e : repS z n = z := by
          unfold repS
          rw [Bool.or_eq_true, beq_iff_eq, beq_iff_eq, el] at b
          rcases b with b | b
          · rw [b]
            simp
          · have e0 : z = [] := List.eq_nil_of_length_eq_zero b
            rw [e0]
            simp
        rw [e] at q
        exact ⟨.str (SX.S z), H, I, ⟨_, rfl⟩, q⟩
      · rw [if_neg b]
        rw [es a]
        exact ⟨hl, .str (SX.S (repS z n)), H, I.tok _, ⟨_, rfl⟩, q⟩
theorem d_repS (ha : D X a σ G cs (rS z)) (hb : D X b σ G cs (rI n)) (h1 : -(2 ^ 31) < n ∧ n < 2 ^ 31) (h3 : n.toNat * z.length ≤ 16777216) : D X (.BinOp a .Mult b pos) σ G cs (rS (repS z n)) :=
  d_bin op_repS ha hb fun G1 H u v s d hu hv Q q => ⟨z, n, hu, hv, h1.1, h1.2, h3, q G1 H _ (Same.refl _) d rfl⟩
theorem rs_rep {α : Type} {r : α → Hp → V → Prop} {xs : List α} {vs : List V} (h : Rs r G xs vs) : ∀ k : Nat, Rs r G (List.replicate k xs).flatten (List.replicate k vs).flatten
  | 0 => .nil
  | k + 1 => by
    rw [List.replicate_succ, List.replicate_succ, List.flatten_cons, List.flatten_cons]
    exact Rs.append (rs_rep h k) h
theorem n_rep {α : Type} {r : α → Hp → V → Prop} [∀ x, Mono (r x)] {xs : List α} (ha : N X a σ G cs r xs) (hb : D X b σ G cs (rI n)) (h1 : -(2 ^ 31) < n ∧ n < 2 ^ 31) (h3 : xs.length * n.toNat ≤ 16777216) : N X (.BinOp a .Mult b pos) σ G cs r (List.replicate n.toNat xs).flatten := fun G1 H s d Q q =>
  uE (pe_op op_rep (sE X a) (sE X b)) (ha G1 H s d _ fun G2 H2 l vs s2 d2 hr => by
    obtain ⟨f1, f2⟩ := d2.freeze
    refine hb _ H2 (s.trans (s2.trans f1)) f2 _ fun G3 H3 v s3 d3 hv => ?_
    refine ⟨l, n, vs, rfl, hv, d3.same _ _ (s3 _ _ upd_same), by omega, by omega, by rw [← hr.length]; exact sl_small h3, fun p hp => ?_⟩
    exact q G3 _ p _ ((s2.trans f1).trans s3) (d3.newCell hp _) (rs_rep (hr.mono (f1.trans s3)) _))
theorem mt_ljF : MtR X "str.ljust" (fun x xs H Q => ∃ (z : Str) (n : Int) (w : Str), x = .str z ∧ xs = [.int n, .str w] ∧ PadOk n = true ∧ w.length = 1 ∧ Q (.str (Txt.ljustF z n (w.cps.getD 0 0))) H) := by
  intro pins s σ H x xs v us Q I rx rs h
  obtain ⟨z, n, w, rfl, rfl, h1, h2, q⟩ := h
  obtain ⟨t, rfl⟩ := rx
  cases rs with
  | cons r1 rs =>
    cases rs with
    | cons r2 rs =>
      cases rs
      obtain ⟨u1, rfl⟩ := r1
      obtain ⟨u2, rfl⟩ := r2
      exact PyProof.Rows.ljust_fill h1 h2 fun t' k => ⟨.str (Txt.ljustF z n (w.cps.getD 0 0)), H, I.tok k, ⟨_, rfl⟩, q⟩
theorem d_ljust {cpos : Pos} (ho : D X o σ G cs (rS z)) (ha : D X a σ G cs (rI n)) (hb : D X b σ G cs (rS w)) (hp : PadOk n = true) (hw : w.length = 1) (hbase : attributeBase o "ljust" X.env (eval o X.env) = eval o X.env := by rfl)
    (hfew : ((backTo cpos (starEach [a, b] X.env)).all (fun x => !x.1) && (backToKw cpos (keywordEach [] X.env)).all (fun x => x.1.isSome)
      && decide ([a, b].length + ([] : List Keyword).length + (if ([] : List Keyword).isEmpty then 0 else 1) < 30)) = true := by rfl)
    (hline : (apos.endLine == cpos.line) = true := by rfl) (hs : starEach [a, b] X.env = (false, eval a X.env) :: starEach [b] X.env := by rfl) (hs2 : starEach [b] X.env = (false, eval b X.env) :: starEach [] X.env := by rfl) (hplain : (backTo cpos (starEach [b] X.env)).any (·.1) = false := by rfl) :
    D X (.Call (.Attribute o "ljust" apos) [a, b] [] cpos) σ G cs (rS (ljL z n w)) :=
  d_by (pe_bm PySem.F.plainAttrs_str PySem.F.slot_str_ljust PySem.F.type_str_ljust mt_ljF (sE X o) (sA X [a, b]) hbase hfew hline hs hplain) fun G1 H s d Q q => ho G1 H s d _ fun G2 H2 u s2 d2 hu => ⟨by rw [show u = .str (SX.S z) from hu]; rfl, a_cons ha (a_cons hb a_nil hs2) hs G2 H2 (s.trans s2) d2 _ fun G3 H3 vs s3 d3 hv => by
    obtain ⟨v1, ws, rfl, hv1, v2, ws2, rfl, hv2, h3⟩ := hv
    cases h3
    refine ⟨SX.S z, n, SX.S w, hu, by rw [show v1 = .int n from hv1, show v2 = .str (SX.S w) from hv2], hp, by rw [SX.S_len]; exact hw, q G3 H3 _ (s2.trans s3) d3 ?_⟩
    show _ = V.str (SX.S (ljL z n w))
    unfold ljL
    rw [S_tlS]⟩
theorem d_all {bs : List Bool} {x : Str} (hc : X.calm = true) (hm : X.mg x = none) (ha : D X a σ G cs (rdL X.K cs rB bs)) (hg : Gl X x := by rfl) (hv : bootBuiltins x = some (.builtin "all") := by decide +kernel) (hn : x ≠ "__name__" := by decide) (hd : (x == ("__debug__" : Str)) = false := by decide)
    (he : starEach [a] X.env = (false, eval a X.env) :: starEach [] X.env := by rfl) (hpl : (backTo pos (starEach [] X.env)).any (·.1) = false := by rfl) : D X (.Call (.Name x p) [a] [] pos) σ G cs (rB (bs.all id)) :=
  d_callB (cr_all hc) hm (a_cons ha a_nil he) (fun G1 H vs s d hvs Q q => by
    obtain ⟨v, ws, e1, h1, h2⟩ := hvs
    cases h2
    obtain ⟨l, us, e, hl, hr⟩ := h1.sq d
    subst e
    have hu := rs_bl hr
    subst hu
    exact ⟨l, bs, e1, hl, q G1 H _ (Same.refl _) d rfl⟩) hg hv hn hd he hpl
theorem d_any {bs : List Bool} {x : Str} (hc : X.calm = true) (hm : X.mg x = none) (ha : D X a σ G cs (rdL X.K cs rB bs)) (hg : Gl X x := by rfl) (hv : bootBuiltins x = some (.builtin "any") := by decide +kernel) (hn : x ≠ "__name__" := by decide) (hd : (x == ("__debug__" : Str)) = false := by decide)
    (he : starEach [a] X.env = (false, eval a X.env) :: starEach [] X.env := by rfl) (hpl : (backTo pos (starEach [] X.env)).any (·.1) = false := by rfl) : D X (.Call (.Name x p) [a] [] pos) σ G cs (rB (bs.any id)) :=
  d_callB (cr_any hc) hm (a_cons ha a_nil he) (fun G1 H vs s d hvs Q q => by
    obtain ⟨v, ws, e1, h1, h2⟩ := hvs
    cases h2
    obtain ⟨l, us, e, hl, hr⟩ := h1.sq d
    subst e
    have hu := rs_bl hr
    subst hu
    exact ⟨l, bs, e1, hl, q G1 H _ (Same.refl _) d rfl⟩) hg hv hn hd he hpl
end
end J

namespace J
open PySem L2 PyProof.Rows NumText
theorem rng_at {a b x : Int} {pre post : List Int} (h : rng a b = pre ++ x :: post) : x = a + (pre.length : Int) := by
  have e : (rng a b)[pre.length]? = some x := by rw [h]; simp
  have l : pre.length < (b - a).toNat := by
    have := congrArg List.length h
    rw [rng_length, List.length_append, List.length_cons] at this
    omega
  rw [rng_get l] at e
  exact (Option.some.inj e).symm
theorem isDig : ∀ c : Nat, c < 128 → Unicode.isDigit c = (decide (48 ≤ c) && decide (c ≤ 57)) := by decide +kernel
theorem digB_is {z : List Nat} (h : ∀ c ∈ z, c < 128) : digB z = (decide (z ≠ []) && z.all fun c => decide (48 ≤ c) && decide (c ≤ 57)) := by
  unfold digB Txt.isdigit
  rw [SX.S_len]
  have e : (SX.S z).cps.all Unicode.isDigit = z.all Unicode.isDigit := by
    show z.toArray.all _ = _
    simp
  rw [e]
  have e2 : z.all Unicode.isDigit = z.all fun c => decide (48 ≤ c) && decide (c ≤ 57) := by
    rw [Bool.eq_iff_iff, List.all_eq_true, List.all_eq_true]
    exact ⟨fun q c hc => by rw [← isDig c (h c hc)]; exact q c hc, fun q c hc => by rw [isDig c (h c hc)]; exact q c hc⟩
  rw [e2]
  cases z with
  | nil => rfl
  | cons c z => simp
theorem digB_of {z : List Nat} (h : AllDigits z) (hn : z ≠ []) : digB z = true := by
  rw [digB_is fun c hc => by have := h c hc; omega, Bool.and_eq_true]
  exact ⟨by simpa using hn, List.all_eq_true.mpr fun c hc => by have := h c hc; simp; omega⟩
theorem digits_of {z : List Nat} (ha : ∀ c ∈ z, c < 128) (h : digB z = true) : AllDigits z ∧ z ≠ [] := by
  rw [digB_is ha, Bool.and_eq_true] at h
  refine ⟨fun c hc => ?_, by simpa using h.1⟩
  have := List.all_eq_true.mp h.2 c hc
  simp at this
  omega
theorem part_at {p q : List Nat} {c : Nat} (h : c ∉ p) : partL (p ++ c :: q) [c] = (p, [c], q) := by
  have e := SX.partition_some (a := p ++ c :: q) (b := [c]) (by simp) (SX.par_head (sep := []) q h)
  unfold partL
  rw [e]
  rfl
theorem part_no {p : List Nat} {c : Nat} (h : c ∉ p) : partL p [c] = (p, [], []) := by
  unfold partL
  rw [SX.partition_none (by simp) (SX.par_head_none (sep := []) h)]
  rfl
theorem lj_is {z : List Nat} {n : Int} {c : Nat} : ljL z n [c] = z ++ List.replicate (n.toNat - z.length) c := by
  unfold ljL Txt.ljustF
  rw [SX.S_len]
  split
  · rw [show n.toNat - z.length = 0 by omega]
    simp [tlS, SX.S]
  · show tlS (Builtin.Str.padded _ _ _ _) = _
    unfold Builtin.Str.padded
    simp [tlS, SX.S]
/-- k digits -/
def pad : Nat → Nat → List Nat
  | 0, _ => []
  | k + 1, r => pad k (r / 10) ++ [48 + r % 10]
theorem pad_len : ∀ k r, (pad k r).length = k
  | 0, _ => rfl
  | k + 1, r => by
    unfold pad
    rw [List.length_append, pad_len k]
    rfl
theorem pad_dig : ∀ k r, AllDigits (pad k r)
  | 0, _ => fun c hc => nomatch hc
  | k + 1, r => fun c hc => by
    unfold pad at hc
    rcases List.mem_append.mp hc with hc | hc
    · exact pad_dig k _ c hc
    · rw [List.mem_singleton.mp hc]
      omega
theorem val_snoc (l : List Nat) (d : Nat) : digitsVal (l ++ [48 + d]) = digitsVal l * 10 + d := by
  rw [digitsVal_snoc]
  omega
theorem pad_val (l : List Nat) : ∀ k r, r < 10 ^ k → digitsVal (l ++ pad k r) = digitsVal l * 10 ^ k + r
  | 0, r, h => by
    unfold pad
    rw [List.append_nil]
    simp at h
    omega
  | k + 1, r, h => by
    unfold pad
    rw [← List.append_assoc, val_snoc, pad_val l k (r / 10) (by rw [Nat.pow_succ] at h; omega), Nat.pow_succ, Nat.add_mul, Nat.mul_assoc]
    omega
theorem num_pad : ∀ k n, 10 ^ k ≤ n → TL.numL n = TL.numL (n / 10 ^ k) ++ pad k (n % 10 ^ k)
  | 0, n, h => by
    unfold pad
    rw [Nat.pow_zero, Nat.div_one, List.append_nil]
  | k + 1, n, h => by
    have hp : 0 < 10 ^ k := Nat.pow_pos (by decide)
    have h10 : 10 ≤ n := by
      rw [Nat.pow_succ] at h
      have : 1 * 10 ≤ 10 ^ k * 10 := Nat.mul_le_mul_right 10 hp
      omega
    have hk : 10 ^ k ≤ n / 10 := by
      rw [Nat.pow_succ] at h
      omega
    rw [TL.numL_step h10, num_pad k (n / 10) hk, show pad (k + 1) (n % 10 ^ (k + 1)) = pad k (n % 10 ^ (k + 1) / 10) ++ [48 + n % 10 ^ (k + 1) % 10] from rfl]
    rw [List.append_assoc, Nat.pow_succ, Nat.div_div_eq_div_mul, Nat.mul_comm 10 (10 ^ k)]
    have e1 : n % (10 ^ k * 10) / 10 = n / 10 % 10 ^ k := by
      rw [Nat.mul_comm (10 ^ k) 10, Nat.mod_mul_right_div_self]
    have e2 : n % (10 ^ k * 10) % 10 = n % 10 := Nat.mod_mul_left_mod n (10 ^ k) 10
    rw [e1, e2]
/-- zeros ahead -/
theorem pad_small : ∀ k n, n < 10 ^ k → List.replicate (k - (TL.numL n).length) 48 ++ TL.numL n = (if k = 0 then TL.numL n else pad k n)
  | 0, n, _ => by simp
  | 1, n, h => by
    rw [TL.numL_lt (by simpa using h)]
    unfold pad pad
    simp at h ⊢
    omega
  | k + 2, n, h => by
    rw [if_neg (by omega)]
    by_cases c : n < 10
    · have q := pad_small (k + 1) 0 (Nat.pow_pos (by decide))
      rw [if_neg (by omega), TL.numL_lt (by decide : 0 < 10)] at q
      rw [TL.numL_lt c]
      show List.replicate (k + 2 - 1) 48 ++ [48 + n] = pad (k + 1) (n / 10) ++ [48 + n % 10]
      rw [Nat.div_eq_of_lt c, Nat.mod_eq_of_lt c, ← q]
      show _ = (List.replicate (k + 1 - 1) 48 ++ [48]) ++ [48 + n]
      rw [show k + 2 - 1 = (k + 1 - 1) + 1 by omega, List.replicate_succ']
    · have q := pad_small (k + 1) (n / 10) (by rw [Nat.pow_succ] at h; omega)
      rw [if_neg (by omega)] at q
      rw [TL.numL_step (by omega), List.length_append]
      show _ = pad (k + 1) (n / 10) ++ [48 + n % 10]
      rw [← q, ← List.append_assoc]
      show List.replicate (k + 2 - ((TL.numL (n / 10)).length + 1)) 48 ++ _ ++ _ = _
      rw [show k + 2 - ((TL.numL (n / 10)).length + 1) = k + 1 - (TL.numL (n / 10)).length by omega]
theorem zf_is {n : Nat} {k : Int} : zfL (TL.numL n) k = List.replicate (k.toNat - (TL.numL n).length) 48 ++ TL.numL n := by
  unfold zfL Txt.zfill
  rw [SX.S_len]
  split
  · rw [show k.toNat - (TL.numL n).length = 0 by omega]
    simp [tlS, SX.S]
  · unfold zfilled
    have hn := TL.numL_ne n
    have hd := TL.numL_digits n
    cases hc : TL.numL n with
    | nil => exact absurd hc hn
    | cons c l =>
      rw [hc] at hd
      have h0 := hd c List.mem_cons_self
      have e : (SX.S (c :: l)).cps[0]? = some c := by simp [SX.S]
      rw [e]
      split
      · rename_i q
        have := Option.some.inj q
        omega
      · rename_i q
        have := Option.some.inj q
        omega
      · unfold Builtin.Str.padded
        simp [tlS, SX.S]
theorem int_dig {z : List Nat} (h : AllDigits z) (hn : z ≠ []) (hl : z.length ≤ 640) : PySem.intText? (SX.S z) = some ((digitsVal z : Nat) : Int) :=
  SX.int_S (List.all_eq_true.mpr fun c hc => by have := h c hc; simp; omega) hn (by omega)
theorem numT_dig {z : List Nat} (h : AllDigits z) (hn : z ≠ []) (hl : z.length ≤ 640) : numT z = ((digitsVal z : Nat) : Int) := by
  unfold numT
  rw [int_dig h hn hl]
  rfl
theorem decL_len {n : Int} (h0 : 0 ≤ n) (h : n < 10000000000000) : (decL n).length ≤ 13 := TL.numL_len (by decide) (by omega)
theorem decL_dig (n : Int) : AllDigits (decL n) := TL.numL_digits _
theorem zf_len {n D : Int} (h0 : 0 ≤ n) (h : n < 10000000000000) (hD : D ≤ 3) : (zfL (decL n) D).length ≤ 16 := by
  have l := decL_len h0 h
  unfold decL at *
  rw [zf_is, List.length_append, List.length_replicate]
  omega
theorem lj_len (z : List Nat) (n : Int) (c : Nat) : (ljL z n [c]).length ≤ z.length + n.toNat := by
  rw [lj_is, List.length_append, List.length_replicate]
  omega
theorem pad_ok {i : Int} (h : 0 ≤ i ∧ i ≤ 1000) : PadOk i = true := by
  unfold PadOk fitsSsize Builtin.Str.tooLong
  have := sizeLine_eq
  simp
  omega
theorem cutL_mem {α : Type} {xs : List α} {l u : Option Int} {x : α} (h : x ∈ cutL xs l u) : x ∈ xs := List.mem_of_mem_drop (List.mem_of_mem_take h)
theorem part_or (z : List Nat) (c : Nat) : (c ∉ z ∧ partL z [c] = (z, [], [])) ∨ ∃ p q, z = p ++ c :: q ∧ c ∉ p ∧ partL z [c] = (p, [c], q) := by
  by_cases h : c ∈ z
  · right
    obtain ⟨p, q, e, hp⟩ : ∃ p q, z = p ++ c :: q ∧ c ∉ p := by
      induction z with
      | nil => cases h
      | cons a z ih =>
        by_cases ha : a = c
        · exact ⟨[], z, by rw [ha]; rfl, by simp⟩
        · rcases List.mem_cons.mp h with e | h
          · exact absurd e.symm ha
          · obtain ⟨p, q, e, hp⟩ := ih h
            exact ⟨a :: p, q, by rw [e]; rfl, fun m => by
              rcases List.mem_cons.mp m with e | m
              · exact ha e.symm
              · exact hp m⟩
    exact ⟨p, q, e, hp, by rw [e]; exact part_at hp⟩
  · exact .inl ⟨h, part_no h⟩
theorem part_le (z : List Nat) (c : Nat) : ((partL z [c]).1.length ≤ z.length ∧ ∀ x ∈ (partL z [c]).1, x ∈ z) ∧ (partL z [c]).2.2.length ≤ z.length ∧ ∀ x ∈ (partL z [c]).2.2, x ∈ z := by
  rcases part_or z c with ⟨_, e⟩ | ⟨p, q, ez, _, e⟩
  · rw [e]
    exact ⟨⟨Nat.le_refl _, fun _ h => h⟩, Nat.zero_le _, fun _ h => nomatch h⟩
  · rw [e, ez]
    refine ⟨⟨?_, fun x h => List.mem_append_left _ h⟩, ?_, fun x h => List.mem_append_right _ (List.mem_cons_of_mem _ h)⟩ <;> simp
    omega
theorem all_cat {P : Nat → Prop} {a b : List Nat} (h : ∀ c ∈ a, P c) (k : ∀ c ∈ b, P c) : ∀ c ∈ a ++ b, P c := fun c hc => (List.mem_append.mp hc).elim (h c) (k c)
theorem dig_asc {z : List Nat} (h : AllDigits z) : ∀ c ∈ z, c < 128 := fun c hc => by
  have := h c hc
  omega
end J

/-! what an expression does that may change cells: k tells what is known of the value, the frozen part and the cells behind it -/
namespace J
open PySem L2 PyProof.Rows
def EC (X : Cx) (e : Expr) (σ : L2.St) (G : Hp) (cs : Cells) (k : V → Hp → Cells → Prop) : Prop :=
  ∀ G1 H, Same G G1 → Desc G1 cs H → ∀ Q : VK, (∀ G2 H2 cs2 v, Same G1 G2 → Desc G2 cs2 H2 → k v G2 cs2 → Q v H2) → wE X e σ H Q
def TC (X : Cx) (e : Expr) (σ : L2.St) (G : Hp) (cs : Cells) (k : Bool → Hp → Cells → Prop) : Prop :=
  ∀ G1 H, Same G G1 → Desc G1 cs H → ∀ Q : Bool → Hp → Prop, (∀ G2 H2 cs2 b, Same G1 G2 → Desc G2 cs2 H2 → k b G2 cs2 → Q b H2) → wT X e σ H Q
def WC (X : Cx) (e : Expr) (σ : L2.St) (G : Hp) (cs : Cells) (k : Bool → Hp → Cells → Prop) : Prop :=
  ∀ G1 H, Same G G1 → Desc G1 cs H → ∀ Q : Bool → Hp → Prop, (∀ G2 H2 cs2 b, Same G1 G2 → Desc G2 cs2 H2 → k b G2 cs2 → Q b H2) → wW X e σ H Q
def AC (X : Cx) (es : List Expr) (σ : L2.St) (G : Hp) (cs : Cells) (k : List V → Hp → Cells → Prop) : Prop :=
  ∀ G1 H, Same G G1 → Desc G1 cs H → ∀ Q : List V → Hp → Prop, (∀ G2 H2 cs2 vs, Same G1 G2 → Desc G2 cs2 H2 → k vs G2 cs2 → Q vs H2) → wA X es σ H Q
/-- an operator's reading -/
def RC (r : R2) (x y : V) (G : Hp) (cs : Cells) (k : V → Hp → Cells → Prop) : Prop :=
  ∀ G1 H, Same G G1 → Desc G1 cs H → ∀ Q : VK, (∀ G2 H2 cs2 v, Same G1 G2 → Desc G2 cs2 H2 → k v G2 cs2 → Q v H2) → r x y H Q
section
variable {X : Cx} {σ : L2.St} {G : Hp} {cs cs' : Cells} {e a b c : Expr} {es : List Expr} {pos p : Pos} {P : Hp → V → Prop} {k : V → Hp → Cells → Prop} {kb : Bool → Hp → Cells → Prop} {ka : List V → Hp → Cells → Prop}
theorem EC.perm (p : cs.Perm cs') (h : EC X e σ G cs' k) : EC X e σ G cs k := fun G1 H s d Q q => h G1 H s (d.perm p) Q q
theorem ec_D (h : D X e σ G cs P) (c : ∀ v G1, Same G G1 → P G1 v → k v G1 cs) : EC X e σ G cs k := fun G1 H s d Q q => h G1 H s d Q fun G2 H2 v s2 d2 hv => q G2 H2 cs v s2 d2 (c v G2 (s.trans s2) hv)
theorem ec_N {α : Type} {r : α → Hp → V → Prop} {xs : List α} (h : N X e σ G cs r xs) (c : ∀ l vs G1, Same G G1 → Rs r G1 xs vs → k (.ref l) G1 ((l, .lst vs) :: cs)) : EC X e σ G cs k := fun G1 H s d Q q =>
  h G1 H s d Q fun G2 H2 l vs s2 d2 hr => q G2 H2 _ _ s2 d2 (c l vs G2 (s.trans s2) hr)
theorem tc_T {v : Bool} (h : T X e σ G cs v) (c : ∀ G1, Same G G1 → kb v G1 cs) : TC X e σ G cs kb := fun G1 H s d Q q => h G1 H s d Q fun G2 H2 s2 d2 => q G2 H2 cs v s2 d2 (c G2 (s.trans s2))
theorem tc_k {kb' : Bool → Hp → Cells → Prop} (h : TC X e σ G cs kb') (c : ∀ b G1 cs1, Same G G1 → kb' b G1 cs1 → ∃ cs2, cs1.Perm cs2 ∧ kb b G1 cs2) : TC X e σ G cs kb := fun G1 H s d Q q => h G1 H s d Q fun G2 H2 cs2 b s2 d2 hk => by
  obtain ⟨cs3, pm, h3⟩ := c b G2 cs2 (s.trans s2) hk
  exact q G2 H2 cs3 b s2 (d2.perm pm) h3
theorem ec_k {k' : V → Hp → Cells → Prop} (h : EC X e σ G cs k') (c : ∀ v G1 cs1, Same G G1 → k' v G1 cs1 → ∃ cs2, cs1.Perm cs2 ∧ k v G1 cs2) : EC X e σ G cs k := fun G1 H s d Q q => h G1 H s d Q fun G2 H2 cs2 v s2 d2 hk => by
  obtain ⟨cs3, pm, h3⟩ := c v G2 cs2 (s.trans s2) hk
  exact q G2 H2 cs3 v s2 (d2.perm pm) h3
theorem tc_E (h : EC X e σ G cs fun v G1 cs1 => ∃ z, v = .bl z ∧ kb z G1 cs1) (he : ∀ whole, isTrue e X.env whole = (do let v ← whole; standAt e.pos; holding [v] (truthy v)) := by intro _; rfl) : TC X e σ G cs kb := fun G1 H s d Q q =>
  uT (pt_val (sE X e) he) (h G1 H s d _ fun G2 H2 cs2 v s2 d2 ⟨z, e1, hk⟩ => ⟨z, e1, q G2 H2 cs2 z s2 d2 hk⟩)
theorem tc_not (h : TC X a σ G cs fun z G1 cs1 => kb (!z) G1 cs1) : TC X (.UnaryOp .Not a pos) σ G cs kb := fun G1 H s d Q q => uT (pt_not (sT X a)) (h G1 H s d _ fun G2 H2 cs2 z s2 d2 hk => q G2 H2 cs2 (!z) s2 d2 hk)
theorem tc_w (h : WC X e σ G cs kb) : TC X e σ G cs kb := fun G1 H s d Q q => uT (PW.pt (sW X e)) (h G1 H s d Q q)
theorem wc_and1 (h : TC X a σ G cs kb) : WC X (.BoolOp .And [a] pos) σ G cs kb := fun G1 H s d Q q => uW (pw_and1 (sT X a)) (h G1 H s d Q q)
theorem wc_or1 (h : TC X a σ G cs kb) : WC X (.BoolOp .Or [a] pos) σ G cs kb := fun G1 H s d Q q => uW (pw_or1 (sT X a)) (h G1 H s d Q q)
theorem wc_and {rest : List Expr} (h : TC X a σ G cs fun z G1 cs1 => (z = true → WC X (.BoolOp .And (b :: rest) pos) σ G1 cs1 kb) ∧ (z = false → kb false G1 cs1)) : WC X (.BoolOp .And (a :: b :: rest) pos) σ G cs kb := fun G1 H s d Q q =>
  uW (pw_and (sT X a) (sW X _)) (h G1 H s d _ fun G2 H2 cs2 z s2 d2 hk => by
    cases z with
    | false => exact iteF (q G2 H2 cs2 false s2 d2 (hk.2 rfl))
    | true => exact iteT (hk.1 rfl G2 H2 (Same.refl _) d2 Q fun G3 H3 cs3 w s3 d3 hw => q G3 H3 cs3 w (s2.trans s3) d3 hw))
theorem wc_or {rest : List Expr} (h : TC X a σ G cs fun z G1 cs1 => (z = false → WC X (.BoolOp .Or (b :: rest) pos) σ G1 cs1 kb) ∧ (z = true → kb true G1 cs1)) : WC X (.BoolOp .Or (a :: b :: rest) pos) σ G cs kb := fun G1 H s d Q q =>
  uW (pw_or (sT X a) (sW X _)) (h G1 H s d _ fun G2 H2 cs2 z s2 d2 hk => by
    cases z with
    | true => exact iteT (q G2 H2 cs2 true s2 d2 (hk.2 rfl))
    | false => exact iteF (hk.1 rfl G2 H2 (Same.refl _) d2 Q fun G3 H3 cs3 w s3 d3 hw => q G3 H3 cs3 w (s2.trans s3) d3 hw))
theorem ec_bin {op : Operator} {r : R2} (ho : OpR X (binaryOp op) r) (h : EC X a σ G cs fun x G1 cs1 => EC X b σ G1 cs1 fun y G2 cs2 => RC r x y G2 cs2 k) : EC X (.BinOp a op b pos) σ G cs k := fun G1 H s d Q q =>
  uE (pe_op ho (sE X a) (sE X b)) (h G1 H s d _ fun G2 H2 cs2 x s2 d2 hx => hx G2 H2 (Same.refl _) d2 _ fun G3 H3 cs3 y s3 d3 hy => hy G3 H3 (Same.refl _) d3 Q fun G4 H4 cs4 v s4 d4 hv => q G4 H4 cs4 v ((s2.trans s3).trans s4) d4 hv)
theorem ec_cmp {op : CmpOp} {r : R2} (ho : OpR X (compareOp op) r) (hm : behindInMarks op b = false) (h : EC X a σ G cs fun x G1 cs1 => EC X b σ G1 cs1 fun y G2 cs2 => RC r x y G2 cs2 k) : EC X (.Compare a [op] [b] pos) σ G cs k := fun G1 H s d Q q =>
  uE (pe_cmpR ho (sE X a) (sE X b) hm) (h G1 H s d _ fun G2 H2 cs2 x s2 d2 hx => hx G2 H2 (Same.refl _) d2 _ fun G3 H3 cs3 y s3 d3 hy => hy G3 H3 (Same.refl _) d3 Q fun G4 H4 cs4 v s4 d4 hv => q G4 H4 cs4 v ((s2.trans s3).trans s4) d4 hv)
theorem tc_cmp {op : CmpOp} {r : R2} (ho : OpR X (compareOp op) r) (hm : behindInMarks op b = false) (h : EC X a σ G cs fun x G1 cs1 => EC X b σ G1 cs1 fun y G2 cs2 => RC r x y G2 cs2 fun v G3 cs3 => ∃ z, v = .bl z ∧ kb z G3 cs3) : TC X (.Compare a [op] [b] pos) σ G cs kb := fun G1 H s d Q q =>
  uT (pt_cmpR ho (sE X a) (sE X b) hm) (h G1 H s d _ fun G2 H2 cs2 x s2 d2 hx => hx G2 H2 (Same.refl _) d2 _ fun G3 H3 cs3 y s3 d3 hy => hy G3 H3 (Same.refl _) d3 _ fun G4 H4 cs4 v s4 d4 ⟨z, e1, hk⟩ => ⟨z, e1, q G4 H4 cs4 z ((s2.trans s3).trans s4) d4 hk⟩)
theorem ec_ix {r : R2} (hr : IxR X r) (h : EC X a σ G cs fun x G1 cs1 => EC X b σ G1 cs1 fun y G2 cs2 => RC r x y G2 cs2 k) (hs : PlainIx b := by exact fun _ _ => rfl) : EC X (.Subscript a b pos) σ G cs k := fun G1 H s d Q q =>
  uE (pe_ix hr (sE X a) (sE X b) hs) (h G1 H s d _ fun G2 H2 cs2 x s2 d2 hx => hx G2 H2 (Same.refl _) d2 _ fun G3 H3 cs3 y s3 d3 hy => hy G3 H3 (Same.refl _) d3 Q fun G4 H4 cs4 v s4 d4 hv => q G4 H4 cs4 v ((s2.trans s3).trans s4) d4 hv)
theorem ac_nil (h : ka [] G cs) (mono : ∀ G1, Same G G1 → ka [] G cs → ka [] G1 cs := by intro _ _ h; exact h) : AC X [] σ G cs ka := fun G1 H s d Q q => uA pa_nil (q G1 H cs [] (Same.refl _) d (mono G1 s h))
theorem ac_nil' (h : ∀ G1, Same G G1 → ka [] G1 cs) : AC X [] σ G cs ka := fun G1 H s d Q q => uA pa_nil (q G1 H cs [] (Same.refl _) d (h G1 s))
theorem ac_cons (h : EC X e σ G cs fun v G1 cs1 => AC X es σ G1 cs1 fun vs G2 cs2 => ka (v :: vs) G2 cs2) (hst : starEach (e :: es) X.env = (false, eval e X.env) :: starEach es X.env := by exact star_plain rfl) : AC X (e :: es) σ G cs ka := fun G1 H s d Q q =>
  uA (pa_cons (sE X e) (sA X es) hst) (h G1 H s d _ fun G2 H2 cs2 v s2 d2 hv => hv G2 H2 (Same.refl _) d2 _ fun G3 H3 cs3 ws s3 d3 hw => q G3 H3 cs3 _ (s2.trans s3) d3 hw)
/-- all arguments plain -/
theorem ac_A {Ps : Hp → List V → Prop} (h : A X es σ G cs Ps) (c : ∀ vs G1, Same G G1 → Ps G1 vs → ka vs G1 cs) : AC X es σ G cs ka := fun G1 H s d Q q => h G1 H s d Q fun G2 H2 vs s2 d2 hv => q G2 H2 cs vs s2 d2 (c vs G2 (s.trans s2) hv)
theorem ec_tup {kk : Nat} (h : AC X es σ G cs fun vs G1 cs1 => vs.length ≤ 16777216 ∧ ∀ l G2, Same G1 G2 → SqT X.K G2 l vs → k (.ref l) G2 cs1) : EC X (.Tuple es kk pos) σ G cs k := fun G1 H s d Q q =>
  uE (pe_tup (sA X es)) (h G1 H s d _ fun G2 H2 cs2 vs s2 d2 hv => ⟨sl_small hv.1, fun l hl => by
    have sf : Same G2 (upd G2 l (.tup vs)) := Same.fresh d2.same hl _
    exact q _ _ cs2 _ (s2.trans sf) (d2.new hl _) (hv.2 l _ sf (SqT.of upd_same))⟩)
theorem ec_lst (h : AC X es σ G cs fun vs G1 cs1 => vs.length ≤ 16777216 ∧ ∀ l G2, Same G1 G2 → SqL X.K G2 l vs → k (.ref l) G2 cs1) : EC X (.List es pos) σ G cs k := fun G1 H s d Q q =>
  uE (pe_lst (sA X es)) (h G1 H s d _ fun G2 H2 cs2 vs s2 d2 hv => ⟨sl_small hv.1, fun l hl => by
    have sf : Same G2 (upd G2 l (.lst vs)) := Same.fresh d2.same hl _
    exact q _ _ cs2 _ (s2.trans sf) (d2.new hl _) (hv.2 l _ sf (SqL.of upd_same))⟩)
theorem ec_lstN (h : AC X es σ G cs fun vs G1 cs1 => vs.length ≤ 16777216 ∧ ∀ l, k (.ref l) G1 ((l, .lst vs) :: cs1)) : EC X (.List es pos) σ G cs k := fun G1 H s d Q q =>
  uE (pe_lst (sA X es)) (h G1 H s d _ fun G2 H2 cs2 vs s2 d2 hv => ⟨sl_small hv.1, fun l hl => q _ _ _ _ s2 (d2.newCell hl _) (hv.2 l)⟩)
/-! operators, by what is known of the operands -/
section
variable {i j : Int} {x y : V} {z w : List Nat}
theorem rc_int {f : Int → Int → V} (hx : rI i G x) (hy : rI j G y) (c : ∀ G1, Same G G1 → k (f i j) G1 cs) : RC (rI0 f) x y G cs k := fun G1 H s d Q q => ⟨i, j, hx, hy, q G1 H cs _ (Same.refl _) d (c G1 s)⟩
theorem rc_intC {C : Int → Int → Prop} {f : Int → Int → V} (hx : rI i G x) (hy : rI j G y) (h : C i j) (c : ∀ G1, Same G G1 → k (f i j) G1 cs) : RC (L2.rI C f) x y G cs k := fun G1 H s d Q q => ⟨i, j, hx, hy, h, q G1 H cs _ (Same.refl _) d (c G1 s)⟩
theorem rc_eqI (hx : rI i G x) (hy : rI j G y) (c : ∀ G1, Same G G1 → k (.bl (decide (i = j))) G1 cs) : RC rEq x y G cs k := fun G1 H s d Q q => c_eqI (G1 := G) hx hy (q G1 H cs _ (Same.refl _) d (c G1 s))
theorem rc_neI (hx : rI i G x) (hy : rI j G y) (c : ∀ G1, Same G G1 → k (.bl (!decide (i = j))) G1 cs) : RC rNe x y G cs k := fun G1 H s d Q q => c_neI (G1 := G) hx hy (q G1 H cs _ (Same.refl _) d (c G1 s))
theorem rc_eqS (hx : rS z G x) (hy : rS w G y) (c : ∀ G1, Same G G1 → k (.bl (decide (z = w))) G1 cs) : RC rEq x y G cs k := fun G1 H s d Q q => c_eqS (G1 := G) hx hy (q G1 H cs _ (Same.refl _) d (c G1 s))
theorem rc_neS (hx : rS z G x) (hy : rS w G y) (c : ∀ G1, Same G G1 → k (.bl (!decide (z = w))) G1 cs) : RC rNe x y G cs k := fun G1 H s d Q q => c_neS (G1 := G) hx hy (q G1 H cs _ (Same.refl _) d (c G1 s))
theorem rc_cat (hx : rS z G x) (hy : rS w G y) (h : z.length + w.length ≤ sizeLine) (c : ∀ G1, Same G G1 → k (.str (SX.S (z ++ w))) G1 cs) : RC (fun x y H Q => ∃ i j, x = .str i ∧ y = .str j ∧ i.length + j.length ≤ sizeLine ∧ Q (.str (i ++ j)) H) x y G cs k := fun G1 H s d Q q =>
  ⟨SX.S z, SX.S w, hx, hy, by rw [SX.S_len, SX.S_len]; exact h, by rw [SX.S_cat]; exact q G1 H cs _ (Same.refl _) d (c G1 s)⟩
theorem rc_ixS {n : Nat} (hx : rS z G x) (hy : rI i G y) (hl : z.length ≤ sizeLine) (h : atI z i = some n) (c : ∀ G1, Same G G1 → k (.str (SX.S [n])) G1 cs) : RC rIxS x y G cs k := fun G1 H s d Q q =>
  ⟨SX.S z, i, n, hx, hy, by rw [SX.S_len]; exact hl, h, q G1 H cs _ (Same.refl _) d (c G1 s)⟩
theorem rc_ixL {α : Type} {r : α → Hp → V → Prop} [∀ x, Mono (r x)] {xs : List α} {u : α} (hx : rdL X.K cs r xs G x) (hy : rI i G y) (h : atI xs i = some u) (c : ∀ v G1, Same G G1 → r u G1 v → k v G1 cs) : RC (rIxL X.K) x y G cs k := fun G1 H s d Q q => by
  obtain ⟨l, vs, e, hl, hr⟩ := (Mono.mono s hx).sq d
  obtain ⟨v, hv, hp⟩ := atI_rs hr h
  exact ⟨l, vs, i, v, e, hy, hl, hv, q G1 H cs v (Same.refl _) d (c v G1 s hp)⟩
theorem rc_ixT {α : Type} {r : α → Hp → List V → Prop} [∀ x, MonoA (r x)] {u : α} {n : Nat} (hx : rT X.K r u G x) (hy : rI (n : Int) G y) (hat : At (r u) n P) (c : ∀ v G1, Same G G1 → P G1 v → k v G1 cs) : RC (rIxT X.K) x y G cs k := fun G1 H s d Q q => by
  obtain ⟨l, vs, e, hl, hr⟩ := Mono.mono s hx
  obtain ⟨v, hv, hp⟩ := hat G1 vs hr
  exact ⟨l, vs, (n : Int), v, e, hy, seqT d.same hl, atI_nat hv, q G1 H cs v (Same.refl _) d (c v G1 s hp)⟩
theorem rc_eqD {K : PySem.W.Frag} {α : Type} {r : α → Hp → V → Prop} {u v : α} [DecidableEq α] [∀ z, Mono (r z)] [q : EqR K r] (hK : X.K = K) (hx : r u G x) (hy : r v G y) (h1 : q.ok u) (h2 : q.ok v) (hd : q.dep ≤ 64) (c : ∀ G1, Same G G1 → k (.bl (decide (u = v))) G1 cs) : RC (rEqD X.K) x y G cs k := by
  subst hK
  exact fun G1 H s d Q qq => ⟨_, _, q.dp (Mono.mono s hx) d.same, q.dp (Mono.mono s hy) d.same, shp h1 hd, shp h2 hd, by rw [eqv_dec]; exact qq G1 H cs _ (Same.refl _) d (c G1 s)⟩
theorem rc_neD {K : PySem.W.Frag} {α : Type} {r : α → Hp → V → Prop} {u v : α} [DecidableEq α] [∀ z, Mono (r z)] [q : EqR K r] (hK : X.K = K) (hx : r u G x) (hy : r v G y) (h1 : q.ok u) (h2 : q.ok v) (hd : q.dep ≤ 64) (c : ∀ G1, Same G G1 → k (.bl (!decide (u = v))) G1 cs) : RC (rNeD X.K) x y G cs k := by
  subst hK
  exact fun G1 H s d Q qq => ⟨_, _, q.dp (Mono.mono s hx) d.same, q.dp (Mono.mono s hy) d.same, shp h1 hd, shp h2 hd, by rw [eqv_dec]; exact qq G1 H cs _ (Same.refl _) d (c G1 s)⟩
end
end
/-! ### defs that change what they are given -/
/-- i what is given, pre how it lies and which cells mc are its own, post what is behind: the value, the cells -/
def SpM {I O : Type} (pre : I → Hp → Cells → List V → Prop) (post : I → List V → O → Hp → Cells → V → Prop) (m : I → O) : Sp := fun vs H Q _ => ∃ (i : I) (G : Hp) (mc cs : Cells), Desc G (mc ++ cs) H ∧ pre i G mc vs ∧ ∀ v G2 mc2 H2, Same G G2 → Desc G2 (mc2 ++ cs) H2 → post i vs (m i) G2 mc2 v → Q v H2
/-- .. and may raise: an error comes with what is given as it is then -/
def SpME {n : Nat} {I O S : Type} (adr : Fin n → Addr) (pre : I → Hp → Cells → List V → Prop) (post : I → List V → O → Hp → Cells → V → Prop) (perr : I → List V → S → Hp → Cells → Prop) (m : I → Except (Fin n × S) O) : Sp := fun vs H Q E => ∃ (i : I) (G : Hp) (mc cs : Cells), Desc G (mc ++ cs) H ∧ pre i G mc vs ∧
  (match m i with
    | .ok o => ∀ v G2 mc2 H2, Same G G2 → Desc G2 (mc2 ++ cs) H2 → post i vs o G2 mc2 v → Q v H2
    | .error (k, s) => ∀ G2 mc2 H2, Same G G2 → Desc G2 (mc2 ++ cs) H2 → perr i vs s G2 mc2 → E (.ref (adr k)) none H2)
/-- what is wanted at the end of such a def -/
def PoM {ε O : Type} (cs : Cells) (post : O → Hp → Cells → V → Prop) (perr : ε → Hp → Cells → Prop) : Po ε O Empty O :=
  { nx := fun o _ G2 cs2 => ∃ loc mc2, cs2.Perm (loc ++ (mc2 ++ cs)) ∧ post o G2 mc2 .non, lp := fun l => l.elim, rt := fun o G2 cs2 v => ∃ loc mc2, cs2.Perm (loc ++ (mc2 ++ cs)) ∧ post o G2 mc2 v, er := fun k _ G2 cs2 => ∃ loc mc2, cs2.Perm (loc ++ (mc2 ++ cs)) ∧ perr k G2 mc2 }
def Out.valM {R : Type} (m : Out Empty R Empty R) : R := match m with
  | .nx r => r
  | .bk l => l.elim
  | .ct l => l.elim
  | .rt r => r
  | .er e => e.elim
def Out.resM {ε R : Type} (m : Out ε R Empty R) : Except ε R := match m with
  | .nx r => .ok r
  | .bk l => l.elim
  | .ct l => l.elim
  | .rt r => .ok r
  | .er e => .error e
@[simp] theorem valM_rt {R : Type} (r : R) : (Out.rt r : Out Empty R Empty R).valM = r := rfl
@[simp] theorem valM_nx {R : Type} (r : R) : (Out.nx r : Out Empty R Empty R).valM = r := rfl
@[simp] theorem resM_rt {ε R : Type} (r : R) : (Out.rt r : Out ε R Empty R).resM = .ok r := rfl
@[simp] theorem resM_nx {ε R : Type} (r : R) : (Out.nx r : Out ε R Empty R).resM = .ok r := rfl
@[simp] theorem resM_er {ε R : Type} (k : ε) : (Out.er k : Out ε R Empty R).resM = .error k := rfl
section
variable {P : Program} {w : World} {K : PySem.W.Frag} {mg : Str → Option Value} {base : Heap}
theorem fn_mkM {I O : Type} {x : Str} {st : Stmt} {f : Addr} {fd : FuncData} {N ps : List Str} {k : Nat} {pre : I → Hp → Cells → List V → Prop} {post : I → List V → O → Hp → Cells → V → Prop} (F : Fun K x x st f fd) (S : FnScope N ps (defScope st)) (b : Binds K fd ps []) (hmg : mg x = some (.ref f))
    (body : I → Out Empty O Empty O) (len : ∀ i G mc vs, pre i G mc vs → vs.length = ps.length)
    (h : ∀ (cdv : Value) (A : Around) (outer : List Env) (s : Shared) (H : Hp) (E : XK) (i : I) (G : Hp) (mc cs : Cells) (vs : List V), Room k (A.deeper (envOfC x (defScope st) s.heap.objs.size f cdv)) → pre i G mc vs →
      B (cxOf CX0 P w K mg base N x (defScope st) f cdv A outer s H E).nox (fun e _ _ => e.elim) (defBody st) (start N vs) G (mc ++ cs) (PoM cs (post i vs) (fun e _ _ => e.elim)) (body i)) :
    Fn0 P w K mg base CX0 (k + 1) x ps.length (SpM pre post fun i => (body i).valM) := by
  refine ⟨f, fd, ps, F.ok S (fun vs H Q E hs => ?_) (fun cdv A outer s H vs Q E hr hs => ?_), hmg, F.kp, b, rfl⟩
  · obtain ⟨i, G, mc, cs, _, hp, _⟩ := hs
    exact len i G mc vs hp
  · obtain ⟨i, G, mc, cs, d, hp, q⟩ := hs
    refine ⟨_, sSs _ (defBody st), h cdv A outer s H E i G mc cs vs hr hp H d _ ?_⟩
    cases hb : body i with
    | nx u =>
      rintro σ2 G2 cs2 H2 s2 d2 ⟨loc, mc2, pm, hr2⟩
      refine q _ G2 mc2 H2 s2 (d2.perm pm).drop ?_
      dsimp only
      rw [hb]
      exact hr2
    | bk l => exact l.elim
    | ct l => exact l.elim
    | rt o =>
      rintro v G2 cs2 H2 s2 d2 ⟨loc, mc2, pm, hr2⟩
      refine q _ G2 mc2 H2 s2 (d2.perm pm).drop ?_
      dsimp only
      rw [hb]
      exact hr2
    | er e => exact e.elim
theorem fn_mkME {n : Nat} {I O S : Type} {adr : Fin n → Addr} {x : Str} {st : Stmt} {f : Addr} {fd : FuncData} {N ps : List Str} {k : Nat} {pre : I → Hp → Cells → List V → Prop} {post : I → List V → O → Hp → Cells → V → Prop} {perr : I → List V → S → Hp → Cells → Prop} (F : Fun K x x st f fd) (Sc : FnScope N ps (defScope st)) (b : Binds K fd ps []) (hmg : mg x = some (.ref f))
    (body : I → Out (Fin n × S) O Empty O) (len : ∀ i G mc vs, pre i G mc vs → vs.length = ps.length)
    (h : ∀ (cdv : Value) (A : Around) (outer : List Env) (s : Shared) (H : Hp) (E : XK) (i : I) (G : Hp) (mc cs : Cells) (vs : List V), Room k (A.deeper (envOfC x (defScope st) s.heap.objs.size f cdv)) → pre i G mc vs →
      B (cxOf (L2.CX P w) P w K mg base N x (defScope st) f cdv A outer s H E) (fun e _ H => E (.ref (adr e.1)) none H) (defBody st) (start N vs) G (mc ++ cs) (PoM cs (post i vs) (fun e => perr i vs e.2)) (body i)) :
    Fn0 P w K mg base (L2.CX P w) (k + 1) x ps.length (SpME adr pre post perr fun i => (body i).resM) := by
  refine ⟨f, fd, ps, F.okX Sc (fun vs H Q E hs => ?_) (fun cdv A outer s H vs Q E hr hs => ?_), hmg, F.kp, b, rfl⟩
  · obtain ⟨i, G, mc, cs, _, hp, _⟩ := hs
    exact len i G mc vs hp
  · obtain ⟨i, G, mc, cs, d, hp, q⟩ := hs
    refine ⟨_, sSs _ (defBody st), h cdv A outer s H E i G mc cs vs hr hp H d _ ?_⟩
    dsimp only at q
    cases hb : body i with
    | nx u =>
      rw [hb] at q
      rintro σ2 G2 cs2 H2 s2 d2 ⟨loc, mc2, pm, hr2⟩
      exact q _ G2 mc2 H2 s2 (d2.perm pm).drop hr2
    | bk l => exact l.elim
    | ct l => exact l.elim
    | rt o =>
      rw [hb] at q
      rintro v G2 cs2 H2 s2 d2 ⟨loc, mc2, pm, hr2⟩
      exact q _ G2 mc2 H2 s2 (d2.perm pm).drop hr2
    | er e =>
      rw [hb] at q
      rintro σ2 G2 cs2 H2 s2 d2 ⟨loc, mc2, pm, hr2⟩
      exact q G2 mc2 H2 s2 (d2.perm pm).drop hr2
end
section
variable {X : Cx} {σ : L2.St} {G : Hp} {cs : Cells} {e : Expr} {es : List Expr} {pos p : Pos} {k : V → Hp → Cells → Prop}
theorem ec_callM {I O : Type} {pre : I → Hp → Cells → List V → Prop} {post : I → List V → O → Hp → Cells → V → Prop} {m : I → O} {j l n : Nat} {x : Str} (F : Fn0 X.prog X.w X.K X.mg X.base CX0 j x n (SpM pre post m)) (hr : Room l X.A) (hk : j ≤ l)
    (ha : AC X (e :: es) σ G cs fun vs G1 cs1 => ∃ i mc rest, cs1.Perm (mc ++ rest) ∧ pre i G1 mc vs ∧ ∀ v G2 mc2, Same G1 G2 → post i vs (m i) G2 mc2 v → ∃ cs2, (mc2 ++ rest).Perm cs2 ∧ k v G2 cs2) (hg : Gl X x := by rfl) (hd : (x == ("__debug__" : Str)) = false := by decide)
    (he : starEach (e :: es) X.env = (false, eval e X.env) :: starEach es X.env := by exact star_plain rfl) (hpl : (backTo pos (starEach es X.env)).any (·.1) = false := by rfl) : EC X (.Call (.Name x p) (e :: es) [] pos) σ G cs k := by
  obtain ⟨f, fd, ps, F, hm, kp, b, _⟩ := F.ex
  intro G1 H s d Q q
  refine uE (pe_call F (hr.mono hk) hg hm kp b .nil pass0 (sA X _) (hdb := hd) (he := he) (hpl := hpl)) (ha G1 H s d _ fun G2 H2 cs2 vs s2 d2 hvs => ?_)
  obtain ⟨i, mc, rest, pm, hp, hq⟩ := hvs
  refine ⟨i, G2, mc, rest, d2.perm pm, ?_, fun v G3 mc2 H3 s3 d3 hv => ?_⟩
  · rw [List.append_nil]
    exact hp
  · rw [List.append_nil] at hv
    obtain ⟨cs3, pm3, hk3⟩ := hq v G3 mc2 s3 hv
    exact q G3 H3 cs3 v (s2.trans s3) (d3.perm pm3) hk3
/-- a def that changes nothing, its arguments may -/
theorem ec_callP {I O : Type} {pre : I → Hp → List V → Prop} {r : I → O → Hp → V → Prop} {m : I → O} {j l n : Nat} {x : Str} (F : Fn0 X.prog X.w X.K X.mg X.base CX0 j x n (SpP pre r m)) (hr : Room l X.A) (hk : j ≤ l)
    (ha : AC X (e :: es) σ G cs fun vs G1 cs1 => ∃ i, pre i G1 vs ∧ ∀ v G2, Same G1 G2 → r i (m i) G2 v → k v G2 cs1) (hg : Gl X x := by rfl) (hd : (x == ("__debug__" : Str)) = false := by decide)
    (he : starEach (e :: es) X.env = (false, eval e X.env) :: starEach es X.env := by exact star_plain rfl) (hpl : (backTo pos (starEach es X.env)).any (·.1) = false := by rfl) : EC X (.Call (.Name x p) (e :: es) [] pos) σ G cs k := by
  obtain ⟨f, fd, ps, F, hm, kp, b, _⟩ := F.ex
  intro G1 H s d Q q
  refine uE (pe_call F (hr.mono hk) hg hm kp b .nil pass0 (sA X _) (hdb := hd) (he := he) (hpl := hpl)) (ha G1 H s d _ fun G2 H2 cs2 vs s2 d2 hvs => ?_)
  obtain ⟨i, hp, hq⟩ := hvs
  refine ⟨i, G2, cs2, d2, ?_, fun v G3 H3 s3 d3 hv => q G3 H3 _ v (s2.trans s3) d3 (hq v G3 s3 hv)⟩
  rw [List.append_nil]
  exact hp
/-- what a builtin's reading wants -/
def RA (r : List V → Hp → VK → Prop) (vs : List V) (G : Hp) (cs : Cells) (k : V → Hp → Cells → Prop) : Prop :=
  ∀ G1 H, Same G G1 → Desc G1 cs H → ∀ Q : VK, (∀ G2 H2 cs2 v, Same G1 G2 → Desc G2 cs2 H2 → k v G2 cs2 → Q v H2) → r vs H Q
theorem ec_B {x : Str} {id : String} {r : List V → Hp → VK → Prop} (hc : CallR X (.builtin id) r) (hm : X.mg x = none) (ha : AC X (e :: es) σ G cs fun vs G1 cs1 => RA r vs G1 cs1 k)
    (hg : Gl X x := by rfl) (hv : bootBuiltins x = some (.builtin id) := by decide +kernel) (hn : x ≠ "__name__" := by decide) (hd : (x == ("__debug__" : Str)) = false := by decide)
    (he : starEach (e :: es) X.env = (false, eval e X.env) :: starEach es X.env := by exact star_plain rfl) (hpl : (backTo pos (starEach es X.env)).any (·.1) = false := by rfl) : EC X (.Call (.Name x p) (e :: es) [] pos) σ G cs k := fun G1 H s d Q q =>
  uE (pe_callB hc hg hm hv (sA X _) (hn := hn) (hdb := hd) (he := he) (hpl := hpl)) (ha G1 H s d _ fun G2 H2 cs2 vs s2 d2 hv => hv G2 H2 (Same.refl _) d2 Q fun G3 H3 cs3 v s3 d3 h3 => q G3 H3 cs3 v (s2.trans s3) d3 h3)
theorem ec_Ty {x : Str} {id : String} {r : List V → Hp → VK → Prop} (hc : CallR X (.type id) r) (hm : X.mg x = none) (ha : AC X (e :: es) σ G cs fun vs G1 cs1 => RA r vs G1 cs1 k)
    (hg : Gl X x := by rfl) (hv : bootBuiltins x = some (.type id) := by decide +kernel) (hn : x ≠ "__name__" := by decide) (hd : (x == ("__debug__" : Str)) = false := by decide)
    (he : starEach (e :: es) X.env = (false, eval e X.env) :: starEach es X.env := by exact star_plain rfl) (hpl : (backTo pos (starEach es X.env)).any (·.1) = false := by rfl) : EC X (.Call (.Name x p) (e :: es) [] pos) σ G cs k := fun G1 H s d Q q =>
  uE (pe_callTy hc hg hm hv (sA X _) (hn := hn) (hdb := hd) (he := he) (hpl := hpl)) (ha G1 H s d _ fun G2 H2 cs2 vs s2 d2 hv => hv G2 H2 (Same.refl _) d2 Q fun G3 H3 cs3 v s3 d3 h3 => q G3 H3 cs3 v (s2.trans s3) d3 h3)
/-- a list that is given to be changed -/
def mL {α : Type} (r : α → Hp → V → Prop) (xs : List α) (v : V) : Hp → Cells → Prop := fun G mc => ∃ a us, v = .ref a ∧ mc = [(a, .lst us)] ∧ Rs r G xs us
/-- the cell at k ahead of the others -/
theorem perm_to {cs : Cells} {k : Nat} {c : Addr × HO} {ds : Cells} (h : cs[k]? = some c) (p : (cs.eraseIdx k).Perm ds) : cs.Perm (c :: ds) := (perm_at h).trans (p.cons c)
end
section
variable {ε S L R : Type} {X : Cx} {W : ε → L2.St → Hp → Prop} {σ : L2.St} {G : Hp} {cs cs' : Cells} {Φ : Po ε S L R} {m : Out ε S L R} {rest body : List Stmt} {e c o i : Expr} {pos p : Pos}
theorem b_perm (p : cs.Perm cs') (h : B X W rest σ G cs' Φ m) : B X W rest σ G cs Φ m := fun H d E w => h H (d.perm p) E w
theorem b_setC (i : Nat) {x : Str} (hN : X.N.Nodup) (he : EC X e σ G cs fun v G1 cs1 => Same G G1 → B X W rest (σ.set i (some v)) G1 cs1 Φ m) (hi : X.N[i]? = some x := by rfl) (hx : Loc X.env.scope x := by first | exact Or.inl rfl | exact Or.inr rfl)
    (hs : swapsWith e (some (.Name x p)) pos.line X.env = pure false := by rfl) (hf : X.fn x = true ∨ X.env.scope.names.lookup x = some .local := by first | exact .inl rfl | exact .inr rfl) : B X W (.Assign [.Name x p] e pos :: rest) σ G cs Φ m :=
  b_cons (ps_set hN hi hx (sE X e) hs hf) fun H d E w => he G H (Same.refl _) d _ fun G2 H2 cs2 v s2 d2 hv => hv s2 H2 d2 E (w.up s2)
theorem b_exprC (he : EC X e σ G cs fun v G1 cs1 => Same G G1 → B X W rest σ G1 cs1 Φ m) (hs : swapsWith e none pos.line X.env = pure false := by rfl) : B X W (.Expr e pos :: rest) σ G cs Φ m :=
  b_cons (ps_expr (sE X e) hs) fun H d E w => he G H (Same.refl _) d _ fun G2 H2 cs2 v s2 d2 hv => hv s2 H2 d2 E (w.up s2)
theorem b_retC {r : R} (he : EC X e σ G cs fun v G1 cs1 => Same G G1 → Φ.rt r G1 cs1 v) : B X W (.Return (some e) pos :: rest) σ G cs Φ (.rt r) :=
  b_cons (ps_ret (sE X e)) fun H d E w => he G H (Same.refl _) d _ fun G2 H2 cs2 v s2 d2 hv => w v G2 cs2 H2 s2 d2 (hv s2)
theorem b_asgC {α : Type} {tg : Expr} {r : α → Hp → V → Prop} {Sx : α → Hp → L2.St → L2.St → Prop} (ht : Tg X tg r Sx) (he : EC X e σ G cs fun v G1 cs1 => ∃ x, r x G1 v ∧ ∀ σ', Sx x G1 σ σ' → Same G G1 → B X W rest σ' G1 cs1 Φ m)
    (hs : swapsWithSole [tg] e pos.line X.env = pure false := by rfl) (hw : swappedStores [tg] e X.env = pure none := by rfl) (h1 : (assignEach [tg] X.env).map (·.2) = [assign tg X.env] := by rfl) : B X W (.Assign [tg] e pos :: rest) σ G cs Φ m := by
  obtain ⟨g, hg, h2⟩ := ht
  exact b_cons (ps_asg (sE X e) hg hs hw (h1 := h1)) fun H d E w => he G H (Same.refl _) d _ fun G2 H2 cs2 v s2 d2 ⟨x, hx, hv⟩ => h2 x v G2 cs2 H2 σ hx d2 _ fun σ' hS => hv σ' hS s2 H2 d2 E (w.up s2)
/-- ifs whose test may change cells; Nx tells the cells behind the test -/
theorem b_ifxC {a : List Stmt} {k : Bool} {ma mr : Out ε S L R} (Nx : Hp → Cells → Prop) (hc : TC X c σ G cs fun z G1 cs1 => z = k ∧ Nx G1 cs1)
    (ha : k = true → ∀ G1 cs1, Same G G1 → Nx G1 cs1 → B X W a σ G1 cs1 { nx := fun _ _ _ _ => False, lp := Φ.lp, rt := Φ.rt, er := Φ.er } ma)
    (hr : k = false → ∀ G1 cs1, Same G G1 → Nx G1 cs1 → B X W rest σ G1 cs1 Φ mr) : B X W (.If c a [] pos :: rest) σ G cs Φ (if k = true then ma else mr) :=
  b_cons (ps_if (sT X c) (sSs X a) pss_nil) fun H d E w => hc G H (Same.refl _) d _ fun G2 H2 cs2 z s2 d2 ⟨ez, hn⟩ => by
    subst ez
    cases z with
    | true =>
      have w' : Wish W G Φ E ma := w
      refine iteT (ha rfl G2 cs2 s2 hn H2 d2 _ ?_)
      cases ma with
      | nx s => exact fun σ3 G3 cs3 H3 s3 d3 p => p.elim
      | bk l => exact fun σ3 G3 cs3 H3 s3 d3 p => w' σ3 G3 cs3 H3 (s2.trans s3) d3 p
      | ct l => exact fun σ3 G3 cs3 H3 s3 d3 p => w' σ3 G3 cs3 H3 (s2.trans s3) d3 p
      | rt r => exact fun v G3 cs3 H3 s3 d3 p => w' v G3 cs3 H3 (s2.trans s3) d3 p
      | er x => exact fun σ3 G3 cs3 H3 s3 d3 p => w' σ3 G3 cs3 H3 (s2.trans s3) d3 p
    | false => exact iteF (hr rfl G2 cs2 s2 hn H2 d2 E (Wish.up (show Wish W G Φ E mr from w) s2))
theorem b_iflC {a b : List Stmt} {k : Bool} {ma mb : Out ε S L R} (Nx : Hp → Cells → Prop) (hc : TC X c σ G cs fun z G1 cs1 => z = k ∧ Nx G1 cs1)
    (ha : k = true → ∀ G1 cs1, Same G G1 → Nx G1 cs1 → B X W a σ G1 cs1 Φ ma) (hb : k = false → ∀ G1 cs1, Same G G1 → Nx G1 cs1 → B X W b σ G1 cs1 Φ mb) : B X W [.If c a b pos] σ G cs Φ (if k = true then ma else mb) := fun H d E w =>
  uSs (pss_one (ps_if (sT X c) (sSs X a) (sSs X b))) (hc G H (Same.refl _) d _ fun G2 H2 cs2 z s2 d2 ⟨ez, hn⟩ => by
    subst ez
    cases z with
    | true => exact iteT (ha rfl G2 cs2 s2 hn H2 d2 E (Wish.up (show Wish W G Φ E ma from w) s2))
    | false => exact iteF (hb rfl G2 cs2 s2 hn H2 d2 E (Wish.up (show Wish W G Φ E mb from w) s2)))
theorem b_ifC {S' : Type} {a b : List Stmt} {k : Bool} (Nx : Hp → Cells → Prop) (Mid : S' → L2.St → Hp → Cells → Prop) {ma mb : Out ε S' L R} {g : S' → Out ε S L R} (hc : TC X c σ G cs fun z G1 cs1 => z = k ∧ Nx G1 cs1)
    (ha : k = true → ∀ G1 cs1, Same G G1 → Nx G1 cs1 → B X W a σ G1 cs1 { nx := Mid, lp := Φ.lp, rt := Φ.rt, er := Φ.er } ma) (hb : k = false → ∀ G1 cs1, Same G G1 → Nx G1 cs1 → B X W b σ G1 cs1 { nx := Mid, lp := Φ.lp, rt := Φ.rt, er := Φ.er } mb)
    (hr : ∀ s σ2 G2 cs2, Same G G2 → Mid s σ2 G2 cs2 → (if k = true then ma else mb) = .nx s → B X W rest σ2 G2 cs2 Φ (g s)) : B X W (.If c a b pos :: rest) σ G cs Φ ((if k = true then ma else mb).bind g) :=
  b_cons (ps_if (sT X c) (sSs X a) (sSs X b)) fun H d E w => hc G H (Same.refl _) d _ fun G2 H2 cs2 z s2 d2 ⟨ez, hn⟩ => by
    subst ez
    have go : ∀ {sts : List Stmt} {mm : Out ε S' L R}, B X W sts σ G2 cs2 { nx := Mid, lp := Φ.lp, rt := Φ.rt, er := Φ.er } mm → Wish W G Φ E (mm.bind g) → (∀ s σ2 G3 cs2, Same G G3 → Mid s σ2 G3 cs2 → mm = .nx s → B X W rest σ2 G3 cs2 Φ (g s)) → wSs X sts { E with nx := wSs X rest E } σ H2 := fun {sts mm} hB w hr => by
      refine hB H2 d2 _ ?_
      cases mm with
      | nx s => exact fun σ3 G3 cs3 H3 s3 d3 p => hr s σ3 G3 cs3 (s2.trans s3) p rfl H3 d3 E (Wish.up (G := G) (show Wish W G Φ E (g s) from w) (s2.trans s3))
      | bk l => exact fun σ3 G3 cs3 H3 s3 d3 p => w σ3 G3 cs3 H3 (s2.trans s3) d3 p
      | ct l => exact fun σ3 G3 cs3 H3 s3 d3 p => w σ3 G3 cs3 H3 (s2.trans s3) d3 p
      | rt r => exact fun v G3 cs3 H3 s3 d3 p => w v G3 cs3 H3 (s2.trans s3) d3 p
      | er x => exact fun σ3 G3 cs3 H3 s3 d3 p => w σ3 G3 cs3 H3 (s2.trans s3) d3 p
    cases z with
    | true => exact iteT (go (ha rfl G2 cs2 s2 hn) w hr)
    | false => exact iteF (go (hb rfl G2 cs2 s2 hn) w hr)
end
/-! ### statements with what changes cells within -/
section
variable {ε S L R : Type} {X : Cx} {W : ε → L2.St → Hp → Prop} {σ : L2.St} {G : Hp} {cs cs' : Cells} {Φ : Po ε S L R} {m : Out ε S L R} {rest body : List Stmt} {e c o i : Expr} {pos p : Pos}
/-- xs.append(e) -/
theorem b_appC {l : Addr} {apos cpos : Pos} (ho : D X o σ G cs (rV (.ref l))) (hl : ∃ us, (l, HO.lst us) ∈ cs) (he : EC X e σ G cs fun v G1 cs1 => ∃ k vs, cs1[k]? = some (l, .lst vs) ∧ vs.length < sizeLine ∧ (Same G G1 → B X W rest σ G1 (cs1.set k (l, .lst (vs ++ [v]))) Φ m))
    (hs : swapsWith (.Call (.Attribute o "append" apos) [e] [] cpos) none pos.line X.env = pure false := by rfl)
    (hbase : attributeBase o "append" X.env (eval o X.env) = eval o X.env := by rfl)
    (hfew : ((backTo cpos (starEach [e] X.env)).all (fun x => !x.1) && (backToKw cpos (keywordEach [] X.env)).all (fun x => x.1.isSome) && decide ([e].length + ([] : List Keyword).length + (if ([] : List Keyword).isEmpty then 0 else 1) < 30)) = true := by rfl)
    (hline : (apos.endLine == cpos.line) = true := by rfl) (hst : starEach [e] X.env = (false, eval e X.env) :: starEach [] X.env := by rfl) (hplain : (backTo cpos (starEach [] X.env)).any (·.1) = false := by rfl) :
    B X W (.Expr (.Call (.Attribute o "append" apos) [e] [] cpos) pos :: rest) σ G cs Φ m :=
  b_cons (ps_expr (pe_bm PySem.F.plainAttrs_list PySem.F.slot_list_append PySem.F.type_list_append mt_append (sE X o) (pa_cons (sE X e) pa_nil hst) hbase hfew hline hst hplain) hs) fun H d E w =>
    ho G H (Same.refl _) d _ fun G2 H2 u s2 d2 hu => by
      have eu : u = .ref l := hu
      subst eu
      obtain ⟨us, hm⟩ := hl
      refine ⟨.inl ⟨rfl, us, SqL.of (d2.at_ hm)⟩, he G2 H2 s2 d2 _ fun G3 H3 cs3 v s3 d3 hv => ?_⟩
      obtain ⟨k, vs, hk, hz, q⟩ := hv
      exact ⟨l, vs, v, rfl, rfl, d3.at_ (List.mem_of_getElem? hk), hz, q (s2.trans s3) _ (d3.write hk _) E (w.up (s2.trans s3))⟩
/-- xs[i] = e -/
theorem b_putC {l : Addr} (he : EC X e σ G cs fun v G1 cs1 => D X o σ G1 cs1 (rV (.ref l)) ∧ EC X i σ G1 cs1 fun y G2 cs2 => ∃ k vs z j, y = .int z ∧ cs2[k]? = some (l, .lst vs) ∧ ixN vs.length z = some j ∧ (Same G G2 → B X W rest σ G2 (cs2.set k (l, .lst (vs.set j v))) Φ m))
    (ha : ∀ v, assign (.Subscript o i p) X.env v = (do
      let ov ← holding [v] (eval o X.env)
      let iv ← holding [v, ov] (eval i X.env)
      standAt p
      holding [v, ov, iv] (setItem ov iv v)
      release [v, ov, iv] []) := by intro _; rfl)
    (hs : swapsWithSole [.Subscript o i p] e pos.line X.env = pure false := by rfl) (hw : swappedStores [.Subscript o i p] e X.env = pure none := by rfl) (h1 : (assignEach [.Subscript o i p] X.env).map (·.2) = [assign (.Subscript o i p) X.env] := by rfl) :
    B X W (.Assign [.Subscript o i p] e pos :: rest) σ G cs Φ m :=
  b_cons (ps_asg (sE X e) (pg_sub (sE X o) (sE X i) set_list ha) hs hw (h1 := h1)) fun H d E w => he G H (Same.refl _) d _ fun G2 H2 cs2 v s2 d2 hv =>
    hv.1 G2 H2 (Same.refl _) d2 _ fun G3 H3 u s3 d3 hu => hv.2 G3 H3 s3 d3 _ fun G4 H4 cs4 y s4 d4 hy => by
      obtain ⟨k, vs, z, j, ey, hk, hj, q⟩ := hy
      have eu : u = .ref l := hu
      subst eu ey
      exact ⟨l, vs, z, j, rfl, rfl, d4.at_ (List.mem_of_getElem? hk), hj, q ((s2.trans s3).trans s4) _ (d4.write hk _) E (w.up ((s2.trans s3).trans s4))⟩
/-- what stands behind the making of a walk -/
def Lb {α : Type} (X : Cx) (W : ε → L2.St → Hp → Prop) (tg : Expr) (body rest : List Stmt) (σ : L2.St) (G : Hp) (cs : Cells) (Φ : Po ε S L R) (m : Out ε S L R) (xs : List α) (Pi : α → Hp → V → Prop) (C : Cells → Prop) (g : TG) : Prop :=
  ∀ J H E, Desc G cs H → WalkD J xs G C Pi → Wish W G Φ E m → ∃ Wv : Nat → Nat → L2.St → Hp → Prop, (∃ n, Wv 0 n σ H) ∧ ∀ i n σ1 H1, Wv i n σ1 H1 →
    (J.stop i H1 ∧ wSs X rest E σ1 H1) ∨ (J.go i H1 ∧ ∃ N : L2.St → Hp → Prop, (∀ σ' H', N σ' H' → ∃ n', n' < n ∧ Wv (i + 1) n' σ' H') ∧ ∀ x H', J.yld i H1 x H' → g x σ1 H' fun σ2 H2 => wSs X body { E with nx := N, ct := N, bk := wSs X rest E } σ2 H2)
def IC {α : Type} (X : Cx) (tg iter : Expr) (σ : L2.St) (G : Hp) (cs : Cells) (C : Cells → Prop) (xs : List α) (P : α → Hp → V → Prop) (k : Hp → Cells → Prop) : Prop :=
  ∃ wi, PI X tg iter wi ∧ ∀ G1 H, Same G G1 → Desc G1 cs H → ∀ Rr : It → Hp → Prop, (∀ J G2 H2 cs2, Same G1 G2 → Desc G2 cs2 H2 → WalkD J xs G2 C P → k G2 cs2 → Rr J H2) → wi σ H Rr
theorem ic_rng1 {k : Hp → Cells → Prop} {tg a : Expr} {xs : List Int} (hm : X.mg "range" = none) (ha : EC X a σ G cs fun v G1 cs1 => ∃ j, v = .int j ∧ -(2 ^ 62) ≤ j ∧ j < 2 ^ 62 ∧ xs = rng 0 j ∧ k G1 cs1) (hg : Gl X "range" := by rfl) (hs : starEach [a] X.env = [(false, eval a X.env)] := by rfl) (hst : starEach [a] X.env = (false, eval a X.env) :: starEach [] X.env := by rfl) :
    IC X tg (.Call (.Name "range" p) [a] [] pos) σ G cs (fun _ => True) xs rI k :=
  ⟨_, pi_range1 hg hm (sA X [a]) hs, fun G1 H s d Rr kk => uA (pa_cons (sE X a) pa_nil hst) (ha G1 H s d _ fun G2 H2 cs2 v s2 d2 hv => by
    obtain ⟨j, e1, h1, h2, ex, hk⟩ := hv
    subst e1 ex
    refine ⟨j, rfl, h1, h2, kk _ G2 H2 cs2 s2 d2 ?_ hk⟩
    have q := wd_rng (G := G2) (lo := 0) (hi := j) (C := fun _ => True)
    rw [Int.sub_zero] at q
    exact q)⟩
theorem b_forC {α : Type} {tg iter : Expr} {C : Cells → Prop} {xs : List α} {Pi : α → Hp → V → Prop} {Sx : α → Hp → L2.St → L2.St → Prop} (ht : Tg X tg Pi Sx) (hcalm : X.calm = true) (hp : PassesOwn (model X.prog X.w) X.A X.env X.xe)
    (hi : ∀ g, PG X tg g → (∀ x v G cs H σ, Pi x G v → Desc G cs H → ∀ Q : L2.St → Hp → Prop, (∀ σ', Sx x G σ σ' → Q σ' H) → g v σ H Q) → IC X tg iter σ G cs C xs Pi fun G1 cs1 => Same G G1 → Lb X W tg body rest σ G1 cs1 Φ m xs Pi C g)
    (hs : ∀ x, foldedSetIterable iter X.env x = pure x := by intro _; rfl) : B X W (.For tg iter body [] pos :: rest) σ G cs Φ m := by
  obtain ⟨gt, hpg, hgt⟩ := ht
  obtain ⟨wi, hpi, hw⟩ := hi gt hpg hgt
  refine b_cons (ps_for hp hcalm hpi hpg (sSs X body) hs) fun H d E w => ?_
  exact hw G H (Same.refl _) d _ fun J G2 H2 cs2 s2 d2 wk hk => hk s2 J H2 E d2 wk (w.up s2)
theorem lb_core {α S1 : Type} {tg : Expr} {C : Cells → Prop} {xs : List α} {Pi : α → Hp → V → Prop} {Sx : α → Hp → L2.St → L2.St → Prop} {s0 : S1} {f : S1 → α → Out ε S1 S1 R} {g : S1 → Out ε S L R} {gt : TG}
    (N : Nat → S1 → L2.St → Hp → Cells → Prop) (hgt : ∀ x v G cs H σ, Pi x G v → Desc G cs H → ∀ Q : L2.St → Hp → Prop, (∀ σ', Sx x G σ σ' → Q σ' H) → gt v σ H Q)
    (h0 : ∀ G1, Same G G1 → N 0 s0 σ G1 cs) (hC : ∀ n s σ1 G1 cs1, N n s σ1 G1 cs1 → C cs1)
    (hb : ∀ pre x post s σ1 G0 G1 cs1 σ2, xs = pre ++ x :: post → Reach f s0 pre s → Same G G0 → N pre.length s σ1 G0 cs1 → Same G0 G1 → Sx x G1 σ1 σ2 →
      B X W body σ2 G1 cs1 { nx := N (pre.length + 1), lp := N (pre.length + 1), rt := Φ.rt, er := Φ.er } (f s x))
    (hr : ∀ n s σ1 G1 cs1, n ≤ xs.length → Same G G1 → N n s σ1 G1 cs1 → (forL f s0 xs : Out ε S1 L R) = .nx s → B X W rest σ1 G1 cs1 Φ (g s)) : Lb X W tg body rest σ G cs Φ ((forL f s0 xs).bind g) xs Pi C gt := by
  intro J H2 E d2 wk w
  let Pv : Nat → L2.St → Hp → Prop := fun i σ1 H1 => ∃ s G1 cs1, i ≤ xs.length ∧ Reach f s0 (xs.take i) s ∧ Same G G1 ∧ Desc G1 cs1 H1 ∧ N i s σ1 G1 cs1
  refine ⟨fun i n σ1 H1 => n = xs.length - i ∧ Pv i σ1 H1, ⟨xs.length, rfl, s0, G, cs, Nat.zero_le _, .nil, Same.refl _, d2, h0 G (Same.refl _)⟩, ?_⟩
  rintro i n σ1 H1 ⟨rfl, s, G1, cs1, hi, hre, s1, d1, hN⟩
  have w0 : Wish W G Φ E ((forL f s (xs.drop i)).bind g) := by
    have q := forL_reach (L := L) hre (xs.drop i)
    rw [List.take_append_drop] at q
    rw [← q]
    exact w
  by_cases hlt : i < xs.length
  · refine .inr ⟨wk.goes i G1 H1 cs1 hlt s1 (hC _ _ _ _ _ hN) d1, Pv (i + 1), fun σ' H' p' => ⟨_, by omega, rfl, p'⟩, fun v H3 y => ?_⟩
    have hx : xs[i]? = some xs[i] := by simp [hlt]
    obtain ⟨G3, s3, d3, pv⟩ := wk.yields i xs[i] G1 H1 cs1 v H3 hx s1 (hC _ _ _ _ _ hN) d1 y
    refine hgt xs[i] v G3 cs1 H3 σ1 pv d3 _ fun σ' hS => ?_
    have ed : xs = xs.take i ++ xs[i] :: xs.drop (i + 1) := by
      rw [← List.drop_eq_getElem_cons hlt, List.take_append_drop]
    have et : xs.take (i + 1) = xs.take i ++ [xs[i]] := by simp
    have el : (xs.take i).length = i := by rw [List.length_take]; omega
    have hb' := hb (xs.take i) xs[i] (xs.drop (i + 1)) s σ1 G1 G3 cs1 σ' ed hre s1 (by rw [el]; exact hN) s3 hS
    rw [el] at hb'
    refine hb' H3 d3 _ ?_
    have w1 : Wish W G Φ E ((forL f s (xs[i] :: xs.drop (i + 1))).bind g) := by
      rw [List.drop_eq_getElem_cons hlt] at w0
      exact w0
    rw [forL_cons] at w1
    have sG : Same G G3 := s1.trans s3
    cases hm : f s xs[i] with
    | nx s' => exact fun σ4 G4 cs4 H4 s4 d4 p4 => ⟨s', G4, cs4, hlt, by rw [et]; exact .nx hre hm, sG.trans s4, d4, p4⟩
    | ct s' => exact fun σ4 G4 cs4 H4 s4 d4 p4 => ⟨s', G4, cs4, hlt, by rw [et]; exact .ct hre hm, sG.trans s4, d4, p4⟩
    | bk s' =>
      rw [hm] at w1
      refine fun σ4 G4 cs4 H4 s4 d4 p4 => hr (i + 1) s' σ4 G4 cs4 hlt (sG.trans s4) p4 ?_ H4 d4 E (Wish.up (show Wish W G Φ E (g s') from w1) (sG.trans s4))
      rw [ed, forL_reach hre, forL_cons, hm]
    | rt r =>
      rw [hm] at w1
      exact fun v4 G4 cs4 H4 s4 d4 p4 => w1 v4 G4 cs4 H4 (sG.trans s4) d4 p4
    | er k =>
      rw [hm] at w1
      exact fun σ4 G4 cs4 H4 s4 d4 p4 => w1 σ4 G4 cs4 H4 (sG.trans s4) d4 p4
  · have e : i = xs.length := by omega
    subst e
    rw [List.drop_length] at w0
    rw [List.take_length] at hre
    refine .inl ⟨wk.stops G1 H1 cs1 s1 (hC _ _ _ _ _ hN) d1, hr _ s σ1 G1 cs1 (Nat.le_refl _) s1 hN ?_ H1 d1 E (Wish.up (show Wish W G Φ E (g s) from w0) s1)⟩
    have q := forL_reach (L := L) hre ([] : List α)
    rw [List.append_nil] at q
    exact q
end
/-- the values of a comprehension whose element changes things -/
def mapS {α β S : Type} (f : S → α → β × S) : S → List α → List β × S
  | s, [] => ([], s)
  | s, x :: xs => ((f s x).1 :: (mapS f (f s x).2 xs).1, (mapS f (f s x).2 xs).2)
theorem mapS_snoc {α β S : Type} (f : S → α → β × S) (s : S) (xs : List α) (x : α) : mapS f s (xs ++ [x]) = ((mapS f s xs).1 ++ [(f (mapS f s xs).2 x).1], (f (mapS f s xs).2 x).2) := by
  induction xs generalizing s with
  | nil => rfl
  | cons y ys ih =>
    show mapS f s (y :: (ys ++ [x])) = _
    simp only [mapS, ih, List.cons_append]
theorem mapS_length {α β S : Type} (f : S → α → β × S) (s : S) (xs : List α) : (mapS f s xs).1.length = xs.length := by
  induction xs generalizing s with
  | nil => rfl
  | cons y ys ih => simp only [mapS, List.length_cons, ih]
/-- what holds of the states all along, and of the values -/
theorem mapS_inv {α β S : Type} {f : S → α → β × S} (Is : S → Prop) (Iv : β → Prop) {xs : List α} (h : ∀ s x, x ∈ xs → Is s → Is (f s x).2 ∧ Iv (f s x).1) : ∀ {s : S}, Is s → Is (mapS f s xs).2 ∧ ∀ y ∈ (mapS f s xs).1, Iv y := by
  induction xs with
  | nil => exact fun hs => ⟨hs, by simp [mapS]⟩
  | cons a as ih =>
    intro s hs
    have h1 := h s a List.mem_cons_self hs
    have h2 := ih (fun s x hx => h s x (List.mem_cons_of_mem _ hx)) h1.1
    refine ⟨h2.1, fun y hy => ?_⟩
    rcases List.mem_cons.mp hy with e | hy
    · rw [e]; exact h1.2
    · exact h2.2 y hy
section
variable {X : Cx} {σ : L2.St} {G : Hp} {cs : Cells} {elt tg iter : Expr} {pos : Pos} {scope : Scope} {own : List (Str × Nat)} {α β S : Type} {xs : List α} {Pi : α → Hp → V → Prop} {r : β → Hp → V → Prop} {f : S → α → β × S} {s0 : S}
/-- [elt for tg in iter], elt changes cells: Nc tells the cells by the state -/
theorem ec_lc {Sx : α → Hp → L2.St → L2.St → Prop} {C : Cells → Prop} {k : V → Hp → Cells → Prop} (Nc : S → Hp → Cells → Prop) (hcalm : X.calm = true) (hN : X.N.Nodup) (ok : BlkOk X.N X.env.scope scope own) (hi : I X tg iter σ G cs C xs Pi) (ht : TgB X scope tg Pi Sx)
    (h0 : ∀ G1, Same G G1 → Nc s0 G1 cs) (hC : ∀ s G1 cs1 l us, Nc s G1 cs1 → C ((l, .lst us) :: cs1)) (hwipe : ∀ x G1 σ', Sx x G1 (wipe σ (own.map (·.2))) σ' → wipe σ' (own.map (·.2)) = wipe σ (own.map (·.2))) [∀ y, Mono (r y)]
    (he : ∀ pre x post, xs = pre ++ x :: post → ∀ s, s = (mapS f s0 pre).2 → ∀ G0 G1 cs1 σ' c, Same G G0 → Nc s G0 cs1 → Same G0 G1 → Sx x G1 (wipe σ (own.map (·.2))) σ' → ∀ s' H0 C cl fp, EC (X.blk s' H0 scope (compEnvC scope cl C X.env) fp) elt σ' G1 (c :: cs1) fun v G2 cs2 => ∃ cs3, cs2.Perm (c :: cs3) ∧ r (f s x).1 G2 v ∧ Nc (f s x).2 G2 cs3)
    (hsz : xs.length ≤ 16777215) (hk : ∀ l us G1 cs1, Same G G1 → Rs r G1 (mapS f s0 xs).1 us → Nc (mapS f s0 xs).2 G1 cs1 → k (.ref l) G1 ((l, .lst us) :: cs1))
    (hs : ∀ x, foldedSetIterable iter X.env x = pure x := by intro _; rfl) : EC X (.ListComp elt [⟨tg, iter, [], 0⟩] scope pos) σ G cs k := by
  obtain ⟨wi, hpi, hw⟩ := hi
  obtain ⟨g, hpg, hgt⟩ := ht
  intro G1 H s d Q q
  refine uE (pe_lc (te := teB X scope elt) hcalm hN hpi ok hpg (fun _ _ _ _ _ => pts_nil) (fun s H0 C cl fp => ⟨fun pins s1 σ H Q I h => (h s H0 C cl fp).run pins s1 I⟩) hs) ?_
  refine hw G1 H s d _ fun J G2 H2 s2 d2 wk => fun l hl => ?_
  let Pv : Nat → Hp → Prop := fun i H1 => ∃ G3 us cs3, i ≤ xs.length ∧ Same G2 G3 ∧ Desc G3 ((l, .lst us) :: cs3) H1 ∧ Rs r G3 (mapS f s0 (xs.take i)).1 us ∧ Nc (mapS f s0 (xs.take i)).2 G3 cs3
  refine ⟨fun i n H1 => n = xs.length - i ∧ Pv i H1, ⟨xs.length, rfl, G2, [], cs, Nat.zero_le _, Same.refl _, d2.newCell hl _, .nil, h0 G2 (s.trans s2)⟩, ?_⟩
  rintro i n H1 ⟨rfl, G3, us, cs3, hi, s3, d3, hr, hn⟩
  by_cases hlt : i < xs.length
  · refine .inr ⟨wk.goes i G3 H1 _ hlt s3 (hC _ _ _ _ _ hn) d3, Pv (i + 1), fun H' p' => ⟨_, by omega, rfl, p'⟩, fun v H3 y => ?_⟩
    have hx : xs[i]? = some xs[i] := by simp [hlt]
    have hm : xs[i] ∈ xs := List.getElem_mem hlt
    obtain ⟨G4, s4, d4, pv⟩ := wk.yields i xs[i] G3 H1 _ v H3 hx s3 (hC _ _ _ _ _ hn) d3 y
    have et : xs.take (i + 1) = xs.take i ++ [xs[i]] := by simp
    refine hgt xs[i] v G4 _ H3 _ pv d4 _ fun σ' hS => ⟨hwipe _ _ _ hS, ?_⟩
    have ed : xs = xs.take i ++ xs[i] :: xs.drop (i + 1) := by
      rw [← List.drop_eq_getElem_cons hlt, List.take_append_drop]
    refine iteT (B := Pv (i + 1) H3) fun s5 H0 C5 cl fp => he (xs.take i) xs[i] (xs.drop (i + 1)) ed _ rfl G3 G4 cs3 σ' (l, .lst us) ((s.trans s2).trans s3) hn s4 hS s5 H0 C5 cl fp G4 H3 (Same.refl _) d4 _ fun G5 H5 cs5 w s5 d5 ⟨cs6, pm, hw, hn5⟩ => ?_
    have d6 := d5.perm pm
    refine ⟨us, d6.at_ List.mem_cons_self, ?_, G5, us ++ [w], cs6, hlt, (s3.trans s4).trans s5, d6.write (k := 0) rfl _, ?_, ?_⟩
    · rw [← hr.length, mapS_length, List.length_take, sizeLine_eq]
      omega
    · rw [et, mapS_snoc]
      exact Rs.snoc hw (hr.mono (s4.trans s5))
    · rw [et, mapS_snoc]
      exact hn5
  · have e : i = xs.length := by omega
    subst e
    rw [List.take_length] at hr hn
    exact .inl ⟨wk.stops G3 H1 _ s3 (hC _ _ _ _ _ hn) d3, q G3 H1 _ _ (s2.trans s3) d3 (hk l us G3 cs3 ((s.trans s2).trans s3) hr hn)⟩
end
end J

/-! a variable that holds one of two defs; list(range(..)), in range(..), list.remove of ints -/
namespace J
open PySem L2 PyProof.Rows
open L2H (RoomH)
/-- one of two defs, told by a Bool -/
def rFn (mg : Str → Option Value) (x y : Str) (b : Bool) : Hp → V → Prop := fun _ v => ∃ f, mg (if b = true then y else x) = some (.ref f) ∧ v = .ref f
instance (mg : Str → Option Value) (x y : Str) (b : Bool) : Mono (rFn mg x y b) := ⟨fun _ h => h⟩
section
variable {X : Cx} {σ : L2.St} {G : Hp} {cs : Cells} {e a b o : Expr} {es : List Expr} {pos p : Pos}
theorem d_fn {x y z : Str} {c : Bool} {k n : Nat} {sp : Sp} (F : Fn0 X.prog X.w X.K X.mg X.base CX0 k z n sp) (hz : (if c = true then y else x) = z) (hg : Gl X z := by rfl) (hd : (z == ("__debug__" : Str)) = false := by decide) : D X (.Name z pos) σ G cs (rFn X.mg x y c) := by
  obtain ⟨f, fd, ps, F, hm, kp, b, _⟩ := F.ex
  exact d_glob (v := .ref f) hg ⟨.ref f, hm, rfl⟩ ⟨f, by rw [hz]; exact hm, rfl⟩ hd
theorem d_callF {I O : Type} {pre : I → Hp → List V → Prop} {r : I → O → Hp → V → Prop} {m : I → O} {k j n s : Nat} {x y : Str} {Ps : Hp → List V → Prop} {P : Hp → V → Prop} {f : Addr} (i : I) (F : Fn0 X.prog X.w X.K X.mg X.base CX0 k x n (SpP pre r m)) (hm0 : X.mg x = some (.ref f)) (hs : σ[s]? = some (some (.ref f))) (hr : Room j X.A) (hk : k ≤ j)
    (ha : A X (e :: es) σ G cs Ps) (hp : ∀ G1 vs, Same G G1 → Ps G1 vs → pre i G1 vs) (hP : ∀ G v, r i (m i) G v → P G v) (hN : X.N[s]? = some y := by rfl) (hv : Vis X.env.scope y := by first | exact Or.inl rfl | exact Or.inr (Or.inl rfl) | exact Or.inr (Or.inr rfl))
    (hdb : (y == ("__debug__" : Str)) = false := by decide) (hcd : (y == ("__classdict__" : Str)) = false := by decide)
    (he : starEach (e :: es) X.env = (false, eval e X.env) :: starEach es X.env := by exact star_plain rfl) (hpl : (backTo pos (starEach es X.env)).any (·.1) = false := by rfl) : D X (.Call (.Name y p) (e :: es) [] pos) σ G cs P := by
  obtain ⟨f', fd, ps, F, hm, kp, b, _⟩ := F.ex
  rw [hm0] at hm
  cases hm
  intro G1 H s1 d Q q
  refine uE (pe_callL (i := s) (f := f) (dvs := []) F (hr.mono hk) hN hv kp b .nil pass0 (sA X _) hdb hcd he hpl) ⟨hs, ha G1 H s1 d _ fun G2 H2 vs s2 d2 hvs => ?_⟩
  have hpp := hp G2 vs (s1.trans s2) hvs
  refine ⟨i, G2, cs, d2, ?_, fun v G3 H3 s3 d3 hv => q G3 H3 v (s2.trans s3) d3 (hP _ _ ?_)⟩
  · rw [List.append_nil]
    exact hpp
  · exact hv
/-- list(range(n)) -/
theorem n_listRg {j : Int} {p2 : Pos} (hc : X.calm = true) (hm : X.mg "list" = none) (hmr : X.mg "range" = none) (ha : D X a σ G cs (rI j)) (h : 0 ≤ j ∧ j ≤ 16777216) (hg : Gl X "list" := by rfl) (hgr : Gl X "range" := by rfl) (na : starEach [a] X.env = (false, eval a X.env) :: starEach [] X.env := by rfl)
    (na2 : starEach [.Call (.Name "range" p2) [a] [] pos] X.env = (false, eval (.Call (.Name "range" p2) [a] [] pos) X.env) :: starEach [] X.env := by rfl) {pos2 : Pos} : N X (.Call (.Name "list" p) [.Call (.Name "range" p2) [a] [] pos] [] pos2) σ G cs rI (rng 0 j) := fun G1 H s d Q q =>
  uE (pe_listRg hc hg hm (prg_1 hgr hmr (sE X a) na) na2) (ha G1 H s d _ fun G2 H2 v s2 d2 hv => ⟨j, hv, RgOk.of_le (by omega) h.2 (by omega) h.1, fun l hl => q G2 _ l _ s2 (d2.newCell hl _) (by
    have e : rgV 0 j = (rng 0 j).map V.int := by
      unfold rgV rng
      rw [List.map_map]
      rfl
    rw [e]
    exact Rs.of_map (fun _ => rfl) _)⟩)
end
theorem op_notIn_rng {X : Cx} : OpR X (compareOp .NotIn) (fun x y H Q => ∃ i a lo hi, x = V.int i ∧ y = V.ref a ∧ H a = some (.rng lo hi) ∧ Q (.bl (!decide (lo ≤ i ∧ i < hi))) H) := by
  intro pins s σ H x y v u Q I rx ry h
  obtain ⟨i, a, lo, hi, rfl, rfl, ha, q⟩ := h
  obtain ⟨k, rfl⟩ := rx
  obtain rfl : u = Value.ref a := ry
  obtain ⟨t1, t2, t3, ho⟩ := I.hok a _ ha
  show wpAny _ _ (do return Value.bool (!(← contains (Value.ref a) (Value.int i k)))) _ _ s
  refine wpAny_bind (wpAny_contains_slot (T := "range") ⟨_, ho, rfl⟩ F.slot_range_contains (call_meets F.slot_range_contains ⟨_, ho, rfl⟩ F.entry_range_contains (F.args_range_contains_2 _ _) (q_contains a lo hi i t1 t2 t3 k)
    ⟨ho, wpAny_truthy_bool (wpAny_pure ⟨.bl _, H, I, rfl, ?_⟩)⟩))
  rw [place1]
  exact q
theorem cr_range1 {X : Cx} : CallR X (.type "range") (fun vs H Q => ∃ j, vs = [V.int j] ∧ ∀ p, H p = none → Q (.ref p) (upd H p (.rng 0 j))) := by
  intro pins s σ H vs us Q I r h
  obtain ⟨j, rfl, q⟩ := h
  obtain ⟨u1, rfl, rj⟩ := r.one
  obtain ⟨t, rfl⟩ := rj
  refine call_range_1 ⟨.ref s.heap.objs.size, upd H s.heap.objs.size (.rng 0 j), I.laid (t' := s.toks + 2) (fun b o e => Heap.get?_push_of_some _ e) (Nat.le_refl _) ?_, rfl, q _ (I.hok.fresh (Nat.le_refl _))⟩
  exact ⟨_, _, _, Heap.get?_push_size _ rfl⟩
section
variable {X : Cx} {σ : L2.St} {G : Hp} {cs : Cells} {e a b o : Expr} {es : List Expr} {pos p : Pos}
/-- range(n) as a value -/
def rRg (j : Int) : Hp → V → Prop := fun G v => ∃ a, v = .ref a ∧ G a = some (.rng 0 j)
theorem d_rg {j : Int} (hm : X.mg "range" = none) (ha : D X a σ G cs (rI j)) (hg : Gl X "range" := by rfl) (na : starEach [a] X.env = (false, eval a X.env) :: starEach [] X.env := by rfl) (hv : bootBuiltins "range" = some (.type "range") := by decide +kernel) (hpl : (backTo pos (starEach [] X.env)).any (·.1) = false := by rfl) :
    D X (.Call (.Name "range" p) [a] [] pos) σ G cs (rRg j) := fun G1 H s d Q q =>
  uE (pe_callTy cr_range1 hg hm hv (sA X [a]) (he := na) (hpl := hpl)) (a_cons ha a_nil na G1 H s d _ fun G2 H2 vs s2 d2 hvs => by
    obtain ⟨v, ws, e1, h1, h2⟩ := hvs
    cases h2
    cases h1
    refine ⟨j, e1, fun l hl => ?_⟩
    have sf : Same G2 (upd G2 l (.rng 0 j)) := Same.fresh d2.same hl _
    exact q _ _ _ (s2.trans sf) (d2.new hl _) ⟨l, rfl, upd_same⟩)
instance (j : Int) : Mono (rRg j) := ⟨fun s ⟨a, e, h⟩ => ⟨a, e, s _ _ h⟩⟩
theorem d_nrg {i j : Int} (ha : D X a σ G cs (rI i)) (hb : D X b σ G cs (rRg j)) (hm : behindInMarks .NotIn b = false := by rfl) : D X (.Compare a [.NotIn] [b] pos) σ G cs (rB (!decide (0 ≤ i ∧ i < j))) :=
  d_cmp op_notIn_rng hm ha hb fun G1 H x y s d hx hy Q q => by
    obtain ⟨l, e, h⟩ := hy
    exact ⟨i, l, 0, j, hx, e, d.same _ _ h, q⟩
theorem t_nrg {i j : Int} (ha : D X a σ G cs (rI i)) (hb : D X b σ G cs (rRg j)) (hm : behindInMarks .NotIn b = false := by rfl) : T X (.Compare a [.NotIn] [b] pos) σ G cs (!decide (0 ≤ i ∧ i < j)) :=
  t_cmp op_notIn_rng hm ha hb fun G1 H x y s d hx hy Q q => by
    obtain ⟨l, e, h⟩ := hy
    exact ⟨i, l, 0, j, hx, e, d.same _ _ h, q⟩
end
section
variable {ε S L R : Type} {X : Cx} {W : ε → L2.St → Hp → Prop} {σ : L2.St} {G : Hp} {cs : Cells} {Φ : Po ε S L R} {m : Out ε S L R} {rest : List Stmt} {e o : Expr} {pos p : Pos}
theorem erase_at {ns : List Int} {k : Int} (h : k ∈ ns) : ∃ j : Nat, ns[j]? = some k ∧ (∀ m : Nat, m < j → ns[m]? ≠ some k) ∧ ns.eraseIdx j = ns.erase k := by
  induction ns with
  | nil => cases h
  | cons a as ih =>
    by_cases e : a = k
    · subst e
      exact ⟨0, rfl, fun m hm => absurd hm (by omega), by simp⟩
    · obtain ⟨j, h1, h2, h3⟩ := ih ((List.mem_cons.mp h).resolve_left fun q => e q.symm)
      refine ⟨j + 1, h1, fun m hm => ?_, ?_⟩
      · cases m with
        | zero => exact fun q => e (Option.some.inj q)
        | succ m => exact h2 m (by omega)
      · rw [List.erase_cons_tail (by simpa using e), ← h3]
        rfl
/-- xs.remove(e), xs the cell at k, of ints -/
theorem b_remove (k : Nat) {l : Addr} {vs : List V} {ns : List Int} {i : Int} {apos cpos : Pos} (hk : cs[k]? = some (l, .lst vs)) (ho : D X o σ G cs (rV (.ref l))) (he : D X e σ G cs (rI i)) (hr : Rs rI G ns vs) (hi : i ∈ ns)
    (q : ∀ us G1, Same G G1 → Rs rI G1 (ns.erase i) us → B X W rest σ G1 (cs.set k (l, .lst us)) Φ m) (hs : swapsWith (.Call (.Attribute o "remove" apos) [e] [] cpos) none pos.line X.env = pure false := by rfl)
    (hbase : attributeBase o "remove" X.env (eval o X.env) = eval o X.env := by rfl)
    (hfew : ((backTo cpos (starEach [e] X.env)).all (fun x => !x.1) && (backToKw cpos (keywordEach [] X.env)).all (fun x => x.1.isSome) && decide ([e].length + ([] : List Keyword).length + (if ([] : List Keyword).isEmpty then 0 else 1) < 30)) = true := by rfl)
    (hline : (apos.endLine == cpos.line) = true := by rfl) (hst : starEach [e] X.env = (false, eval e X.env) :: starEach [] X.env := by rfl) (hplain : (backTo cpos (starEach [] X.env)).any (·.1) = false := by rfl) :
    B X W (.Expr (.Call (.Attribute o "remove" apos) [e] [] cpos) pos :: rest) σ G cs Φ m :=
  b_cons (ps_expr (pe_bm PySem.F.plainAttrs_list PySem.F.slot_list_remove PySem.F.type_list_remove mt_remove (sE X o) (pa_cons (sE X e) pa_nil hst) hbase hfew hline hst hplain) hs) fun H d E w =>
    ho G H (Same.refl _) d _ fun G2 H2 u s2 d2 hu => by
      have eu : u = .ref l := hu
      subst eu
      refine ⟨.inl ⟨rfl, vs, SqL.of (d2.at_ (List.mem_of_getElem? hk))⟩, he G2 H2 s2 d2 _ fun G3 H3 v s3 d3 hv => ?_⟩
      obtain ⟨j, h1, h2, h3⟩ := erase_at hi
      have hv' : v = .int i := hv
      have e0 : vs = ns.map V.int := by
        have q := rs_int hr
        exact q
      have h0 := d3.at_ (List.mem_of_getElem? hk)
      refine ⟨l, ns, i, j, rfl, by rw [hv'], by rw [← e0]; exact h0, h1, h2, ?_⟩
      rw [h3]
      exact q _ G3 (s2.trans s3) (Rs.of_map (fun _ => rfl) _) _ (d3.write hk _) E (w.up (s2.trans s3))
end
/-! isinstance(e, ValueError), e the error in hand -/
theorem tail_mem {K : PySem.W.Frag} {T : String} {r0 : List Value} : ∀ bm : List Value, PySem.W.tailIn K (.type T :: r0) bm = true → (Value.type T) ∈ bm
  | [], h => by
    unfold PySem.W.tailIn at h
    exact nomatch (beq_iff_eq.mp h)
  | v :: r, h => by
    unfold PySem.W.tailIn at h
    rcases Bool.or_eq_true_iff.mp h with h | h
    · rw [beq_iff_eq.mp h]
      exact List.mem_cons_self
    · split at h
      · split at h
        · simp only [Bool.and_eq_true] at h
          exact List.mem_cons_of_mem _ (tail_mem r h.2)
        · cases h
      · cases h
theorem exc_value {K : PySem.W.Frag} {C : Addr} (h : PySem.W.excIn K C [.type "ValueError", .type "Exception", .type "BaseException", .type "object"] "ValueError.__new__" = true) : PySem.W.kitOne K (.ref C) (.type "ValueError") = some true := by
  unfold PySem.W.excIn at h
  split at h
  · rename_i d cd sl hl
    split at h
    · rename_i C' bm _ _ _ _ n _ hm hs
      have hc : PySem.W.clsIn K C = some cd := by
        unfold PySem.W.clsIn
        rw [hl]
      have ht : PySem.W.tailIn K [.type "ValueError", .type "Exception", .type "BaseException", .type "object"] bm = true := by
        simp only [Bool.and_eq_true] at h
        exact h.1.1.2
      have hin : (Value.type "ValueError") ∈ bm := by
        exact tail_mem bm ht
      have he : cd.mro.isEmpty = false := by rw [hm]; rfl
      have hk : cd.mro.contains (.type "ValueError") = true := by
        rw [hm]
        exact List.contains_iff_mem.mpr (List.mem_cons_of_mem _ hin)
      show (if (Value.ref C == Value.type "ValueError") = true then some true else PySem.W.kitCls K (.ref C) (.type "ValueError")) = some true
      rw [if_neg (by intro z; exact nomatch (beq_iff_eq.mp z))]
      show (if PySem.W.kitMeta "ValueError" = true then PySem.W.subIn K (.ref C) (.type "ValueError") else none) = some true
      rw [if_pos (by decide +kernel)]
      show PySem.W.mroIn K C (.type "ValueError") = some true
      unfold PySem.W.mroIn
      rw [hc]
      show (if cd.mro.isEmpty = true then none else some (cd.mro.contains (.type "ValueError"))) = some true
      rw [he, if_neg (by decide), hk]
    · cases h
  · cases h
section
variable {n : Nat} {nm : _root_.Fin n → Str} {adr : _root_.Fin n → Addr} {B0 : Addr} {X : Cx} {σ : L2.St} {G : Hp} {cs : Cells} {e : Expr} {pos p : Pos}
theorem d_isV {b : Addr} {ob : Obj} {py : Pos} (i : _root_.Fin n) (Er : Errs X.K X.mg nm adr B0) (hz : Zc (.ref (adr i)) none ob) (hf : ∃ u, ob.data = .fields u) (hp : (b, ob) ∈ X.pn) (hm : X.mg "isinstance" = none) (hmv : X.mg "ValueError" = none) (he : D X e σ G cs (rV (.ref b)))
    (hy : bootBuiltins "ValueError" = some (.type "ValueError") := by decide +kernel) (hg : Gl X "isinstance" := by rfl) (hgy : Gl X "ValueError" := by rfl) (hny : ("ValueError" : Str) ≠ "__name__" := by decide) (hdy : (("ValueError" : Str) == ("__debug__" : Str)) = false := by decide) (hst : starEach [e, .Name "ValueError" py] X.env = (false, eval e X.env) :: starEach [.Name "ValueError" py] X.env := by rfl) (hst2 : starEach [.Name "ValueError" py] X.env = (false, eval (.Name "ValueError" py) X.env) :: starEach [] X.env := by rfl)
    (hpl : (backTo pos (starEach [.Name "ValueError" py] X.env)).any (·.1) = false := by rfl) : D X (.Call (.Name "isinstance" p) [e, .Name "ValueError" py] [] pos) σ G cs (rB true) := by
  refine d_callB (Ps := aC (rV (.ref b)) (aC (rV (.ty "ValueError")) aN)) (call_isP (Er.one i).cl hz hf hp) hm (a_cons (P := rV (.ref b)) he (a_cons (P := rV (.ty "ValueError")) ?_ a_nil hst2) hst) (fun G1 H vs s d h Q q => ?_) hg (he := hst) (hpl := hpl)
  · exact d_by (pe_bltn hgy hmv hy (v := .ty "ValueError") rfl hny hdy) fun G1 H s d Q q => q G1 H _ (Same.refl _) d rfl
  · obtain ⟨v, w, rfl, hv, v2, w2, rfl, hv2, hw⟩ := h
    cases (show w2 = [] from hw)
    cases (show v = V.ref b from hv)
    cases (show v2 = V.ty "ValueError" from hv2)
    exact ⟨_, _, _, rfl, fun u z => z, exc_value (Er.one i).ex, q G1 H _ (Same.refl _) d rfl⟩
end
/-! what holds of a mirror, by its steps -/
theorem letV_p {α β : Type} {P : β → Prop} {x : α} {f : α → β} (h : ∀ z, z = x → P (f z)) : P (letV x f) := h x rfl
theorem ite_p {β : Type} {P : β → Prop} {c : Prop} [Decidable c] {a b : β} (h1 : c → P a) (h2 : ¬c → P b) : P (if c then a else b) := by
  by_cases h : c
  · rw [if_pos h]
    exact h1 h
  · rw [if_neg h]
    exact h2 h
/-! comparison of data within an except suite -/
section
variable {α : Type} {r : α → Hp → V → Prop} {x y : α} [DecidableEq α] [∀ z, Mono (r z)] {k : Nat} {X : Cx} {σ : L2.St} {G : Hp} {cs : Cells} {a b : Expr} {pos : Pos}
theorem d_eqDh {K : PySem.W.Frag} [q : EqR K r] (hr : RoomH k X.A) (ha : D X a σ G cs (r x)) (hb : D X b σ G cs (r y)) (hx : q.ok x) (hy : q.ok y) (hd : q.dep ≤ 64 := by exact Nat.le_of_ble_eq_true rfl) (hK : X.K = K := by rfl) : D X (.Compare a [.Eq] [b] pos) σ G cs (rB (decide (x = y))) := by
  subst hK
  exact d_cmp (op_eqD (Nat.lt_of_le_of_lt (by omega) hr.un)) (nomark _) ha hb fun G1 H u v s d hu hv Q qq => ⟨_, _, q.dp hu d.same, q.dp hv d.same, shp hx hd, shp hy hd, by rw [eqv_dec]; exact qq⟩
theorem d_neDh {K : PySem.W.Frag} [q : EqR K r] (hr : RoomH k X.A) (ha : D X a σ G cs (r x)) (hb : D X b σ G cs (r y)) (hx : q.ok x) (hy : q.ok y) (hd : q.dep ≤ 64 := by exact Nat.le_of_ble_eq_true rfl) (hK : X.K = K := by rfl) : D X (.Compare a [.NotEq] [b] pos) σ G cs (rB (!decide (x = y))) := by
  subst hK
  exact d_cmp (op_neD (Nat.lt_of_le_of_lt (by omega) hr.un)) (nomark _) ha hb fun G1 H u v s d hu hv Q qq => ⟨_, _, q.dp hu d.same, q.dp hv d.same, shp hx hd, shp hy hd, by rw [eqv_dec]; exact qq⟩
theorem t_eqDh {K : PySem.W.Frag} [q : EqR K r] (hr : RoomH k X.A) (ha : D X a σ G cs (r x)) (hb : D X b σ G cs (r y)) (hx : q.ok x) (hy : q.ok y) (hd : q.dep ≤ 64 := by exact Nat.le_of_ble_eq_true rfl) (hK : X.K = K := by rfl) : T X (.Compare a [.Eq] [b] pos) σ G cs (decide (x = y)) := by
  subst hK
  exact t_cmp (op_eqD (Nat.lt_of_le_of_lt (by omega) hr.un)) (nomark _) ha hb fun G1 H u v s d hu hv Q qq => ⟨_, _, q.dp hu d.same, q.dp hv d.same, shp hx hd, shp hy hd, by rw [eqv_dec]; exact qq⟩
end
end J

/-! enumerate(text); more of what changes cells within expressions -/
namespace J
open PySem PySem.Spec L2 PyProof.Rows
/-- the signs of x with their places, in new pairs -/
def IteS (x : Str) : It :=
  ⟨fun i _ => i < x.cps.size, fun i H v H' => ∃ T c, v = .ref T ∧ H T = none ∧ H' = upd H T (.tup [.int (i : Nat), .str ⟨#[c]⟩]) ∧ x.cps[i]? = some c, fun i _ => i = x.cps.size⟩
theorem draws_str {prog : Program} {w : World} {A : Around} (hh : A.handled = none) (it : Addr) (x : Str) (t : Tok) (ty : String) (hty : ty = "str_ascii_iterator" ∨ ty = "str_iterator") :
    Draws prog w A it [it] x.cps.size (fun i v => ∃ c u, x.cps[i]? = some c ∧ v = .str ⟨#[c]⟩ u) (fun i h => h.IsStrIter it ty x t i) := by
  rcases hty with e | e
  · rw [e]; exact Draws.strAscii hh it x t
  · rw [e]; exact Draws.strWide hh it x t
theorem turn_enumS {P : Program} {w : World} {K : PySem.W.Frag} {elts : List Expr} {kk : Nat} {tpos : Pos} (x : Str) (t : Tok) (ty : String) (hty : ty = "str_ascii_iterator" ∨ ty = "str_iterator") (e it : Addr) :
    Turn P w K (.Tuple elts kk tpos) (IteS x) [e, it] e (fun i h => (∃ old, IsEnum h e it ((i : Nat) : Int) old) ∧ h.IsStrIter it ty x t i ∧ e ≠ it) where
  mem := by simp
  obj := fun i h st b hb => by
    obtain ⟨⟨old, he⟩, ⟨o, ho, hc, hd⟩, _⟩ := st
    have e' : b = e ∨ b = it := by simpa using hb
    rcases e' with z | z
    · rw [z]; exact ⟨_, he, fun v q => nomatch q⟩
    · rw [z]; exact ⟨o, ho, fun v q => by rw [hd] at q; cases q⟩
  keep := fun i h h' st k => let ⟨⟨old, he⟩, hi, hne⟩ := st; ⟨⟨old, k e (by simp) _ he⟩, (let ⟨o, ho, r⟩ := hi; ⟨o, k it (by simp) o ho, r⟩), hne⟩
  item := by
    intro X hP hw hK hc i pins s σ H E I hf st hg
    subst hP hw hK
    obtain ⟨⟨old, he⟩, hit, hne⟩ := st
    have hel : e < s.heap.objs.size := Heap.lt_size he
    have hil : it < s.heap.objs.size := by obtain ⟨_, q, _⟩ := hit; exact Heap.lt_size q
    have hd : X.A.in1.handled = none := I.ok.hd hc
    refine wpAny_pyNext_enum_itemD (draws_str (prog := X.prog) (w := X.w) hd it x t ty hty) he hit hg hne (by simpa using hne) fun v h' tk hP ho hit' hT hsz hk => ?_
    obtain ⟨c, u, hcx, rfl⟩ := hP
    refine ⟨_, rfl, wpAny_letOwnedTupleGo_enum (s := { s with heap := h', toks := tk + 1 }) ho fun h'' he' sb => ?_⟩
    have hT2 : h''.get? s.heap.objs.size = some { cls := .type "tuple", data := .seq #[.int i tk, .str ⟨#[c]⟩ u] } := (sb.2 _ (Nat.ne_of_gt hel)).trans hT
    have new : ObjOk X.prog X.w (upd H s.heap.objs.size (.tup [.int (i : Nat), .str ⟨#[c]⟩])) h'' s.heap.objs.size (.tup [.int (i : Nat), .str ⟨#[c]⟩]) :=
      ⟨by show 2 ≤ sizeLine; decide, [.int i tk, .str ⟨#[c]⟩ u], .cons ⟨_, rfl⟩ (.cons ⟨_, rfl⟩ .nil), ⟨_, hT2, rfl, _, rfl⟩⟩
    have I1 : Inv X pins σ (upd H s.heap.objs.size (.tup [.int (i : Nat), .str ⟨#[c]⟩])) { s with heap := h'', toks := tk + 1 } :=
      I.turnedNew (ch := [e, it]) (fun b ob hb q => (sb.2 b (fun z => hb (by simp [z]))).trans (hk b ob (fun z => hb (by simp [z])) (fun z => hb (by simp [z])) q)) hf (Nat.le_refl _) new
    refine ⟨.ref s.heap.objs.size, _, I1, rfl, ⟨_, c, rfl, I.hok.fresh (Nat.le_refl _), rfl, hcx⟩, ⟨⟨.str ⟨#[c]⟩ u, ?_⟩, (let ⟨o, ho, r⟩ := hit'; ⟨o, (sb.2 it (Ne.symm hne)).trans ho, r⟩), hne⟩, fun b hb => ?_⟩
    · have e1 : ((i + 1 : Nat) : Int) = (i : Int) + 1 := by omega
      rw [e1]; exact he'
    · have hb' : b < s.heap.objs.size := by
        have e' : b = e ∨ b = it := by simpa using hb
        rcases e' with z | z
        · rw [z]; exact hel
        · rw [z]; exact hil
      rw [upd_ne (Nat.ne_of_lt hb')]
      exact (hf b hb).1
  done := by
    intro X hP hw hK hc i pins s σ H E I hf st hg
    subst hP hw hK
    obtain ⟨⟨old, he⟩, hit, hne⟩ := st
    obtain ⟨f0, f1, f2, f3, f4, f5⟩ := hf it (by simp)
    have hd : X.A.in1.handled = none := I.ok.hd hc
    have D := draws_str (prog := X.prog) (w := X.w) hd it x t ty hty
    have ei : i = x.cps.size := hg
    subst ei
    exact wpAny_pyNext_enum_endD D he hit fun h' eb => ⟨rfl, I.turned (t' := s.toks) (fun b o hb q => eb b o hb q) f0 f1 f3 f4 f5⟩
  self := fun A i s Q E st h => let ⟨⟨_, he⟩, _⟩ := st; wpAny_pyIter_enum he h
def iEnumS (ta : TA) : TI := fun σ H R => ta σ H fun vs H1 => ∃ x, vs = [.str x] ∧ R (IteS x) H1
theorem pi_enumS {X : Cx} {e : Expr} {ta : TA} {p pos tpos : Pos} {elts : List Expr} {kk : Nat} (hg : Gl X "enumerate") (hm : X.mg "enumerate" = none) (ha : PA X [e] ta) (hs : starEach [e] X.env = [(false, eval e X.env)] := by rfl) :
    PI X (.Tuple elts kk tpos) (.Call (.Name "enumerate" p) [e] [] pos) (iEnumS ta) := by
  refine ⟨fun pins s σ H R I h => ?_⟩
  refine Call_ (ld_blt I hg hm boot_enumerate (PyProof.Rows.callWith_type1 (thn (ha.run pos pins s σ H _ I h) fun us s1 ⟨vs, H1, I1, r1, q1⟩ => ?_) hs rfl))
  obtain ⟨x, ex, q⟩ := q1
  subst ex
  cases r1 with
  | cons r rr =>
    cases rr
    obtain ⟨t, rfl⟩ := r
    refine call_enumerate_str fun h' he hit hsz hk => wpAny_pyIter_enum he ?_
    have I2 : Inv X pins σ H1 { s1 with heap := h' } := I1.kept (t' := s1.toks) hk
    have hty : strIterType x = "str_ascii_iterator" ∨ strIterType x = "str_iterator" := by
      unfold strIterType
      split
      · exact .inl rfl
      · exact .inr rfl
    refine ⟨s1.heap.objs.size + 1, [s1.heap.objs.size + 1, s1.heap.objs.size], _, _, H1, rfl, I2, turn_enumS x t (strIterType x) hty (s1.heap.objs.size + 1) s1.heap.objs.size, ⟨⟨.none, he⟩, hit, Nat.succ_ne_self _⟩, fun b hb => ?_, q⟩
    have e' : b = s1.heap.objs.size + 1 ∨ b = s1.heap.objs.size := by simpa using hb
    have hle : s1.heap.objs.size ≤ b := by
      rcases e' with z | z
      · rw [z]; exact Nat.le_add_right _ _
      · rw [z]; exact Nat.le_refl _
    exact I1.fpOk hle (I1.hok.fresh hle)
section
variable {X : Cx} {σ : L2.St} {G : Hp} {cs : Cells} {e a b : Expr} {es : List Expr} {pos p : Pos}
theorem wd_enumS {l : List Nat} {C : Cells → Prop} : WalkD (IteS (SX.S l)) (enumL l) G C (rT X.K (cc rI (c0 rC))) :=
  ⟨fun i G1 H cs h s c d => by
    rw [enumL_length] at h
    show i < (SX.S l).cps.size
    have e : (SX.S l).cps.size = l.length := SX.S_len l
    rw [e]
    exact h, fun G1 H cs s c d => by
    show (enumL l).length = (SX.S l).cps.size
    have e : (SX.S l).cps.size = l.length := SX.S_len l
    rw [e, enumL_length], fun i x G1 H cs v H' hx s c d y => by
    obtain ⟨e1, e2⟩ := enumL_getE hx
    obtain ⟨T, n, h1, h2, h3, h4⟩ := y
    have h5 : l[i]? = some n := by simpa using h4
    rw [e2] at h5
    cases h5
    subst h3
    have sf : Same G1 (upd G1 T (.tup [.int (i : Nat), .str ⟨#[x.2]⟩])) := Same.fresh d.same h2 _
    refine ⟨_, sf, d.new h2 _, T, [.int (i : Nat), .str ⟨#[x.2]⟩], h1, SqT.of upd_same, .int (i : Nat), [.str ⟨#[x.2]⟩], rfl, ?_, .str ⟨#[x.2]⟩, rfl, rfl⟩
    show V.int _ = V.int _
    rw [e1]⟩
theorem i_enumS {elts : List Expr} {kk : Nat} {tpos : Pos} {l : List Nat} (hm : X.mg "enumerate" = none) (h : D X a σ G cs (rS l)) (hg : Gl X "enumerate" := by rfl) (hs : starEach [a] X.env = [(false, eval a X.env)] := by rfl) (hst : starEach [a] X.env = (false, eval a X.env) :: starEach [] X.env := by rfl) :
    I X (.Tuple elts kk tpos) (.Call (.Name "enumerate" p) [a] [] pos) σ G cs (fun _ => True) (enumL l) (rT X.K (cc rI (c0 rC))) :=
  ⟨_, pi_enumS hg hm (sA X [a]) hs, fun G1 H s d Rr k => a_cons h a_nil hst G1 H s d _ fun G2 H2 vs s2 d2 hvs => by
    obtain ⟨v, ws, e1, k1, k2⟩ := hvs
    cases k2
    have ev : v = .str (SX.S l) := k1
    exact ⟨SX.S l, by rw [e1, ev], k _ G2 H2 s2 d2 wd_enumS⟩⟩
/-- a list display with a star at its end: [a, b, *xs] -/
theorem a_star {α : Type} {r : α → Hp → V → Prop} {xs : List α} {p' : Pos} [∀ x, Mono (r x)] (he : D X e σ G cs (rdL X.K cs r xs)) (hs : starEach [.Starred e p'] X.env = (true, eval e X.env) :: starEach [] X.env := by rfl) : A X [.Starred e p'] σ G cs (fun G1 vs => Rs r G1 xs vs) := fun G1 H s d Q q =>
  uA (StX.pa_star (sE X e) pa_nil hs) (he G1 H s d _ fun G2 H2 v s2 d2 hv => by
    obtain ⟨l, vs, ev, hl, hr⟩ := hv.sq d2
    exact ⟨l, vs, ev, .inr hl, by
      show Q (vs ++ []) H2
      rw [List.append_nil]
      exact q G2 H2 vs s2 d2 hr⟩)
theorem ls_star {α : Type} {r : α → Hp → V → Prop} {xs : List α} : Ls r (fun G1 vs => Rs r G1 xs vs) xs := fun G vs h => h
/-- a slice's part that may change cells -/
def OC (X : Cx) (eo : Option Expr) (σ : L2.St) (G : Hp) (cs : Cells) (k : Option Int → Hp → Cells → Prop) : Prop :=
  ∀ G1 H, Same G G1 → Desc G1 cs H → ∀ Q : Option Int → Hp → Prop, (∀ G2 H2 cs2 o, Same G1 G2 → Desc G2 cs2 H2 → k o G2 cs2 → Q o H2) → wO X eo σ H Q
theorem oc_D {o : Option Int} {eo : Option Expr} {k : Option Int → Hp → Cells → Prop} (h : DO X eo σ G cs o) (c : ∀ G1, Same G G1 → k o G1 cs) : OC X eo σ G cs k := fun G1 H s d Q q => h G1 H s d Q fun G2 H2 s2 d2 => q G2 H2 cs o s2 d2 (c G2 (s.trans s2))
theorem oc_E {k : Option Int → Hp → Cells → Prop} (h : EC X e σ G cs fun v G1 cs1 => ∃ i, v = .int i ∧ k (some i) G1 cs1) : OC X (some e) σ G cs k := fun G1 H s d Q q =>
  ⟨fun pins s0 Iv => (po_some (sE X e)).run pins s0 σ H Q Iv (h G1 H s d _ fun G2 H2 cs2 v s2 d2 ⟨i, ev, hk⟩ => ⟨i, ev, q G2 H2 cs2 (some i) s2 d2 hk⟩)⟩
/-- a slice -/
def SC (r : V → Option Int → Option Int → Hp → VK → Prop) (x : V) (l u : Option Int) (G : Hp) (cs : Cells) (k : V → Hp → Cells → Prop) : Prop :=
  ∀ G1 H, Same G G1 → Desc G1 cs H → ∀ Q : VK, (∀ G2 H2 cs2 v, Same G1 G2 → Desc G2 cs2 H2 → k v G2 cs2 → Q v H2) → r x l u H Q
theorem ec_slice {lo hi : Option Expr} {p2 : Pos} {r : V → Option Int → Option Int → Hp → VK → Prop} {k : V → Hp → Cells → Prop} (hr : SlR X r) (h : EC X a σ G cs fun x G1 cs1 => OC X lo σ G1 cs1 fun l G2 cs2 => OC X hi σ G2 cs2 fun u G3 cs3 => SC r x l u G3 cs3 k) : EC X (.Subscript a (.Slice lo hi none p2) pos) σ G cs k := fun G1 H s d Q q =>
  uE (pe_slice hr (sE X a) (sO lo) (sO hi)) (h G1 H s d _ fun G2 H2 cs2 x s2 d2 h2 => h2 G2 H2 (Same.refl _) d2 _ fun G3 H3 cs3 l s3 d3 h3 => h3 G3 H3 (Same.refl _) d3 _ fun G4 H4 cs4 u s4 d4 h4 => h4 G4 H4 (Same.refl _) d4 Q fun G5 H5 cs5 v s5 d5 h5 => q G5 H5 cs5 v (((s2.trans s3).trans s4).trans s5) d5 h5)
theorem cut_S {z : List Nat} {l u : Option Int} : cutS (SX.S z) l u = SX.S (cutL z l u) := by
  unfold cutS cutL
  rw [SX.S_len]
theorem sc_str {z : List Nat} {x : V} {l u : Option Int} {k : V → Hp → Cells → Prop} (hx : rS z G x) (hz : z.length ≤ sizeLine) (c : ∀ G1, Same G G1 → k (.str (SX.S (cutL z l u))) G1 cs) : SC rSlS x l u G cs k := fun G1 H s d Q q =>
  ⟨SX.S z, hx, by rw [SX.S_len]; exact hz, by rw [cut_S]; exact q G1 H cs _ (Same.refl _) d (c G1 s)⟩
theorem sc_lst {α : Type} {r : α → Hp → V → Prop} [∀ x, Mono (r x)] {xs : List α} {x : V} {l u : Option Int} {k : V → Hp → Cells → Prop} (hx : rdL X.K cs r xs G x) (c : ∀ v G1, Same G G1 → rL X.K r (cutL xs l u) G1 v → k v G1 cs) : SC (rSlL X.K) x l u G cs k := fun G1 H s d Q q => by
  obtain ⟨y, vs, e1, h1, h2⟩ := (Mono.mono s hx).sq d
  refine ⟨y, vs, e1, h1, fun p hp => ?_⟩
  have sf : Same G1 (upd G1 p (.lst (cutV vs l u))) := Same.fresh d.same hp _
  exact q _ _ cs _ sf (d.new hp _) (c _ _ (s.trans sf) ⟨p, _, rfl, SqL.of upd_same, (rs_cut h2 l u).mono sf⟩)
/-- xs + ys, new and frozen -/
theorem rc_catL {α : Type} {r : α → Hp → V → Prop} [∀ x, Mono (r x)] {xs ys : List α} {x y : V} {k : V → Hp → Cells → Prop} (hx : rdL X.K cs r xs G x) (hy : rdL X.K cs r ys G y) (hl : xs.length + ys.length ≤ sizeLine) (c : ∀ v G1, Same G G1 → rL X.K r (xs ++ ys) G1 v → k v G1 cs) : RC (rCatW X.K) x y G cs k := fun G1 H s d Q q => by
  obtain ⟨l, vs, e, h1, h2⟩ := (Mono.mono s hx).sq d
  obtain ⟨l', vs', e', h1', h2'⟩ := (Mono.mono s hy).sq d
  refine ⟨l, l', vs, vs', e, e', h1, h1', by rw [← h2.length, ← h2'.length]; exact hl, fun p hp => ?_⟩
  have sf : Same G1 (upd G1 p (.lst (vs ++ vs'))) := Same.fresh d.same hp _
  exact q _ _ cs _ sf (d.new hp _) (c _ _ (s.trans sf) ⟨p, _, rfl, SqL.of upd_same, (Rs.append h2' h2).mono sf⟩)
/-- o.join(e) -/
theorem ec_join {z : List Nat} {o : Expr} {apos : Pos} {k : V → Hp → Cells → Prop} (ho : D X o σ G cs (rS z)) (he : EC X e σ G cs fun v G1 cs1 => ∃ ws : List (List Nat), rdL X.K cs1 rS ws G1 v ∧ (ws.map List.length).sum + ws.length * z.length ≤ 16777216 ∧ ∀ G2, Same G1 G2 → k (.str (SX.S (joiL z ws))) G2 cs1)
    (hs : starEach [e] X.env = [(false, eval e X.env)] := by rfl) (hbase : attributeBase o "join" X.env (eval o X.env) = eval o X.env := by rfl) (hline : (apos.endLine == pos.line) = true := by rfl) : EC X (.Call (.Attribute o "join" apos) [e] [] pos) σ G cs k := fun G1 H s d Q q =>
  uE (pe_join (sE X o) (sE X e) hs hbase hline) (ho G1 H s d _ fun G2 H2 u s2 d2 hu => ⟨⟨_, hu⟩, he G2 H2 (s.trans s2) d2 _ fun G3 H3 cs3 v s3 d3 hv => by
    obtain ⟨ws, hr, hz, hk⟩ := hv
    obtain ⟨l, vs, e1, hl, hr⟩ := hr.sq d3
    have ev := rs_str hr
    subst ev
    refine ⟨SX.S z, l, ws.map SX.S, hu, by rw [e1], .inl hl, ?_, q G3 H3 cs3 _ (s2.trans s3) d3 ?_⟩
    · rw [SX.lens, List.length_map, SX.S_len]
      exact hz
    · have e9 : V.str (Txt.join (SX.S z) (ws.map SX.S)) = V.str (SX.S (joiL z ws)) := by
        unfold joiL
        rw [S_tlS]
      rw [e9]
      exact hk G3 (Same.refl _)⟩)
end
section
variable {ε S' L R' : Type} {X : Cx} {W : ε → L2.St → Hp → Prop} {Φ : Po ε S' L R'} {m : Out ε S' L R'} {rest : List Stmt} {σ : L2.St} {G : Hp} {cs : Cells} {elt tg iter : Expr} {pos spos : Pos} {scope : Scope} {own : List (Str × Nat)} {α β S : Type} {xs : List α} {Pi : α → Hp → V → Prop} {r : β → Hp → V → Prop} {f : S → α → β × S} {s0 : S}
theorem b_setLcC (i : Nat) {y : Str} {py : Pos} {Sx : α → Hp → L2.St → L2.St → Prop} {C : Cells → Prop} (hcalm : X.calm = true) (hN : X.N.Nodup) (hyl : X.env.scope.names.lookup y = some .local) (hsw : swapsWith (.ListComp elt [⟨tg, iter, [], 0⟩] scope pos) (some (.Name y py)) spos.line X.env = pure true) (Nc : S → Hp → Cells → Prop) (ok : BlkOk X.N X.env.scope scope own) (hi : I X tg iter σ G cs C xs Pi) (ht : TgB X scope tg Pi Sx)
    (h0 : ∀ G1, Same G G1 → Nc s0 G1 cs) (hC : ∀ s G1 cs1 l us, Nc s G1 cs1 → C ((l, .lst us) :: cs1)) (hwipe : ∀ x G1 σ', Sx x G1 (wipe σ (own.map (·.2))) σ' → wipe σ' (own.map (·.2)) = wipe σ (own.map (·.2))) [∀ y, Mono (r y)]
    (he : ∀ pre x post, xs = pre ++ x :: post → ∀ s, s = (mapS f s0 pre).2 → ∀ G0 G1 cs1 σ' c, Same G G0 → Nc s G0 cs1 → Same G0 G1 → Sx x G1 (wipe σ (own.map (·.2))) σ' → ∀ s' H0 C cl fp, EC (X.blk s' H0 scope (compEnvC scope cl C X.env) fp) elt σ' G1 (c :: cs1) fun v G2 cs2 => ∃ cs3, cs2.Perm (c :: cs3) ∧ r (f s x).1 G2 v ∧ Nc (f s x).2 G2 cs3)
    (hsz : xs.length ≤ 16777215) (hk : ∀ l us G1 cs1, Same G G1 → Rs r G1 (mapS f s0 xs).1 us → Nc (mapS f s0 xs).2 G1 cs1 → B X W rest (σ.set i (some (.ref l))) G1 ((l, .lst us) :: cs1) Φ m) (hy : X.N[i]? = some y := by rfl)
    (hs : ∀ x, foldedSetIterable iter X.env x = pure x := by intro _; rfl) : B X W (.Assign [.Name y py] (.ListComp elt [⟨tg, iter, [], 0⟩] scope pos) spos :: rest) σ G cs Φ m := by
  obtain ⟨wi, hpi, hw⟩ := hi
  obtain ⟨g, hpg, hgt⟩ := ht
  refine b_cons (ps_setLc (te := teB X scope elt) hcalm hN hy hyl hsw hpi ok hpg (fun _ _ _ _ _ => pts_nil) (fun s H0 C cl fp => ⟨fun pins s1 σ H Q I h => (h s H0 C cl fp).run pins s1 I⟩) hs) fun H d E w => ?_
  have s : Same G G := Same.refl _
  refine hw G H s d _ fun J G2 H2 s2 d2 wk => fun l hl => ?_
  let Pv : Nat → Hp → Prop := fun i H1 => ∃ G3 us cs3, i ≤ xs.length ∧ Same G2 G3 ∧ Desc G3 ((l, .lst us) :: cs3) H1 ∧ Rs r G3 (mapS f s0 (xs.take i)).1 us ∧ Nc (mapS f s0 (xs.take i)).2 G3 cs3
  refine ⟨fun i n H1 => n = xs.length - i ∧ Pv i H1, ⟨xs.length, rfl, G2, [], cs, Nat.zero_le _, Same.refl _, d2.newCell hl _, .nil, h0 G2 (s.trans s2)⟩, ?_⟩
  rintro i n H1 ⟨rfl, G3, us, cs3, hi, s3, d3, hr, hn⟩
  by_cases hlt : i < xs.length
  · refine .inr ⟨wk.goes i G3 H1 _ hlt s3 (hC _ _ _ _ _ hn) d3, Pv (i + 1), fun H' p' => ⟨_, by omega, rfl, p'⟩, fun v H3 y => ?_⟩
    have hx : xs[i]? = some xs[i] := by simp [hlt]
    have hm : xs[i] ∈ xs := List.getElem_mem hlt
    obtain ⟨G4, s4, d4, pv⟩ := wk.yields i xs[i] G3 H1 _ v H3 hx s3 (hC _ _ _ _ _ hn) d3 y
    have et : xs.take (i + 1) = xs.take i ++ [xs[i]] := by simp
    refine hgt xs[i] v G4 _ H3 _ pv d4 _ fun σ' hS => ⟨hwipe _ _ _ hS, ?_⟩
    have ed : xs = xs.take i ++ xs[i] :: xs.drop (i + 1) := by
      rw [← List.drop_eq_getElem_cons hlt, List.take_append_drop]
    refine iteT (B := Pv (i + 1) H3) fun s5 H0 C5 cl fp => he (xs.take i) xs[i] (xs.drop (i + 1)) ed _ rfl G3 G4 cs3 σ' (l, .lst us) ((s.trans s2).trans s3) hn s4 hS s5 H0 C5 cl fp G4 H3 (Same.refl _) d4 _ fun G5 H5 cs5 w s5 d5 ⟨cs6, pm, hw, hn5⟩ => ?_
    have d6 := d5.perm pm
    refine ⟨us, d6.at_ List.mem_cons_self, ?_, G5, us ++ [w], cs6, hlt, (s3.trans s4).trans s5, d6.write (k := 0) rfl _, ?_, ?_⟩
    · rw [← hr.length, mapS_length, List.length_take, sizeLine_eq]
      omega
    · rw [et, mapS_snoc]
      exact Rs.snoc hw (hr.mono (s4.trans s5))
    · rw [et, mapS_snoc]
      exact hn5
  · have e : i = xs.length := by omega
    subst e
    rw [List.take_length] at hr hn
    exact .inl ⟨wk.stops G3 H1 _ s3 (hC _ _ _ _ _ hn) d3, hk l us G3 cs3 ((s.trans s2).trans s3) hr hn H1 d3 E (w.up ((s.trans s2).trans s3))⟩
end
/-! ### join, in plain lists -/
def joi (z : List Nat) : List (List Nat) → List Nat
  | [] => []
  | [x] => x
  | x :: y :: r => x ++ z ++ joi z (y :: r)
theorem join_S (z : List Nat) : ∀ ws : List (List Nat), PySem.Str.join (SX.S z) (ws.map SX.S) = SX.S (joi z ws)
  | [] => rfl
  | [x] => rfl
  | x :: y :: r => by
    have ih := join_S z (y :: r)
    show SX.S x ++ SX.S z ++ PySem.Str.join (SX.S z) ((y :: r).map SX.S) = SX.S (x ++ z ++ joi z (y :: r))
    rw [ih, SX.S_cat, SX.S_cat]
theorem joiL_is (z : List Nat) (ws : List (List Nat)) : joiL z ws = joi z ws := by
  unfold joiL
  have e : Txt.join (SX.S z) (ws.map SX.S) = SX.S (joi z ws) := by
    show PySem.Builtin.Str.glued _ _ = _
    rw [StrLaws.glued_eq_join, join_S]
  rw [e]
  show (SX.S (joi z ws)).cps.toList = _
  rfl
theorem joi_flat : ∀ ws : List (List Nat), joi [] ws = ws.flatten
  | [] => rfl
  | [x] => by simp [joi]
  | x :: y :: r => by
    have ih := joi_flat (y :: r)
    show x ++ [] ++ joi [] (y :: r) = _
    rw [ih, List.append_nil]
    rfl
theorem joi_len {z : List Nat} {n : Nat} : ∀ {ws : List (List Nat)}, (∀ w ∈ ws, w.length ≤ n) → (joi z ws).length ≤ ws.length * (n + z.length)
  | [], _ => Nat.zero_le _
  | [x], h => by
    have := h x List.mem_cons_self
    show x.length ≤ 1 * _
    omega
  | x :: y :: r, h => by
    have h1 := h x List.mem_cons_self
    have ih := joi_len (z := z) (n := n) (ws := y :: r) fun w hw => h w (List.mem_cons_of_mem _ hw)
    show (x ++ z ++ joi z (y :: r)).length ≤ ((y :: r).length + 1) * (n + z.length)
    rw [List.length_append, List.length_append, Nat.add_mul, Nat.one_mul]
    omega
theorem joi_all {P : Nat → Prop} {z : List Nat} (hz : ∀ c ∈ z, P c) : ∀ {ws : List (List Nat)}, (∀ w ∈ ws, ∀ c ∈ w, P c) → ∀ c ∈ joi z ws, P c
  | [], _ => fun c hc => nomatch hc
  | [x], h => h x List.mem_cons_self
  | x :: y :: r, h => fun c hc => by
    have hc' : c ∈ x ++ z ++ joi z (y :: r) := hc
    rcases List.mem_append.mp hc' with h1 | h1
    · rcases List.mem_append.mp h1 with h1 | h1
      · exact h x List.mem_cons_self c h1
      · exact hz c h1
    · exact joi_all hz (fun w hw => h w (List.mem_cons_of_mem _ hw)) c h1
theorem sum_le {ws : List (List Nat)} {n : Nat} (h : ∀ w ∈ ws, w.length ≤ n) : (ws.map List.length).sum ≤ ws.length * n := by
  induction ws with
  | nil => exact Nat.zero_le _
  | cons w ws ih =>
    have h1 := h w List.mem_cons_self
    have h2 := ih fun v hv => h v (List.mem_cons_of_mem _ hv)
    simp only [List.map_cons, List.sum_cons, List.length_cons, Nat.add_mul, Nat.one_mul]
    omega
/-- enumL's places -/
theorem enum_at {α : Type} {xs : List α} {x : Int × α} (h : x ∈ enumL xs) : 0 ≤ x.1 ∧ x.1 < (xs.length : Int) := by
  obtain ⟨i, hi, e⟩ := List.mem_iff_getElem.mp h
  have e' : (enumL xs)[i]? = some x := by rw [← e]; exact List.getElem?_eq_getElem hi
  obtain ⟨e1, _⟩ := enumL_getE e'
  rw [enumL_length] at hi
  omega
/-- a way that goes on, with I of its state -/
def NxI {ε S L R : Type} (I : S → Prop) (m : Out ε S L R) : Prop := ∃ z, m = .nx z ∧ I z
theorem NxI.mk {ε S L R : Type} {I : S → Prop} {z : S} (h : I z) : NxI I (.nx z : Out ε S L R) := ⟨z, rfl, h⟩
theorem bind_p {ε S S' L R : Type} {m : Out ε S' L R} {g : S' → Out ε S L R} {P : Out ε S L R → Prop} (I : S' → Prop) (h1 : NxI I m) (h2 : ∀ z, I z → P (g z)) : P (m.bind g) := by
  obtain ⟨z, e, h⟩ := h1
  rw [e]
  exact h2 z h
theorem ix2_all {α : Type} [Inhabited α] {P : α → Prop} {a b : α} {i : Int} (ha : P a) (hb : P b) (h0 : 0 ≤ i) (h1 : i < 2) : P (ixg [a, b] i) := by
  have h : i = 0 ∨ i = 1 := by omega
  rcases h with rfl | rfl
  · exact ha
  · exact hb
theorem ix3_all {α : Type} [Inhabited α] {P : α → Prop} {a b c : α} {i : Int} (ha : P a) (hb : P b) (hc : P c) (h0 : 0 ≤ i) (h1 : i < 3) : P (ixg [a, b, c] i) := by
  have h : i = 0 ∨ i = 1 ∨ i = 2 := by omega
  rcases h with rfl | rfl | rfl
  · exact ha
  · exact hb
  · exact hc
theorem ix4_all {α : Type} [Inhabited α] {P : α → Prop} {a b c d : α} {i : Int} (ha : P a) (hb : P b) (hc : P c) (hd : P d) (h0 : 0 ≤ i) (h1 : i < 4) : P (ixg [a, b, c, d] i) := by
  have h : i = 0 ∨ i = 1 ∨ i = 2 ∨ i = 3 := by omega
  rcases h with rfl | rfl | rfl | rfl
  · exact ha
  · exact hb
  · exact hc
  · exact hd
/-! ### calls without arguments; a tuple's place by a variable -/
section
variable {X : Cx} {σ : L2.St} {G : Hp} {cs : Cells} {e a b : Expr} {pos p : Pos}
theorem d_call0 {I O : Type} {pre : I → Hp → List V → Prop} {r : I → O → Hp → V → Prop} {m : I → O} {k j n : Nat} {x : Str} {P : Hp → V → Prop} (i : I) (F : Fn0 X.prog X.w X.K X.mg X.base CX0 k x n (SpP pre r m)) (hr : Room j X.A) (hk : k ≤ j)
    (hp : ∀ G1, Same G G1 → pre i G1 []) (hP : ∀ G v, r i (m i) G v → P G v) (hg : Gl X x := by rfl) (hd : (x == ("__debug__" : Str)) = false := by decide) : D X (.Call (.Name x p) [] [] pos) σ G cs P := by
  obtain ⟨f, fd, ps, F, hm, kp, b, _⟩ := F.ex
  intro G1 H s d Q q
  refine uE (pe_call0 F (hr.mono hk) hg hm kp b .nil pass0 (hdb := hd)) ?_
  exact ⟨i, G1, cs, d, hp G1 s, fun v G2 H2 s2 d2 hv => q G2 H2 v s2 d2 (hP _ _ hv)⟩
end
/-- xs are the first places, all alike -/
def AtAll {α : Type} (R : Hp → List V → Prop) (xs : List α) (r0 : α → Hp → V → Prop) : Prop := ∀ n y, xs[n]? = some y → At R n (r0 y)
theorem ata_e {α : Type} {R : Hp → List V → Prop} {r0 : α → Hp → V → Prop} : AtAll R ([] : List α) r0 := fun n y h => by simp at h
theorem ata_z {α β : Type} {r0 : α → Hp → V → Prop} {r' : β → Hp → List V → Prop} {x : α × β} {ys : List α} (h : AtAll (r' x.2) ys r0) : AtAll (cc r0 r' x) (x.1 :: ys) r0 := fun n y hy => by
  cases n with
  | zero =>
    have e : x.1 = y := by simpa using hy
    subst e
    exact at_z
  | succ n => exact at_s (h n y (by simpa using hy))
theorem ata_1 {α : Type} {r0 : α → Hp → V → Prop} {x : α} : AtAll (c0 r0 x) [x] r0 := fun n y hy => by
  cases n with
  | zero =>
    have e : x = y := by simpa using hy
    subst e
    exact at_1
  | succ n => simp at hy
section
variable {X : Cx} {σ : L2.St} {G : Hp} {cs : Cells} {e a b : Expr} {pos p : Pos}
theorem d_ixTv {α β : Type} [Inhabited β] {r : α → Hp → List V → Prop} [∀ x, MonoA (r x)] {x : α} {xs : List β} {r0 : β → Hp → V → Prop} {k : Int} (ha : D X a σ G cs (rT X.K r x)) (hb : D X b σ G cs (rI k)) (h : AtAll (r x) xs r0) (h0 : 0 ≤ k) (h1 : k < (xs.length : Int)) (hs : PlainIx b := by exact fun _ _ => rfl) :
    D X (.Subscript a b pos) σ G cs (r0 (ixg xs k)) := by
  obtain ⟨n, rfl⟩ : ∃ n : Nat, k = (n : Int) := ⟨k.toNat, by omega⟩
  refine d_ixT ha hb (h n _ ?_) hs
  have hn : n < xs.length := by omega
  rw [ixg_nat h0 h1]
  simp [hn]
end
/-! ### split and join -/
/-- what stands behind a list's first part -/
def joiT (c : Nat) : List (List Nat) → List Nat
  | [] => []
  | x :: r => c :: joi [c] (x :: r)
theorem joi_cons (c : Nat) (a : List Nat) (r : List (List Nat)) : joi [c] (a :: r) = a ++ joiT c r := by
  cases r with
  | nil => simp [joi, joiT]
  | cons b r => simp [joi, joiT]
theorem joiT_or (c : Nat) (r : List (List Nat)) : joiT c r = [] ∨ ∃ u, joiT c r = c :: u := by
  cases r with
  | nil => exact .inl rfl
  | cons _ _ => exact .inr ⟨_, rfl⟩
theorem tw_free {c : Nat} : ∀ {a : List Nat}, c ∉ a → ∀ t : List Nat, (t = [] ∨ ∃ u, t = c :: u) → (a ++ t).takeWhile (fun x => decide (x ≠ c)) = a
  | [], _, t, ht => by
    rcases ht with rfl | ⟨u, rfl⟩
    · rfl
    · simp
  | x :: a, h, t, ht => by
    have hx : x ≠ c := fun e => h (by rw [e]; exact List.mem_cons_self)
    have ih := tw_free (a := a) (fun q => h (List.mem_cons_of_mem _ q)) t ht
    rw [List.cons_append, List.takeWhile_cons, if_pos (by simpa using hx), ih]
theorem joi_inj {c : Nat} : ∀ {ws vs : List (List Nat)}, ws ≠ [] → vs ≠ [] → (∀ w ∈ ws, c ∉ w) → (∀ v ∈ vs, c ∉ v) → joi [c] ws = joi [c] vs → ws = vs
  | [], _, h, _, _, _, _ => absurd rfl h
  | _ :: _, [], _, h, _, _, _ => absurd rfl h
  | a :: r, b :: s, _, _, h1, h2, e => by
    rw [joi_cons, joi_cons] at e
    have t1 := joiT_or c r
    have t2 := joiT_or c s
    have f1 := tw_free (h1 a List.mem_cons_self) _ t1
    have f2 := tw_free (h2 b List.mem_cons_self) _ t2
    rw [e] at f1
    have eab : a = b := f1.symm.trans f2
    subst eab
    have e2 := List.append_cancel_left e
    cases r with
    | nil =>
      cases s with
      | nil => rfl
      | cons _ _ => exact nomatch e2
    | cons x r =>
      cases s with
      | nil => exact nomatch e2
      | cons y s =>
        have e3 : joi [c] (x :: r) = joi [c] (y :: s) := (List.cons.inj e2).2
        rw [joi_inj (by simp) (by simp) (fun w hw => h1 w (List.mem_cons_of_mem _ hw)) (fun w hw => h2 w (List.mem_cons_of_mem _ hw)) e3]
theorem joi_spl (x : List Nat) (c : Nat) : joi [c] (splL x [c]) = x := by
  have h := StrLaws.join_split (SX.S x) (SX.S [c])
  have e : Txt.split (SX.S x) (SX.S [c]) = (splL x [c]).map SX.S := by
    unfold splL
    rw [List.map_map]
    have : (SX.S ∘ tlS) = id := funext fun y => S_tlS y
    rw [this, List.map_id]
  rw [e, join_S] at h
  exact SX.S_inj h
theorem spl_free (x : List Nat) (c : Nat) : ∀ w ∈ splL x [c], c ∉ w := fun w hw => by
  unfold splL at hw
  obtain ⟨p, hp, rfl⟩ := List.mem_map.mp hw
  exact StrLaws.split_free (SX.S x) c p hp
theorem spl_is {c : Nat} {ws : List (List Nat)} (hn : ws ≠ []) (hf : ∀ w ∈ ws, c ∉ w) (hx : joi [c] ws ≠ []) : splL (joi [c] ws) [c] = ws := by
  refine joi_inj ?_ hn (spl_free _ _) hf (joi_spl _ _)
  intro h
  have q := joi_spl (joi [c] ws) c
  rw [h] at q
  exact hx q.symm
theorem joi_snoc (c : Nat) : ∀ (ws : List (List Nat)) (w : List Nat), ws ≠ [] → joi [c] (ws ++ [w]) = joi [c] ws ++ c :: w
  | [], _, h => absurd rfl h
  | [a], w, _ => by simp [joi]
  | a :: b :: r, w, _ => by
    have ih := joi_snoc c (b :: r) w (by simp)
    show a ++ [c] ++ joi [c] (b :: r ++ [w]) = a ++ [c] ++ joi [c] (b :: r) ++ c :: w
    rw [ih]
    simp
/-- the last part is the text's end -/
theorem spl_last {x : List Nat} {c : Nat} (h : 2 ≤ (splL x [c]).length) : ∃ p w ws, splL x [c] = ws ++ [w] ∧ x = p ++ w := by
  have hn : splL x [c] ≠ [] := fun e => by rw [e] at h; exact absurd h (by decide)
  obtain ⟨ws, w, e⟩ : ∃ ws w, splL x [c] = ws ++ [w] := ⟨_, _, (List.dropLast_concat_getLast hn).symm⟩
  have hw : ws ≠ [] := fun e0 => by rw [e, e0] at h; exact absurd (show 2 ≤ 1 from h) (by decide)
  have q := joi_spl x c
  rw [e, joi_snoc c ws w hw] at q
  exact ⟨joi [c] ws ++ [c], w, ws, e, by rw [← q]; simp⟩
theorem ixg_last {α : Type} [Inhabited α] (l : List α) (c : α) : ixg (l ++ [c]) (-1) = c := by
  unfold ixg
  have e : atI (l ++ [c]) (-1) = some c := by
    unfold atI ixN
    rw [if_neg (by decide), if_pos (by rw [List.length_append]; show (-((l.length + 1 : Nat) : Int)) ≤ -1; omega)]
    show (l ++ [c])[_]? = some c
    have e2 : ((-1 : Int) + ((l ++ [c]).length : Nat)).toNat = l.length := by
      rw [List.length_append]
      show ((-1 : Int) + ((l.length + 1 : Nat) : Int)).toNat = _
      omega
    rw [e2]
    simp
  rw [e]
  rfl
theorem cutL_neg {α : Type} (xs : List α) {k : Nat} (hk : 0 < k) (h : k ≤ xs.length) : cutL xs none (some (-(k : Int))) = xs.take (xs.length - k) := by
  unfold cutL
  rw [HT.sIx_none]
  have e : HT.sIx xs.length xs.length (some (-(k : Int))) = xs.length - k := by
    show (if (-(k : Int)) < 0 then ((-(k : Int)) + (xs.length : Int)).toNat else min (-(k : Int)).toNat xs.length) = _
    rw [if_pos (by omega)]
    omega
  rw [e, List.drop_zero, Nat.sub_zero]
theorem cutL_mid {α : Type} (xs : List α) {n k : Nat} (hk : 0 < k) (h : k ≤ xs.length) : cutL xs (some (n : Int)) (some (-(k : Int))) = (xs.drop n).take (xs.length - k - n) := by
  unfold cutL
  have e : HT.sIx xs.length xs.length (some (-(k : Int))) = xs.length - k := by
    show (if (-(k : Int)) < 0 then ((-(k : Int)) + (xs.length : Int)).toNat else min (-(k : Int)).toNat xs.length) = _
    rw [if_pos (by omega)]
    omega
  rw [e, HT.sIx_nat]
  by_cases hn : n ≤ xs.length
  · rw [Nat.min_eq_left hn]
  · rw [Nat.min_eq_right (by omega), List.drop_of_length_le (Nat.le_refl _), List.drop_of_length_le (by omega), List.take_nil, List.take_nil]
end J

/-! instances of the program's classes: fields, methods, making; defs that change what they are given and may raise -/
namespace J
open PySem PySem.Spec L2 PyProof.Rows
/-! ### an instance's fields: the names nf (fixed), the values vs -/
theorem lookup_zip : ∀ {nf : List Str} {vs : List V} {i : Nat} {f : Str} {v : V}, nf.Nodup → nf[i]? = some f → vs[i]? = some v → (nf.zip vs).lookup f = some v
  | [], _, i, _, _, _, h, _ => by cases i <;> cases h
  | _ :: _, [], i, _, _, _, _, h => by cases i <;> cases h
  | g :: nf, w :: vs, 0, f, v, _, h1, h2 => by
    cases h1
    cases h2
    show List.lookup g ((g, w) :: nf.zip vs) = _
    rw [List.lookup_cons, beq_self_eq_true g]
  | g :: nf, w :: vs, i + 1, f, v, hn, h1, h2 => by
    have hn' := List.nodup_cons.mp hn
    have hm : f ∈ nf := List.mem_of_getElem? (i := i) (by simpa using h1)
    have hne : (f == g) = false := by
      rw [beq_eq_false_iff_ne]
      exact fun e => hn'.1 (e ▸ hm)
    show List.lookup f ((g, w) :: nf.zip vs) = _
    rw [List.lookup_cons, hne]
    exact lookup_zip hn'.2 (by simpa using h1) (by simpa using h2)
theorem lookup_zip_no : ∀ {nf : List Str} {vs : List V} {f : Str}, f ∉ nf → (nf.zip vs).lookup f = none
  | [], _, _, _ => rfl
  | _ :: _, [], _, _ => rfl
  | g :: nf, w :: vs, f, h => by
    have hne : (f == g) = false := by
      rw [beq_eq_false_iff_ne]
      exact fun e => h (by rw [e]; exact List.mem_cons_self)
    show List.lookup f ((g, w) :: nf.zip vs) = _
    rw [List.lookup_cons, hne]
    exact lookup_zip_no fun q => h (List.mem_cons_of_mem _ q)
theorem putF_zip : ∀ {nf : List Str} {vs : List V} {i : Nat} {f : Str} {v : V}, nf.Nodup → nf[i]? = some f → i < vs.length → putF f v (nf.zip vs) = nf.zip (vs.set i v)
  | [], _, i, _, _, _, h, _ => by cases i <;> cases h
  | _ :: _, [], _, _, _, _, _, h => absurd h (Nat.not_lt_zero _)
  | g :: nf, w :: vs, 0, f, v, _, h1, _ => by
    cases h1
    show (if g = g then _ else _) = _
    rw [if_pos rfl]
    rfl
  | g :: nf, w :: vs, i + 1, f, v, hn, h1, h2 => by
    have hn' := List.nodup_cons.mp hn
    have hm : f ∈ nf := List.mem_of_getElem? (i := i) (by simpa using h1)
    have hne : ¬ g = f := fun e => hn'.1 (e ▸ hm)
    show (if g = f then _ else (g, w) :: putF f v (nf.zip vs)) = _
    rw [if_neg hne, putF_zip hn'.2 (by simpa using h1) (Nat.lt_of_succ_lt_succ h2)]
    rfl
theorem putF_new : ∀ {nf : List Str} {vs : List V} {f : Str} {v : V}, nf.Nodup → nf[vs.length]? = some f → putF f v (nf.zip vs) = nf.zip (vs ++ [v])
  | [], vs, _, _, _, h => by simp at h
  | g :: nf, [], f, v, _, h => by
    cases h
    show [(g, v)] = (g, v) :: nf.zip []
    rw [List.zip_nil_right]
  | g :: nf, w :: vs, f, v, hn, h => by
    have hn' := List.nodup_cons.mp hn
    have h' : nf[vs.length]? = some f := by simpa using h
    have hm : f ∈ nf := List.mem_of_getElem? h'
    have hne : ¬ g = f := fun e => hn'.1 (e ▸ hm)
    show (if g = f then _ else (g, w) :: putF f v (nf.zip vs)) = _
    rw [if_neg hne, putF_new hn'.2 h']
    rfl
/-- the class that a global name holds -/
def clA (mg : Str → Option Value) (x : Str) : Addr := match mg x with
  | some (.ref a) => a
  | _ => 0
theorem clA_of {mg : Str → Option Value} {x : Str} {C : Addr} (h : mg x = some (.ref C)) : clA mg x = C := by
  unfold clA
  rw [h]
/-- a class whose instances have the fields nf -/
structure ClsK (K : PySem.W.Frag) (C : Addr) (nf : List Str) : Prop where
  cl : Cls K C
  nn : nf.Nodup
  na : ∀ f ∈ nf, NoAttr K C f
  le : nf.length ≤ 900
section
variable {X : Cx} {σ : L2.St} {G : Hp} {cs : Cells} {o e : Expr} {f : Str} {pos pos' tpos : Pos} {P : Hp → V → Prop}
/-- o.f -/
theorem d_fld {a C dx : Addr} {nf : List Str} {vs : List V} {v : V} (i : Nat) (ck : ClsK X.K C nf) (ho : D X o σ G cs (rV (.ref a))) (hm : (a, HO.ins C dx (nf.zip vs)) ∈ cs) (hp : P G v) [Mono P] (hi : nf[i]? = some f := by rfl) (hv : vs[i]? = some v := by rfl) (hb : attributeBase o f X.env (eval o X.env) = eval o X.env := by rfl) :
    D X (.Attribute o f pos) σ G cs P :=
  d_by (pe_fld (sE X o) hb) fun G1 H s d Q q => ho G1 H s d _ fun G2 H2 x s2 d2 hx =>
    ⟨a, C, dx, nf.zip vs, v, hx, d2.at_ hm, ck.cl, ck.na f (List.mem_of_getElem? hi), lookup_zip ck.nn hi hv, q G2 H2 v s2 d2 (Mono.mono (s.trans s2) hp)⟩
end
section
variable {ε S L R : Type} {X : Cx} {W : ε → L2.St → Hp → Prop} {σ : L2.St} {G : Hp} {cs : Cells} {Φ : Po ε S L R} {m : Out ε S L R} {rest : List Stmt} {o e : Expr} {f : Str} {pos pos' tpos : Pos} {P : Hp → V → Prop}
/-- o.f = e, a field that is there -/
theorem b_fld {a C dx : Addr} {nf : List Str} {vs : List V} (k i : Nat) (ck : ClsK X.K C nf) (hk : cs[k]? = some (a, HO.ins C dx (nf.zip vs))) (he : D X e σ G cs P) (ho : D X o σ G cs (rV (.ref a)))
    (q : ∀ v G1, Same G G1 → P G1 v → B X W rest σ G1 (cs.set k (a, HO.ins C dx (nf.zip (vs.set i v)))) Φ m) [Mono P] (hi : nf[i]? = some f := by rfl) (hl : i < vs.length := by exact Nat.lt_of_lt_of_le (by decide) (Nat.le_refl _))
    (hs : swapsWith e (some (.Attribute o f pos')) pos.line X.env = pure false := by rfl) : B X W (.Assign [.Attribute o f pos'] e pos :: rest) σ G cs Φ m :=
  b_cons (ps_fld (sE X o) (sE X e) hs) fun H d E w => he G H (Same.refl _) d _ fun G2 H2 v s2 d2 hv => ho G2 H2 s2 d2 _ fun G3 H3 x s3 d3 hx =>
    ⟨a, C, dx, nf.zip vs, hx, d3.at_ (List.mem_of_getElem? hk), ck.cl, ck.na f (List.mem_of_getElem? hi), by rw [List.length_zip]; have := ck.le; omega, by
      rw [putF_zip ck.nn hi hl]
      exact q v G3 (s2.trans s3) (Mono.mono s3 hv) _ (d3.write hk _) E (w.up (s2.trans s3))⟩
/-- o.f = e, a field that is new -/
theorem b_fldNew {a C dx : Addr} {nf : List Str} {vs : List V} (k : Nat) (ck : ClsK X.K C nf) (hk : cs[k]? = some (a, HO.ins C dx (nf.zip vs))) (he : D X e σ G cs P) (ho : D X o σ G cs (rV (.ref a)))
    (q : ∀ v G1, Same G G1 → P G1 v → B X W rest σ G1 (cs.set k (a, HO.ins C dx (nf.zip (vs ++ [v])))) Φ m) [Mono P] (hi : nf[vs.length]? = some f := by rfl)
    (hs : swapsWith e (some (.Attribute o f pos')) pos.line X.env = pure false := by rfl) : B X W (.Assign [.Attribute o f pos'] e pos :: rest) σ G cs Φ m :=
  b_cons (ps_fld (sE X o) (sE X e) hs) fun H d E w => he G H (Same.refl _) d _ fun G2 H2 v s2 d2 hv => ho G2 H2 s2 d2 _ fun G3 H3 x s3 d3 hx =>
    ⟨a, C, dx, nf.zip vs, hx, d3.at_ (List.mem_of_getElem? hk), ck.cl, ck.na f (List.mem_of_getElem? hi), by rw [List.length_zip]; have := ck.le; omega, by
      rw [putF_new ck.nn hi]
      exact q v G3 (s2.trans s3) (Mono.mono s3 hv) _ (d3.write hk _) E (w.up (s2.trans s3))⟩
/-- o.f = a new list, which stays a cell of its own -/
theorem b_fldN {α : Type} {r : α → Hp → V → Prop} {xs : List α} {a C dx : Addr} {nf : List Str} {vs : List V} (k i : Nat) (ck : ClsK X.K C nf) (hk : cs[k]? = some (a, HO.ins C dx (nf.zip vs))) (he : N X e σ G cs r xs) (ho : ∀ c, D X o σ G (c :: cs) (rV (.ref a)))
    (q : ∀ l us G1, Same G G1 → Rs r G1 xs us → B X W rest σ G1 ((l, HO.lst us) :: cs.set k (a, HO.ins C dx (nf.zip (vs.set i (.ref l))))) Φ m) (hi : nf[i]? = some f := by rfl) (hl : i < vs.length := by exact Nat.lt_of_lt_of_le (by decide) (Nat.le_refl _)) [∀ y, Mono (r y)]
    (hs : swapsWith e (some (.Attribute o f pos')) pos.line X.env = pure false := by rfl) : B X W (.Assign [.Attribute o f pos'] e pos :: rest) σ G cs Φ m :=
  b_cons (ps_fld (sE X o) (sE X e) hs) fun H d E w => he G H (Same.refl _) d _ fun G2 H2 l us s2 d2 hv => ho (l, .lst us) G2 H2 s2 d2 _ fun G3 H3 x s3 d3 hx =>
    ⟨a, C, dx, nf.zip vs, hx, d3.at_ (List.mem_cons_of_mem _ (List.mem_of_getElem? hk)), ck.cl, ck.na f (List.mem_of_getElem? hi), by rw [List.length_zip]; have := ck.le; omega, by
      rw [putF_zip ck.nn hi hl]
      exact q l us G3 (s2.trans s3) (hv.mono s3) _ (d3.write (k := k + 1) (by simpa using hk) _) E (w.up (s2.trans s3))⟩
theorem b_fldNewN {α : Type} {r : α → Hp → V → Prop} {xs : List α} {a C dx : Addr} {nf : List Str} {vs : List V} (k : Nat) (ck : ClsK X.K C nf) (hk : cs[k]? = some (a, HO.ins C dx (nf.zip vs))) (he : N X e σ G cs r xs) (ho : ∀ c, D X o σ G (c :: cs) (rV (.ref a)))
    (q : ∀ l us G1, Same G G1 → Rs r G1 xs us → B X W rest σ G1 ((l, HO.lst us) :: cs.set k (a, HO.ins C dx (nf.zip (vs ++ [.ref l])))) Φ m) (hi : nf[vs.length]? = some f := by rfl) [∀ y, Mono (r y)]
    (hs : swapsWith e (some (.Attribute o f pos')) pos.line X.env = pure false := by rfl) : B X W (.Assign [.Attribute o f pos'] e pos :: rest) σ G cs Φ m :=
  b_cons (ps_fld (sE X o) (sE X e) hs) fun H d E w => he G H (Same.refl _) d _ fun G2 H2 l us s2 d2 hv => ho (l, .lst us) G2 H2 s2 d2 _ fun G3 H3 x s3 d3 hx =>
    ⟨a, C, dx, nf.zip vs, hx, d3.at_ (List.mem_cons_of_mem _ (List.mem_of_getElem? hk)), ck.cl, ck.na f (List.mem_of_getElem? hi), by rw [List.length_zip]; have := ck.le; omega, by
      rw [putF_new ck.nn hi]
      exact q l us G3 (s2.trans s3) (hv.mono s3) _ (d3.write (k := k + 1) (by simpa using hk) _) E (w.up (s2.trans s3))⟩
/-- o.f += e -/
theorem b_fldAdd {a C dx : Addr} {nf : List Str} {vs : List V} {z y : Int} (k i : Nat) (ck : ClsK X.K C nf) (hk : cs[k]? = some (a, HO.ins C dx (nf.zip vs))) (he : D X e σ G cs (rI y)) (ho : D X o σ G cs (rV (.ref a))) 
    (q : ∀ G1, Same G G1 → B X W rest σ G1 (cs.set k (a, HO.ins C dx (nf.zip (vs.set i (.int (z + y)))))) Φ m) (hv : vs[i]? = some (.int z) := by rfl) (hi : nf[i]? = some f := by rfl) : B X W (.AugAssign (.Attribute o f tpos) .Add e pos :: rest) σ G cs Φ m :=
  b_cons (ps_fldaug (sE X o) (sE X e) in_add) fun H d E w => ho G H (Same.refl _) d _ fun G2 H2 x s2 d2 hx =>
    ⟨a, C, dx, nf.zip vs, .int z, hx, d2.at_ (List.mem_of_getElem? hk), ck.cl, ck.na f (List.mem_of_getElem? hi), lookup_zip ck.nn hi hv, he G2 H2 s2 d2 _ fun G3 H3 u s3 d3 hu =>
      ⟨z, y, rfl, hu, dx, nf.zip vs, d3.at_ (List.mem_of_getElem? hk), by rw [List.length_zip]; have := ck.le; omega, by
        rw [putF_zip ck.nn hi (List.getElem?_eq_some_iff.mp hv).1]
        exact q G3 (s2.trans s3) _ (d3.write hk _) E (w.up (s2.trans s3))⟩⟩
end
/-! ### errors that come with what is then -/
def callF {ε T S L R O : Type} (m : Except ε O) (t : T) (g : O → Out (ε × T) S L R) : Out (ε × T) S L R := match m with
  | .ok o => g o
  | .error k => .er (k, t)
def callX {ε T T' S L R O : Type} (m : Except (ε × T) O) (g : O → Out (ε × T') S L R) (h : T → T') : Out (ε × T') S L R := match m with
  | .ok o => g o
  | .error (k, t) => .er (k, h t)
@[simp] theorem callF_ok {ε T S L R O : Type} (o : O) (t : T) (g : O → Out (ε × T) S L R) : callF (.ok o) t g = g o := rfl
@[simp] theorem callF_er {ε T S L R O : Type} (k : ε) (t : T) (g : O → Out (ε × T) S L R) : callF (.error k) t g = .er (k, t) := rfl
@[simp] theorem callX_ok {ε T T' S L R O : Type} (o : O) (g : O → Out (ε × T') S L R) (h : T → T') : callX (.ok o) g h = g o := rfl
@[simp] theorem callX_er {ε T T' S L R O : Type} (k : ε) (t : T) (g : O → Out (ε × T') S L R) (h : T → T') : callX (.error (k, t)) g h = .er (k, h t) := rfl
abbrev wE3 {n : Nat} {T : Type} (adr : Fin n → Addr) (Wx : WX) : Fin n × T → L2.St → Hp → Prop := fun e σ H => Wx (.ref (adr e.1)) none σ H
section
variable {n : Nat} {nm : Fin n → Str} {adr : Fin n → Addr} {B0 : Addr}
variable {S L R T : Type} {X : Cx} {Wx : WX} {σ : L2.St} {G : Hp} {cs : Cells} {st : Stmt} {rest body : List Stmt} {e : Expr} {es : List Expr} {pos p q : Pos}
theorem b_raiseM {Φ : Po (Fin n × T) S L R} {x m : Str} {j : Nat} {p2 p3 : Pos} {t : T} (i : Fin n) (Er : Errs X.K X.mg nm adr B0) (hc : X.calm = true) (tk : Takes X Wx) (hx : nm i = x) (k : Φ.er (i, t) σ G cs) (hg : Gl X x := by rfl) (hd : (x == ("__debug__" : Str)) = false := by decide) :
    B X (wE3 adr Wx) (.Raise (some (.Call (.Name x p) [.Constant (.str m) j p2] [] p3)) none pos :: rest) σ G cs Φ (.er (i, t)) := by
  subst hx
  have o := Er.one i
  exact b_cons (ps_raise hc tk (pmk_own F.excBase_ValueError o.ex o.mg o.kp (raises_own o.be o.ty) hg hd)) fun H d E w => w σ G cs H (Same.refl _) d k
section
variable {Φ : Po (Fin n × T) S L R} {O : Type} {P : O → Hp → V → Prop} {m : Except (Fin n) O} {t : T}
theorem b_setEM (i : Nat) {x : Str} {g : O → Out (Fin n × T) S L R} (hN : X.N.Nodup) (he : DE X adr Wx e σ G cs P m) (kr : ∀ k, m = .error k → ∀ G1, Same G G1 → Φ.er (k, t) σ G1 cs)
    (k : ∀ o, m = .ok o → ∀ v G1, Same G G1 → P o G1 v → B X (wE3 adr Wx) rest (σ.set i (some v)) G1 cs Φ (g o)) (hi : X.N[i]? = some x := by rfl) (hx : Loc X.env.scope x := by first | exact Or.inl rfl | exact Or.inr rfl)
    (hs : swapsWith e (some (.Name x p)) pos.line X.env = pure false := by rfl) (hf : X.fn x = true ∨ X.env.scope.names.lookup x = some .local := by first | exact .inl rfl | exact .inr rfl) : B X (wE3 adr Wx) (.Assign [.Name x p] e pos :: rest) σ G cs Φ (callF m t g) :=
  b_cons (ps_set hN hi hx (sE X e) hs hf) fun H d E w => he G H (Same.refl _) d _ (by
    cases hm : m with
    | ok o =>
      rw [hm] at w
      exact fun G2 H2 v s2 d2 hv => k o hm v G2 s2 hv H2 d2 E (Wish.up (m := g o) w s2)
    | error c =>
      rw [hm] at w
      exact fun G2 H2 s2 d2 => w σ G2 cs H2 s2 d2 (kr c hm G2 s2))
theorem b_retEM {g : O → R} (he : DE X adr Wx e σ G cs P m) (kr : ∀ k, m = .error k → ∀ G1, Same G G1 → Φ.er (k, t) σ G1 cs) (k : ∀ o, m = .ok o → ∀ v G1, Same G G1 → P o G1 v → Φ.rt (g o) G1 cs v) :
    B X (wE3 adr Wx) (.Return (some e) pos :: rest) σ G cs Φ (callF m t fun o => .rt (g o)) :=
  b_cons (ps_ret (sE X e)) fun H d E w => he G H (Same.refl _) d _ (by
    cases hm : m with
    | ok o =>
      rw [hm] at w
      exact fun G2 H2 v s2 d2 hv => w v G2 cs H2 s2 d2 (k o hm v G2 s2 hv)
    | error c =>
      rw [hm] at w
      exact fun G2 H2 s2 d2 => w σ G2 cs H2 s2 d2 (kr c hm G2 s2))
theorem b_exprEM {g : O → Out (Fin n × T) S L R} (he : DE X adr Wx e σ G cs P m) (kr : ∀ k, m = .error k → ∀ G1, Same G G1 → Φ.er (k, t) σ G1 cs)
    (k : ∀ o, m = .ok o → ∀ G1, Same G G1 → B X (wE3 adr Wx) rest σ G1 cs Φ (g o)) (hs : swapsWith e none pos.line X.env = pure false := by rfl) : B X (wE3 adr Wx) (.Expr e pos :: rest) σ G cs Φ (callF m t g) :=
  b_cons (ps_expr (sE X e) hs) fun H d E w => he G H (Same.refl _) d _ (by
    cases hm : m with
    | ok o =>
      rw [hm] at w
      exact fun G2 H2 v s2 d2 hv => k o hm G2 s2 H2 d2 E (Wish.up (m := g o) w s2)
    | error c =>
      rw [hm] at w
      exact fun G2 H2 s2 d2 => w σ G2 cs H2 s2 d2 (kr c hm G2 s2))
theorem b_asgEM {tg : Expr} {g : O → Out (Fin n × T) S L R} {Sx : O → Hp → L2.St → L2.St → Prop} (he : DE X adr Wx e σ G cs P m) (ht : Tg X tg P Sx) (kr : ∀ k, m = .error k → ∀ G1, Same G G1 → Φ.er (k, t) σ G1 cs)
    (k : ∀ o, m = .ok o → ∀ σ' G1, Same G G1 → Sx o G1 σ σ' → B X (wE3 adr Wx) rest σ' G1 cs Φ (g o))
    (hs : swapsWithSole [tg] e pos.line X.env = pure false := by rfl) (hw : swappedStores [tg] e X.env = pure none := by rfl) (h1 : (assignEach [tg] X.env).map (·.2) = [assign tg X.env] := by rfl) : B X (wE3 adr Wx) (.Assign [tg] e pos :: rest) σ G cs Φ (callF m t g) := by
  obtain ⟨gt, hg, h2⟩ := ht
  exact b_cons (ps_asg (sE X e) hg hs hw (h1 := h1)) fun H d E w => he G H (Same.refl _) d _ (by
    cases hm : m with
    | ok o =>
      rw [hm] at w
      exact fun G2 H2 v s2 d2 hv => h2 o v G2 cs H2 σ hv d2 _ fun σ' hS => k o hm σ' G2 s2 hS H2 d2 E (Wish.up (m := g o) w s2)
    | error c =>
      rw [hm] at w
      exact fun G2 H2 s2 d2 => w σ G2 cs H2 s2 d2 (kr c hm G2 s2))
end
/-- a call that changes cells and may raise -/
def EX (X : Cx) (adr : Fin n → Addr) (Wx : WX) (e : Expr) (σ : L2.St) (G : Hp) (cs : Cells) {O T : Type} (m : Except (Fin n × T) O) (k : O → V → Hp → Cells → Prop) (ke : Fin n → T → Hp → Cells → Prop) : Prop :=
  ∀ G1 H, Same G G1 → Desc G1 cs H → ∀ Q : VK, (match m with
    | .ok o => ∀ G2 H2 cs2 v, Same G1 G2 → Desc G2 cs2 H2 → k o v G2 cs2 → Q v H2
    | .error (i, t) => ∀ G2 H2 cs2, Same G1 G2 → Desc G2 cs2 H2 → ke i t G2 cs2 → Wx (.ref (adr i)) none σ H2) → wE X e σ H Q
section
variable {T' : Type} {Φ : Po (Fin n × T') S L R} {O : Type} {m : Except (Fin n × T) O} {h : T → T'}
theorem b_setX (i : Nat) {x : Str} {g : O → Out (Fin n × T') S L R} (hN : X.N.Nodup) (he : EX X adr Wx e σ G cs m (fun o v G1 cs1 => m = .ok o → Same G G1 → B X (wE3 adr Wx) rest (σ.set i (some v)) G1 cs1 Φ (g o)) (fun k t G1 cs1 => Same G G1 → Φ.er (k, h t) σ G1 cs1))
    (hi : X.N[i]? = some x := by rfl) (hx : Loc X.env.scope x := by first | exact Or.inl rfl | exact Or.inr rfl)
    (hs : swapsWith e (some (.Name x p)) pos.line X.env = pure false := by rfl) (hf : X.fn x = true ∨ X.env.scope.names.lookup x = some .local := by first | exact .inl rfl | exact .inr rfl) : B X (wE3 adr Wx) (.Assign [.Name x p] e pos :: rest) σ G cs Φ (callX m g h) :=
  b_cons (ps_set hN hi hx (sE X e) hs hf) fun H d E w => he G H (Same.refl _) d _ (by
    cases hm : m with
    | ok o =>
      rw [hm] at w
      exact fun G2 H2 cs2 v s2 d2 hv => hv rfl s2 H2 d2 E (Wish.up (m := g o) w s2)
    | error c =>
      obtain ⟨c, t⟩ := c
      rw [hm] at w
      exact fun G2 H2 cs2 s2 d2 hv => w σ G2 cs2 H2 s2 d2 (hv s2))
theorem b_exprX {g : O → Out (Fin n × T') S L R} (he : EX X adr Wx e σ G cs m (fun o v G1 cs1 => m = .ok o → Same G G1 → B X (wE3 adr Wx) rest σ G1 cs1 Φ (g o)) (fun k t G1 cs1 => Same G G1 → Φ.er (k, h t) σ G1 cs1))
    (hs : swapsWith e none pos.line X.env = pure false := by rfl) : B X (wE3 adr Wx) (.Expr e pos :: rest) σ G cs Φ (callX m g h) :=
  b_cons (ps_expr (sE X e) hs) fun H d E w => he G H (Same.refl _) d _ (by
    cases hm : m with
    | ok o =>
      rw [hm] at w
      exact fun G2 H2 cs2 v s2 d2 hv => hv rfl s2 H2 d2 E (Wish.up (m := g o) w s2)
    | error c =>
      obtain ⟨c, t⟩ := c
      rw [hm] at w
      exact fun G2 H2 cs2 s2 d2 hv => w σ G2 cs2 H2 s2 d2 (hv s2))
theorem b_retX {g : O → R} (he : EX X adr Wx e σ G cs m (fun o v G1 cs1 => m = .ok o → Same G G1 → Φ.rt (g o) G1 cs1 v) (fun k t G1 cs1 => Same G G1 → Φ.er (k, h t) σ G1 cs1)) : B X (wE3 adr Wx) (.Return (some e) pos :: rest) σ G cs Φ (callX m (fun o => .rt (g o)) h) :=
  b_cons (ps_ret (sE X e)) fun H d E w => he G H (Same.refl _) d _ (by
    cases hm : m with
    | ok o =>
      rw [hm] at w
      exact fun G2 H2 cs2 v s2 d2 hv => w v G2 cs2 H2 s2 d2 (hv rfl s2)
    | error c =>
      obtain ⟨c, t⟩ := c
      rw [hm] at w
      exact fun G2 H2 cs2 s2 d2 hv => w σ G2 cs2 H2 s2 d2 (hv s2))
end
end
/-! ### methods -/
structure Mt0 (P : Program) (w : World) (K : PySem.W.Frag) (mg : Str → Option Value) (base : Heap) (CX : CXT) (k : Nat) (C : Addr) (m : Str) (n : Nat) (sp : Sp) : Prop where
  ex : ∃ (f : Addr) (fd : FuncData) (ps : List Str), FnOk P w K mg base CX k f fd ps sp ∧ Meth K C m f ∧ Binds K fd ps [] ∧ ps.length = n
structure In0 (P : Program) (w : World) (K : PySem.W.Frag) (mg : Str → Option Value) (base : Heap) (CX : CXT) (k : Nat) (C : Addr) (n : Nat) (sp : Sp) : Prop where
  ex : ∃ (f : Addr) (fd : FuncData) (ps : List Str), FnOk P w K mg base CX k f fd ps sp ∧ Mk K C f ∧ Binds K fd ps [] ∧ ps.length = n
section
variable {X : Cx} {CX : CXT} {k : Nat} {f C : Addr} {fd : FuncData} {ps : List Str} {sp : Sp} {m : Str} {o e : Expr} {es : List Expr} {ta : TE} {t : TA} {apos pos : Pos}
def tMethS (C : Addr) (m : Str) (sp : Sp) (E : L2.St → XK) (ta : TE) (t : TA) : TE := fun σ H Q => ta σ H fun x H1 => ∃ a dx fs, x = .ref a ∧ H1 a = some (.ins C dx fs) ∧ fs.lookup m = none ∧ t σ H1 fun vs H2 => sp (x :: vs) H2 Q (E σ)
theorem pe_methX {pl : Sem Bool} {E : L2.St → XK} (he : PE X o ta) (c : Cls X.K C) (hm : Meth X.K C m f) (F : FnOk X.prog X.w X.K X.mg X.base CX k f fd ps sp) (hr : Room k X.A) (hb : Binds X.K fd ps []) (hx : ∀ σ, PassesAt CX X σ (E σ)) (ha : PA X (e :: es) t)
    (hst : starEach (e :: es) X.env = (false, eval e X.env) :: starEach es X.env := by rfl) (hpl : (backTo pos (starEach es X.env)).any (·.1) = false := by rfl)
    (ht : eval (.Call (.Attribute o m apos) (e :: es) [] pos) X.env = (do
      let ov ← eval o X.env
      standAt apos.atName
      let (f, first) ← holding [ov] (getMethod ov m pl)
      callWith pos f first (backTo pos (starEach (e :: es) X.env)) (backToKw pos (keywordEach [] X.env))) := by rfl) :
    PE X (.Call (.Attribute o m apos) (e :: es) [] pos) (tMethS C m sp E ta t) := by
  refine ⟨fun pins s σ H Q I h => ?_⟩
  refine PySem.W.methodCall_KW (pl := pl) (thn (he.run pins s σ H _ I h) fun u s1 ⟨x, H1, I1, rx, a, dx, fs, ex, ea, l, q⟩ => ?_) ht
  subst ex
  obtain rfl : u = Value.ref a := rx
  refine getmeth_ok I1 ea c hm l ?_
  refine PySem.W.callWith_K (first := [.ref a]) (h₀ := X.base) I.ok.mod.kin hm.kp (thn (ha.run pos pins s1 σ H1 _ I1 q) fun us s2 ⟨vs, H2, I2, r, q2⟩ => ⟨I2.kIn, ?_⟩) hst hpl
  exact run_fnS (us := .ref a :: us) (vs := .ref a :: vs) F hr hb (hx σ) I2 (.cons rfl r) q2
theorem pe_methX0 {pl : Sem Bool} {E : L2.St → XK} (he : PE X o ta) (c : Cls X.K C) (hm : Meth X.K C m f) (F : FnOk X.prog X.w X.K X.mg X.base CX k f fd ps sp) (hr : Room k X.A) (hb : Binds X.K fd ps []) (hx : ∀ σ, PassesAt CX X σ (E σ))
    (ht : eval (.Call (.Attribute o m apos) [] [] pos) X.env = (do
      let ov ← eval o X.env
      standAt apos.atName
      let (f, first) ← holding [ov] (getMethod ov m pl)
      callWith pos f first (backTo pos (starEach [] X.env)) (backToKw pos (keywordEach [] X.env))) := by rfl) :
    PE X (.Call (.Attribute o m apos) [] [] pos) (tMethS C m sp E ta tNil) := by
  refine ⟨fun pins s σ H Q I h => ?_⟩
  refine PySem.W.methodCall_KW (pl := pl) (thn (he.run pins s σ H _ I h) fun u s1 ⟨x, H1, I1, rx, a, dx, fs, ex, ea, l, q⟩ => ?_) ht
  subst ex
  obtain rfl : u = Value.ref a := rx
  refine getmeth_ok I1 ea c hm l ?_
  exact PySem.W.callWith_K0 (first := [.ref a]) I1.kIn hm.kp (run_fnS (us := [.ref a]) (vs := [.ref a]) F hr hb (hx σ) I1 (.cons rfl .nil) q)
end
section
variable {P : Program} {w : World} {K : PySem.W.Frag} {mg : Str → Option Value} {base : Heap}
theorem fn_okM {I O : Type} {x q : Str} {st : Stmt} {f : Addr} {fd : FuncData} {N ps : List Str} {k : Nat} {pre : I → Hp → Cells → List V → Prop} {post : I → List V → O → Hp → Cells → V → Prop} (F : Fun K x q st f fd) (S : FnScope N ps (defScope st)) (b : Binds K fd ps [])
    (body : I → Out Empty O Empty O) (len : ∀ i G mc vs, pre i G mc vs → vs.length = ps.length)
    (h : ∀ (cdv : Value) (A : Around) (outer : List Env) (s : Shared) (H : Hp) (E : XK) (i : I) (G : Hp) (mc cs : Cells) (vs : List V), Room k (A.deeper (envOfC q (defScope st) s.heap.objs.size f cdv)) → pre i G mc vs →
      B (cxOf CX0 P w K mg base N q (defScope st) f cdv A outer s H E).nox (fun e _ _ => e.elim) (defBody st) (start N vs) G (mc ++ cs) (PoM cs (post i vs) (fun e _ _ => e.elim)) (body i)) :
    FnOk P w K mg base CX0 (k + 1) f fd ps (SpM pre post fun i => (body i).valM) := by
  refine F.ok S (fun vs H Q E hs => ?_) (fun cdv A outer s H vs Q E hr hs => ?_)
  · obtain ⟨i, G, mc, cs, _, hp, _⟩ := hs
    exact len i G mc vs hp
  · obtain ⟨i, G, mc, cs, d, hp, q0⟩ := hs
    refine ⟨_, sSs _ (defBody st), h cdv A outer s H E i G mc cs vs hr hp H d _ ?_⟩
    cases hb : body i with
    | nx u =>
      rintro σ2 G2 cs2 H2 s2 d2 ⟨loc, mc2, pm, hr2⟩
      refine q0 _ G2 mc2 H2 s2 (d2.perm pm).drop ?_
      dsimp only
      rw [hb]
      exact hr2
    | bk l => exact l.elim
    | ct l => exact l.elim
    | rt o =>
      rintro v G2 cs2 H2 s2 d2 ⟨loc, mc2, pm, hr2⟩
      refine q0 _ G2 mc2 H2 s2 (d2.perm pm).drop ?_
      dsimp only
      rw [hb]
      exact hr2
    | er e => exact e.elim
theorem fn_okME {n : Nat} {I O S : Type} {adr : Fin n → Addr} {x q : Str} {st : Stmt} {f : Addr} {fd : FuncData} {N ps : List Str} {k : Nat} {pre : I → Hp → Cells → List V → Prop} {post : I → List V → O → Hp → Cells → V → Prop} {perr : I → List V → S → Hp → Cells → Prop} (F : Fun K x q st f fd) (Sc : FnScope N ps (defScope st)) (b : Binds K fd ps [])
    (body : I → Out (Fin n × S) O Empty O) (len : ∀ i G mc vs, pre i G mc vs → vs.length = ps.length)
    (h : ∀ (cdv : Value) (A : Around) (outer : List Env) (s : Shared) (H : Hp) (E : XK) (i : I) (G : Hp) (mc cs : Cells) (vs : List V), Room k (A.deeper (envOfC q (defScope st) s.heap.objs.size f cdv)) → pre i G mc vs →
      B (cxOf (L2.CX P w) P w K mg base N q (defScope st) f cdv A outer s H E) (fun e _ H => E (.ref (adr e.1)) none H) (defBody st) (start N vs) G (mc ++ cs) (PoM cs (post i vs) (fun e => perr i vs e.2)) (body i)) :
    FnOk P w K mg base (L2.CX P w) (k + 1) f fd ps (SpME adr pre post perr fun i => (body i).resM) := by
  refine F.okX Sc (fun vs H Q E hs => ?_) (fun cdv A outer s H vs Q E hr hs => ?_)
  · obtain ⟨i, G, mc, cs, _, hp, _⟩ := hs
    exact len i G mc vs hp
  · obtain ⟨i, G, mc, cs, d, hp, q0⟩ := hs
    refine ⟨_, sSs _ (defBody st), h cdv A outer s H E i G mc cs vs hr hp H d _ ?_⟩
    dsimp only at q0
    cases hb : body i with
    | nx u =>
      rw [hb] at q0
      rintro σ2 G2 cs2 H2 s2 d2 ⟨loc, mc2, pm, hr2⟩
      exact q0 _ G2 mc2 H2 s2 (d2.perm pm).drop hr2
    | bk l => exact l.elim
    | ct l => exact l.elim
    | rt o =>
      rw [hb] at q0
      rintro v G2 cs2 H2 s2 d2 ⟨loc, mc2, pm, hr2⟩
      exact q0 _ G2 mc2 H2 s2 (d2.perm pm).drop hr2
    | er e =>
      rw [hb] at q0
      rintro σ2 G2 cs2 H2 s2 d2 ⟨loc, mc2, pm, hr2⟩
      exact q0 G2 mc2 H2 s2 (d2.perm pm).drop hr2
end
section
variable {n : Nat} {adr : Fin n → Addr} {X : Cx} {Wx : WX} {σ : L2.St} {G : Hp} {cs : Cells} {o e : Expr} {es : List Expr} {pos p apos : Pos} {k : V → Hp → Cells → Prop}
/-- o.m(..), a method that may change what it is given -/
theorem ec_methM {I O : Type} {pre : I → Hp → Cells → List V → Prop} {post : I → List V → O → Hp → Cells → V → Prop} {mm : I → O} {j l na : Nat} {m : Str} {C a dx : Addr} {fs : List (Str × V)} {pl : Sem Bool} (F : Mt0 X.prog X.w X.K X.mg X.base CX0 j C m na (SpM pre post mm)) (ck : Cls X.K C) (hr : Room l X.A) (hk : j ≤ l)
    (ho : D X o σ G cs (rV (.ref a))) (hc : (a, HO.ins C dx fs) ∈ cs) (hl : fs.lookup m = none)
    (ha : AC X (e :: es) σ G cs fun vs G1 cs1 => ∃ i mc rest, cs1.Perm (mc ++ rest) ∧ pre i G1 mc (.ref a :: vs) ∧ ∀ v G2 mc2, Same G1 G2 → post i (.ref a :: vs) (mm i) G2 mc2 v → ∃ cs2, (mc2 ++ rest).Perm cs2 ∧ k v G2 cs2)
    (hst : starEach (e :: es) X.env = (false, eval e X.env) :: starEach es X.env := by exact star_plain rfl) (hpl : (backTo pos (starEach es X.env)).any (·.1) = false := by rfl)
    (ht : eval (.Call (.Attribute o m apos) (e :: es) [] pos) X.env = (do
      let ov ← eval o X.env
      standAt apos.atName
      let (f, first) ← holding [ov] (getMethod ov m pl)
      callWith pos f first (backTo pos (starEach (e :: es) X.env)) (backToKw pos (keywordEach [] X.env))) := by rfl) : EC X (.Call (.Attribute o m apos) (e :: es) [] pos) σ G cs k := by
  obtain ⟨f, fd, ps, F, hm, b, _⟩ := F.ex
  intro G1 H s d Q q
  refine uE (pe_meth (sE X o) ck hm F (hr.mono hk) b .nil pass0 (sA X _) (hst := hst) (hpl := hpl) (ht := ht)) (ho G1 H s d _ fun G2 H2 x s2 d2 hx => ⟨a, dx, fs, hx, d2.at_ hc, hl, ha G2 H2 (s.trans s2) d2 _ fun G3 H3 cs3 vs s3 d3 hvs => ?_⟩)
  obtain ⟨i, mc, rest, pm, hp, hq⟩ := hvs
  have ex : x = .ref a := hx
  subst ex
  refine ⟨i, G3, mc, rest, d3.perm pm, ?_, fun v G4 mc2 H4 s4 d4 hv => ?_⟩
  · rw [List.append_nil]
    exact hp
  · rw [List.append_nil] at hv
    obtain ⟨cs4, pm4, hk4⟩ := hq v G4 mc2 s4 hv
    exact q G4 H4 cs4 v ((s2.trans s3).trans s4) (d4.perm pm4) hk4
theorem ec_methM0 {I O : Type} {pre : I → Hp → Cells → List V → Prop} {post : I → List V → O → Hp → Cells → V → Prop} {mm : I → O} {j l na : Nat} {m : Str} {C a dx : Addr} {fs : List (Str × V)} {pl : Sem Bool} (F : Mt0 X.prog X.w X.K X.mg X.base CX0 j C m na (SpM pre post mm)) (ck : Cls X.K C) (hr : Room l X.A) (hk : j ≤ l)
    (ho : D X o σ G cs (rV (.ref a))) (hc : (a, HO.ins C dx fs) ∈ cs) (hl : fs.lookup m = none)
    (ha : ∀ G1, Same G G1 → ∃ i mc rest, cs.Perm (mc ++ rest) ∧ pre i G1 mc [.ref a] ∧ ∀ v G2 mc2, Same G1 G2 → post i [.ref a] (mm i) G2 mc2 v → ∃ cs2, (mc2 ++ rest).Perm cs2 ∧ k v G2 cs2)
    (ht : eval (.Call (.Attribute o m apos) [] [] pos) X.env = (do
      let ov ← eval o X.env
      standAt apos.atName
      let (f, first) ← holding [ov] (getMethod ov m pl)
      callWith pos f first (backTo pos (starEach [] X.env)) (backToKw pos (keywordEach [] X.env))) := by rfl) : EC X (.Call (.Attribute o m apos) [] [] pos) σ G cs k := by
  obtain ⟨f, fd, ps, F, hm, b, _⟩ := F.ex
  intro G1 H s d Q q
  refine uE (pe_meth0 (sE X o) ck hm F (hr.mono hk) b .nil pass0 (ht := ht)) (ho G1 H s d _ fun G2 H2 x s2 d2 hx => ⟨a, dx, fs, hx, d2.at_ hc, hl, ?_⟩)
  obtain ⟨i, mc, rest, pm, hp, hq⟩ := ha G2 (s.trans s2)
  have ex : x = .ref a := hx
  subst ex
  refine ⟨i, G2, mc, rest, d2.perm pm, hp, fun v G4 mc2 H4 s4 d4 hv => ?_⟩
  obtain ⟨cs4, pm4, hk4⟩ := hq v G4 mc2 s4 hv
  exact q G4 H4 cs4 v (s2.trans s4) (d4.perm pm4) hk4
/-- .. and may raise -/
theorem ex_methME {I O S : Type} {pre : I → Hp → Cells → List V → Prop} {post : I → List V → O → Hp → Cells → V → Prop} {perr : I → List V → S → Hp → Cells → Prop} {mm : I → Except (Fin n × S) O} {ke : Fin n → S → Hp → Cells → Prop} {kx : O → V → Hp → Cells → Prop} {j l na : Nat} {m : Str} {C a dx : Addr} {fs : List (Str × V)} {pl : Sem Bool}
    (i : I) (F : Mt0 X.prog X.w X.K X.mg X.base (L2.CX X.prog X.w) j C m na (SpME adr pre post perr mm)) (ck : Cls X.K C) (tk : Takes X Wx) (hr : Room l X.A) (hk : j ≤ l)
    (ho : D X o σ G cs (rV (.ref a))) (hc : (a, HO.ins C dx fs) ∈ cs) (hl : fs.lookup m = none)
    (ha : AC X (e :: es) σ G cs fun vs G1 cs1 => ∃ mc rest, cs1.Perm (mc ++ rest) ∧ pre i G1 mc (.ref a :: vs) ∧ (∀ o v G2 mc2, mm i = .ok o → Same G1 G2 → post i (.ref a :: vs) o G2 mc2 v → ∃ cs2, (mc2 ++ rest).Perm cs2 ∧ kx o v G2 cs2) ∧ (∀ c t G2 mc2, mm i = .error (c, t) → Same G1 G2 → perr i (.ref a :: vs) t G2 mc2 → ∃ cs2, (mc2 ++ rest).Perm cs2 ∧ ke c t G2 cs2))
    (hst : starEach (e :: es) X.env = (false, eval e X.env) :: starEach es X.env := by exact star_plain rfl) (hpl : (backTo pos (starEach es X.env)).any (·.1) = false := by rfl)
    (ht : eval (.Call (.Attribute o m apos) (e :: es) [] pos) X.env = (do
      let ov ← eval o X.env
      standAt apos.atName
      let (f, first) ← holding [ov] (getMethod ov m pl)
      callWith pos f first (backTo pos (starEach (e :: es) X.env)) (backToKw pos (keywordEach [] X.env))) := by rfl) : EX X adr Wx (.Call (.Attribute o m apos) (e :: es) [] pos) σ G cs (mm i) kx ke := by
  obtain ⟨f, fd, ps, F, hm, b, _⟩ := F.ex
  intro G1 H s d Q q
  refine uE (pe_methX (sE X o) ck hm F (hr.mono hk) b (fun σ => passAt tk σ) (sA X _) (hst := hst) (hpl := hpl) (ht := ht)) (ho G1 H s d _ fun G2 H2 x s2 d2 hx => ⟨a, dx, fs, hx, d2.at_ hc, hl, ha G2 H2 (s.trans s2) d2 _ fun G3 H3 cs3 vs s3 d3 hvs => ?_⟩)
  obtain ⟨mc, rest, pm, hp, hq, he⟩ := hvs
  have ex : x = .ref a := hx
  subst ex
  refine ⟨i, G3, mc, rest, d3.perm pm, hp, ?_⟩
  cases hm : mm i with
  | ok o =>
    rw [hm] at q
    intro v G4 mc2 H4 s4 d4 hv
    obtain ⟨cs4, pm4, hk4⟩ := hq o v G4 mc2 hm s4 hv
    exact q G4 H4 cs4 v ((s2.trans s3).trans s4) (d4.perm pm4) hk4
  | error ct =>
    obtain ⟨c, t⟩ := ct
    rw [hm] at q
    intro G4 mc2 H4 s4 d4 hv
    obtain ⟨cs4, pm4, hk4⟩ := he c t G4 mc2 hm s4 hv
    exact q G4 H4 cs4 ((s2.trans s3).trans s4) (d4.perm pm4) hk4
theorem ex_methME0 {I O S : Type} {pre : I → Hp → Cells → List V → Prop} {post : I → List V → O → Hp → Cells → V → Prop} {perr : I → List V → S → Hp → Cells → Prop} {mm : I → Except (Fin n × S) O} {ke : Fin n → S → Hp → Cells → Prop} {kx : O → V → Hp → Cells → Prop} {j l na : Nat} {m : Str} {C a dx : Addr} {fs : List (Str × V)} {pl : Sem Bool}
    (i : I) (F : Mt0 X.prog X.w X.K X.mg X.base (L2.CX X.prog X.w) j C m na (SpME adr pre post perr mm)) (ck : Cls X.K C) (tk : Takes X Wx) (hr : Room l X.A) (hk : j ≤ l)
    (ho : D X o σ G cs (rV (.ref a))) (hc : (a, HO.ins C dx fs) ∈ cs) (hl : fs.lookup m = none)
    (ha : ∀ G1, Same G G1 → ∃ mc rest, cs.Perm (mc ++ rest) ∧ pre i G1 mc [.ref a] ∧ (∀ o v G2 mc2, mm i = .ok o → Same G1 G2 → post i [.ref a] o G2 mc2 v → ∃ cs2, (mc2 ++ rest).Perm cs2 ∧ kx o v G2 cs2) ∧ (∀ c t G2 mc2, mm i = .error (c, t) → Same G1 G2 → perr i [.ref a] t G2 mc2 → ∃ cs2, (mc2 ++ rest).Perm cs2 ∧ ke c t G2 cs2))
    (ht : eval (.Call (.Attribute o m apos) [] [] pos) X.env = (do
      let ov ← eval o X.env
      standAt apos.atName
      let (f, first) ← holding [ov] (getMethod ov m pl)
      callWith pos f first (backTo pos (starEach [] X.env)) (backToKw pos (keywordEach [] X.env))) := by rfl) : EX X adr Wx (.Call (.Attribute o m apos) [] [] pos) σ G cs (mm i) kx ke := by
  obtain ⟨f, fd, ps, F, hm, b, _⟩ := F.ex
  intro G1 H s d Q q
  refine uE (pe_methX0 (sE X o) ck hm F (hr.mono hk) b (fun σ => passAt tk σ) (ht := ht)) (ho G1 H s d _ fun G2 H2 x s2 d2 hx => ⟨a, dx, fs, hx, d2.at_ hc, hl, ?_⟩)
  obtain ⟨mc, rest, pm, hp, hq, he⟩ := ha G2 (s.trans s2)
  have ex : x = .ref a := hx
  subst ex
  refine ⟨i, G2, mc, rest, d2.perm pm, hp, ?_⟩
  cases hm : mm i with
  | ok o =>
    rw [hm] at q
    intro v G4 mc2 H4 s4 d4 hv
    obtain ⟨cs4, pm4, hk4⟩ := hq o v G4 mc2 hm s4 hv
    exact q G4 H4 cs4 v (s2.trans s4) (d4.perm pm4) hk4
  | error ct =>
    obtain ⟨c, t⟩ := ct
    rw [hm] at q
    intro G4 mc2 H4 s4 d4 hv
    obtain ⟨cs4, pm4, hk4⟩ := he c t G4 mc2 hm s4 hv
    exact q G4 H4 cs4 (s2.trans s4) (d4.perm pm4) hk4
/-- f(..), a def that changes what it is given and may raise -/
theorem ex_callME {I O S : Type} {pre : I → Hp → Cells → List V → Prop} {post : I → List V → O → Hp → Cells → V → Prop} {perr : I → List V → S → Hp → Cells → Prop} {mm : I → Except (Fin n × S) O} {ke : Fin n → S → Hp → Cells → Prop} {kx : O → V → Hp → Cells → Prop} {j l na : Nat} {x : Str}
    (i : I) (F : Fn0 X.prog X.w X.K X.mg X.base (L2.CX X.prog X.w) j x na (SpME adr pre post perr mm)) (tk : Takes X Wx) (hr : Room l X.A) (hk : j ≤ l)
    (ha : AC X (e :: es) σ G cs fun vs G1 cs1 => ∃ mc rest, cs1.Perm (mc ++ rest) ∧ pre i G1 mc vs ∧ (∀ o v G2 mc2, mm i = .ok o → Same G1 G2 → post i vs o G2 mc2 v → ∃ cs2, (mc2 ++ rest).Perm cs2 ∧ kx o v G2 cs2) ∧ (∀ c t G2 mc2, mm i = .error (c, t) → Same G1 G2 → perr i vs t G2 mc2 → ∃ cs2, (mc2 ++ rest).Perm cs2 ∧ ke c t G2 cs2)) (hg : Gl X x := by rfl) (hd : (x == ("__debug__" : Str)) = false := by decide)
    (he : starEach (e :: es) X.env = (false, eval e X.env) :: starEach es X.env := by exact star_plain rfl) (hpl : (backTo pos (starEach es X.env)).any (·.1) = false := by rfl) : EX X adr Wx (.Call (.Name x p) (e :: es) [] pos) σ G cs (mm i) kx ke := by
  obtain ⟨f, fd, ps, F, hm, kp, b, _⟩ := F.ex
  intro G1 H s d Q q
  refine uE (pe_callS F (hr.mono hk) hg hm kp b (fun σ => passAt tk σ) (sA X _) (hdb := hd) (he := he) (hpl := hpl)) (ha G1 H s d _ fun G3 H3 cs3 vs s3 d3 hvs => ?_)
  obtain ⟨mc, rest, pm, hp, hq, he⟩ := hvs
  refine ⟨i, G3, mc, rest, d3.perm pm, hp, ?_⟩
  cases hm : mm i with
  | ok o =>
    rw [hm] at q
    intro v G4 mc2 H4 s4 d4 hv
    obtain ⟨cs4, pm4, hk4⟩ := hq o v G4 mc2 hm s4 hv
    exact q G4 H4 cs4 v (s3.trans s4) (d4.perm pm4) hk4
  | error ct =>
    obtain ⟨c, t⟩ := ct
    rw [hm] at q
    intro G4 mc2 H4 s4 d4 hv
    obtain ⟨cs4, pm4, hk4⟩ := he c t G4 mc2 hm s4 hv
    exact q G4 H4 cs4 (s3.trans s4) (d4.perm pm4) hk4
/-- .. and may raise -/
theorem ec_methS {I O S : Type} {pre : I → Hp → Cells → List V → Prop} {post : I → List V → O → Hp → Cells → V → Prop} {perr : I → List V → S → Hp → Cells → Prop} {mm : I → Except (Fin n × S) O} {k : V → Hp → Cells → Prop} {oo : O} {j l na : Nat} {m : Str} {C a dx : Addr} {fs : List (Str × V)} {pl : Sem Bool}
    (i : I) (F : Mt0 X.prog X.w X.K X.mg X.base (L2.CX X.prog X.w) j C m na (SpME adr pre post perr mm)) (ck : Cls X.K C) (hok : mm i = .ok oo) (hr : Room l X.A) (hk : j ≤ l)
    (ho : D X o σ G cs (rV (.ref a))) (hc : (a, HO.ins C dx fs) ∈ cs) (hl : fs.lookup m = none)
    (ha : AC X (e :: es) σ G cs fun vs G1 cs1 => ∃ mc rest, cs1.Perm (mc ++ rest) ∧ pre i G1 mc (.ref a :: vs) ∧ ∀ v G2 mc2, Same G1 G2 → post i (.ref a :: vs) oo G2 mc2 v → ∃ cs2, (mc2 ++ rest).Perm cs2 ∧ k v G2 cs2)
    (hst : starEach (e :: es) X.env = (false, eval e X.env) :: starEach es X.env := by exact star_plain rfl) (hpl : (backTo pos (starEach es X.env)).any (·.1) = false := by rfl)
    (ht : eval (.Call (.Attribute o m apos) (e :: es) [] pos) X.env = (do
      let ov ← eval o X.env
      standAt apos.atName
      let (f, first) ← holding [ov] (getMethod ov m pl)
      callWith pos f first (backTo pos (starEach (e :: es) X.env)) (backToKw pos (keywordEach [] X.env))) := by rfl) : EC X (.Call (.Attribute o m apos) (e :: es) [] pos) σ G cs k := by
  obtain ⟨f, fd, ps, F, hm, b, _⟩ := F.ex
  intro G1 H s d Q q
  refine uE (pe_methX (sE X o) ck hm F (hr.mono hk) b (E := fun _ _ _ _ => False) (fun σ pins H s u s' I c => by obtain ⟨_, _, _, _, _, _, _, _, _, _, _, _, z⟩ := c; exact z.elim) (sA X _) (hst := hst) (hpl := hpl) (ht := ht)) (ho G1 H s d _ fun G2 H2 x s2 d2 hx => ⟨a, dx, fs, hx, d2.at_ hc, hl, ha G2 H2 (s.trans s2) d2 _ fun G3 H3 cs3 vs s3 d3 hvs => ?_⟩)
  obtain ⟨mc, rest, pm, hp, hq⟩ := hvs
  have ex : x = .ref a := hx
  subst ex
  refine ⟨i, G3, mc, rest, d3.perm pm, hp, ?_⟩
  rw [hok]
  intro v G4 mc2 H4 s4 d4 hv
  obtain ⟨cs4, pm4, hk4⟩ := hq v G4 mc2 s4 hv
  exact q G4 H4 cs4 v ((s2.trans s3).trans s4) (d4.perm pm4) hk4
theorem ec_methS0 {I O S : Type} {pre : I → Hp → Cells → List V → Prop} {post : I → List V → O → Hp → Cells → V → Prop} {perr : I → List V → S → Hp → Cells → Prop} {mm : I → Except (Fin n × S) O} {k : V → Hp → Cells → Prop} {oo : O} {j l na : Nat} {m : Str} {C a dx : Addr} {fs : List (Str × V)} {pl : Sem Bool}
    (i : I) (F : Mt0 X.prog X.w X.K X.mg X.base (L2.CX X.prog X.w) j C m na (SpME adr pre post perr mm)) (ck : Cls X.K C) (hok : mm i = .ok oo) (hr : Room l X.A) (hk : j ≤ l)
    (ho : D X o σ G cs (rV (.ref a))) (hc : (a, HO.ins C dx fs) ∈ cs) (hl : fs.lookup m = none)
    (ha : ∀ G1, Same G G1 → ∃ mc rest, cs.Perm (mc ++ rest) ∧ pre i G1 mc [.ref a] ∧ ∀ v G2 mc2, Same G1 G2 → post i [.ref a] oo G2 mc2 v → ∃ cs2, (mc2 ++ rest).Perm cs2 ∧ k v G2 cs2)
    (ht : eval (.Call (.Attribute o m apos) [] [] pos) X.env = (do
      let ov ← eval o X.env
      standAt apos.atName
      let (f, first) ← holding [ov] (getMethod ov m pl)
      callWith pos f first (backTo pos (starEach [] X.env)) (backToKw pos (keywordEach [] X.env))) := by rfl) : EC X (.Call (.Attribute o m apos) [] [] pos) σ G cs k := by
  obtain ⟨f, fd, ps, F, hm, b, _⟩ := F.ex
  intro G1 H s d Q q
  refine uE (pe_methX0 (sE X o) ck hm F (hr.mono hk) b (E := fun _ _ _ _ => False) (fun σ pins H s u s' I c => by obtain ⟨_, _, _, _, _, _, _, _, _, _, _, _, z⟩ := c; exact z.elim) (ht := ht)) (ho G1 H s d _ fun G2 H2 x s2 d2 hx => ⟨a, dx, fs, hx, d2.at_ hc, hl, ?_⟩)
  obtain ⟨mc, rest, pm, hp, hq⟩ := ha G2 (s.trans s2)
  have ex : x = .ref a := hx
  subst ex
  refine ⟨i, G2, mc, rest, d2.perm pm, hp, ?_⟩
  rw [hok]
  intro v G4 mc2 H4 s4 d4 hv
  obtain ⟨cs4, pm4, hk4⟩ := hq v G4 mc2 s4 hv
  exact q G4 H4 cs4 v (s2.trans s4) (d4.perm pm4) hk4
/-- f(..), a def that changes what it is given and may raise -/
theorem ec_callS {I O S : Type} {pre : I → Hp → Cells → List V → Prop} {post : I → List V → O → Hp → Cells → V → Prop} {perr : I → List V → S → Hp → Cells → Prop} {mm : I → Except (Fin n × S) O} {k : V → Hp → Cells → Prop} {oo : O} {j l na : Nat} {x : Str}
    (i : I) (F : Fn0 X.prog X.w X.K X.mg X.base (L2.CX X.prog X.w) j x na (SpME adr pre post perr mm)) (hok : mm i = .ok oo) (hr : Room l X.A) (hk : j ≤ l)
    (ha : AC X (e :: es) σ G cs fun vs G1 cs1 => ∃ mc rest, cs1.Perm (mc ++ rest) ∧ pre i G1 mc vs ∧ ∀ v G2 mc2, Same G1 G2 → post i vs oo G2 mc2 v → ∃ cs2, (mc2 ++ rest).Perm cs2 ∧ k v G2 cs2) (hg : Gl X x := by rfl) (hd : (x == ("__debug__" : Str)) = false := by decide)
    (he : starEach (e :: es) X.env = (false, eval e X.env) :: starEach es X.env := by exact star_plain rfl) (hpl : (backTo pos (starEach es X.env)).any (·.1) = false := by rfl) : EC X (.Call (.Name x p) (e :: es) [] pos) σ G cs k := by
  obtain ⟨f, fd, ps, F, hm, kp, b, _⟩ := F.ex
  intro G1 H s d Q q
  refine uE (pe_callS F (hr.mono hk) hg hm kp b (E := fun _ _ _ _ => False) (fun σ pins H s u s' I c => by obtain ⟨_, _, _, _, _, _, _, _, _, _, _, _, z⟩ := c; exact z.elim) (sA X _) (hdb := hd) (he := he) (hpl := hpl)) (ha G1 H s d _ fun G3 H3 cs3 vs s3 d3 hvs => ?_)
  obtain ⟨mc, rest, pm, hp, hq⟩ := hvs
  refine ⟨i, G3, mc, rest, d3.perm pm, hp, ?_⟩
  rw [hok]
  intro v G4 mc2 H4 s4 d4 hv
  obtain ⟨cs4, pm4, hk4⟩ := hq v G4 mc2 s4 hv
  exact q G4 H4 cs4 v (s3.trans s4) (d4.perm pm4) hk4
/-- C(..) -/
theorem ec_make {I O : Type} {pre : I → Hp → Cells → List V → Prop} {post : I → List V → O → Hp → Cells → V → Prop} {mm : I → O} {j l na : Nat} {x : Str} {C : Addr} (F : In0 X.prog X.w X.K X.mg X.base CX0 j C na (SpM pre post mm)) (hm : X.mg x = some (.ref C)) (hr : Room l X.A) (hk : j + 1 ≤ l)
    (ha : AC X (e :: es) σ G cs fun vs G1 cs1 => ∀ a dx, ∃ i mc rest, ((a, HO.ins C dx []) :: (dx, HO.own a) :: cs1).Perm (mc ++ rest) ∧ pre i G1 mc (.ref a :: vs) ∧ ∀ v G2 mc2, Same G1 G2 → post i (.ref a :: vs) (mm i) G2 mc2 v → v = .non ∧ ∃ cs2, (mc2 ++ rest).Perm cs2 ∧ k (.ref a) G2 cs2) (hg : Gl X x := by rfl) (hd : (x == ("__debug__" : Str)) = false := by decide)
    (he : starEach (e :: es) X.env = (false, eval e X.env) :: starEach es X.env := by exact star_plain rfl) (hpl : (backTo pos (starEach es X.env)).any (·.1) = false := by rfl) : EC X (.Call (.Name x p) (e :: es) [] pos) σ G cs k := by
  obtain ⟨f, fd, ps, F, M, b, _⟩ := F.ex
  intro G1 H s d Q q
  refine uE (pe_make M F (hr.mono hk) hg hm b .nil pass0 (sA X _) (hdb := hd) (he := he) (hpl := hpl)) (ha G1 H s d _ fun G3 H3 cs3 vs s3 d3 hvs => ?_)
  intro a dx ha0 hdx hne
  obtain ⟨i, mc, rest, pm, hp, hq⟩ := hvs a dx
  have d4 := d3.newCell hdx (.own a)
  have ha1 : (upd H3 dx (.own a)) a = none := by rw [upd_ne hne.symm]; exact ha0
  have d5 := d4.newCell ha1 (.ins C dx [])
  refine ⟨i, G3, mc, rest, d5.perm pm, ?_, fun v G4 mc2 H4 s4 d6 hv => ?_⟩
  · rw [List.append_nil]
    exact hp
  · rw [List.append_nil] at hv
    obtain ⟨ev, cs4, pm4, hk4⟩ := hq v G4 mc2 s4 hv
    exact ⟨ev, q G4 H4 cs4 (.ref a) (s3.trans s4) (d6.perm pm4) hk4⟩
end
section
variable {n : Nat} {nm : Fin n → Str} {adr : Fin n → Addr} {B0 : Addr} {S L R T : Type} {X : Cx} {σ : L2.St} {G : Hp} {cs : Cells} {rest body : List Stmt} {pos q : Pos}
variable {ε S' : Type} {Φ : Po ε S L R} {W : ε → L2.St → Hp → Prop} {suite : List Stmt} {b₀ : Stmt} {np : Pos}
/-- try: .. except BankError as x: .. -/
theorem b_tryAsM {mb : Out (Fin n × T) S' L R} {mh : Fin n × T → Out ε S' L R} {g : S' → Out ε S L R} {x : Str} (i : Nat) (Mid : S' → L2.St → Hp → Cells → Prop) (Mx : Fin n × T → L2.St → Hp → Cells → Prop) (Er : Errs X.K X.mg nm adr B0) (hN : X.N.Nodup)
    (hb : ∀ (Wx : WX) (pn : List (Addr × Obj)) (xe : Value → Shared → Prop), Takes (X.tr pn xe) Wx → PassesOwn (model X.prog X.w) X.A X.env xe → B (X.tr pn xe) (wE3 adr Wx) body σ G cs { nx := Mid, lp := Φ.lp, rt := Φ.rt, er := Mx } mb)
    (hh : ∀ k, mb = .er k → ∀ (a : Addr) (oe : Obj) (pn : List (Addr × Obj)) (σ1 : L2.St) (G1 : Hp) (cs1 : Cells), Same G G1 → Mx k σ1 G1 cs1 → Zc (.ref (adr k.1)) none oe → (∃ vs, oe.data = .fields vs) →
      B (X.suite a ((a, oe) :: pn)) W (b₀ :: suite) (σ1.set i (some (.ref a))) G1 cs1 { nx := fun s σ2 => Mid s (σ2.set i none), lp := fun l σ2 => Φ.lp l (σ2.set i none), rt := Φ.rt, er := fun _ _ _ _ => False } (mh k))
    (hr : ∀ s σ2 G2 cs2, Same G G2 → Mid s σ2 G2 cs2 → tryO mb mh = .nx s → B X W rest σ2 G2 cs2 Φ (g s))
    (hs : X.stack = X.env :: X.outer := by rfl) (hf : X.env.frame = some X.env.locals := by rfl) (hi : X.N[i]? = some x := by rfl) (hln : X.env.kindOf x = some .local := by rfl) (hg : Gl X "BankError" := by rfl) :
    B X W (.Try body [.ExceptHandler (some (.Name "BankError" np)) (some x) (b₀ :: suite) q] [] [] pos :: rest) σ G cs Φ ((tryO mb mh).bind g) := by
  refine b_cons (ps_try_as (i := i) (tb := fun Wx D σ H => ∀ pn xe, Takes (X.tr pn xe) Wx → PassesOwn (model X.prog X.w) X.A X.env xe → wSs (X.tr pn xe) body D σ H) (ts := fun a cls d D σ H => ∀ oe pn, Zc cls d oe → (∃ vs, oe.data = .fields vs) → wSs (X.suite a ((a, oe) :: pn)) (b₀ :: suite) D σ H) (Wout := fun _ _ _ _ => False)
    hs hf hN hi hln ⟨hg, by decide, .inl Er.mB⟩ takes0 (fun Wx pn xe tk po => ⟨fun pins s _ _ _ I h => (h pn xe tk po).run pins s I⟩) (fun a oe cls d pn hz hfd => ⟨fun pins s _ _ _ I h => (h oe pn hz hfd).run pins s I⟩)) fun H d E w => ?_
  intro pn xe tk po
  have h1 := hb _ pn xe tk po
  refine h1 H d _ ?_
  cases hm : mb with
  | nx s =>
    rw [hm] at w hr
    exact fun σ2 G2 cs2 H2 s2 d2 p => hr s σ2 G2 cs2 s2 p rfl H2 d2 E (Wish.up (G := G) (show Wish W G Φ E (g s) from w) s2)
  | bk l =>
    rw [hm] at w
    exact fun σ2 G2 cs2 H2 s2 d2 p => w σ2 G2 cs2 H2 s2 d2 p
  | ct l =>
    rw [hm] at w
    exact fun σ2 G2 cs2 H2 s2 d2 p => w σ2 G2 cs2 H2 s2 d2 p
  | rt r =>
    rw [hm] at w
    exact fun v G2 cs2 H2 s2 d2 p => w v G2 cs2 H2 s2 d2 p
  | er k =>
    rw [hm] at w hr
    intro σ2 G2 cs2 H2 s2 d2 p
    refine ⟨true, (Er.one k.1).ca, fun _ a ha oe pn2 hz hfd => ?_, fun z => nomatch z⟩
    refine hh k hm a oe pn2 σ2 G2 cs2 s2 p hz hfd H2 d2 _ ?_
    have w2 : Wish W G Φ E ((mh k).bind g) := w
    have hr2 : ∀ s σ2 G2 cs2, Same G G2 → Mid s σ2 G2 cs2 → mh k = .nx s → B X W rest σ2 G2 cs2 Φ (g s) := hr
    cases hk : mh k with
    | nx s =>
      rw [hk] at w2
      exact fun σ3 G3 cs3 H3 s3 d3 p3 => hr2 s _ G3 cs3 (s2.trans s3) p3 hk H3 d3 E (Wish.up (G := G) (show Wish W G Φ E (g s) from w2) (s2.trans s3))
    | bk l =>
      rw [hk] at w2
      exact fun σ3 G3 cs3 H3 s3 d3 p3 => w2 _ G3 cs3 H3 (s2.trans s3) d3 p3
    | ct l =>
      rw [hk] at w2
      exact fun σ3 G3 cs3 H3 s3 d3 p3 => w2 _ G3 cs3 H3 (s2.trans s3) d3 p3
    | rt r =>
      rw [hk] at w2
      exact fun v G3 cs3 H3 s3 d3 p3 => w2 v G3 cs3 H3 (s2.trans s3) d3 p3
    | er e => exact fun _ _ _ _ _ _ z => z.elim
/-- try: .. except BankError: .. -/
theorem b_tryOnlyM {mb : Out (Fin n × T) S' L R} {mh : Fin n × T → Out ε S' L R} {g : S' → Out ε S L R} (Mid : S' → L2.St → Hp → Cells → Prop) (Mx : Fin n × T → L2.St → Hp → Cells → Prop) (Er : Errs X.K X.mg nm adr B0)
    (hb : ∀ (Wx : WX) (pn : List (Addr × Obj)) (xe : Value → Shared → Prop), Takes (X.tr pn xe) Wx → PassesOwn (model X.prog X.w) X.A X.env xe → B (X.tr pn xe) (wE3 adr Wx) body σ G cs { nx := Mid, lp := Φ.lp, rt := Φ.rt, er := Mx } mb)
    (hh : ∀ k, mb = .er k → ∀ (a : Addr) (oe : Obj) (pn : List (Addr × Obj)) (σ1 : L2.St) (G1 : Hp) (cs1 : Cells), Same G G1 → Mx k σ1 G1 cs1 → Zc (.ref (adr k.1)) none oe → (∃ vs, oe.data = .fields vs) →
      B (X.suite a ((a, oe) :: pn)) W (b₀ :: suite) σ1 G1 cs1 { nx := Mid, lp := Φ.lp, rt := Φ.rt, er := fun _ _ _ _ => False } (mh k))
    (hr : ∀ s σ2 G2 cs2, Same G G2 → Mid s σ2 G2 cs2 → tryO mb mh = .nx s → B X W rest σ2 G2 cs2 Φ (g s))
    (hs : X.stack = X.env :: X.outer := by rfl) (hf : X.env.frame = some X.env.locals := by rfl) (hg : Gl X "BankError" := by rfl) :
    B X W (.Try body [.ExceptHandler (some (.Name "BankError" np)) none (b₀ :: suite) q] [] [] pos :: rest) σ G cs Φ ((tryO mb mh).bind g) := by
  refine b_cons (ps_try_only (tb := fun Wx D σ H => ∀ pn xe, Takes (X.tr pn xe) Wx → PassesOwn (model X.prog X.w) X.A X.env xe → wSs (X.tr pn xe) body D σ H) (ts := fun a cls d D σ H => ∀ oe pn, Zc cls d oe → (∃ vs, oe.data = .fields vs) → wSs (X.suite a ((a, oe) :: pn)) (b₀ :: suite) D σ H) (Wout := fun _ _ _ _ => False)
    hs hf ⟨hg, by decide, .inl Er.mB⟩ takes0 (fun Wx pn xe tk po => ⟨fun pins s _ _ _ I h => (h pn xe tk po).run pins s I⟩) (fun a oe cls d pn hz hfd => ⟨fun pins s _ _ _ I h => (h oe pn hz hfd).run pins s I⟩)) fun H d E w => ?_
  intro pn xe tk po
  have h1 := hb _ pn xe tk po
  refine h1 H d _ ?_
  cases hm : mb with
  | nx s =>
    rw [hm] at w hr
    exact fun σ2 G2 cs2 H2 s2 d2 p => hr s σ2 G2 cs2 s2 p rfl H2 d2 E (Wish.up (G := G) (show Wish W G Φ E (g s) from w) s2)
  | bk l =>
    rw [hm] at w
    exact fun σ2 G2 cs2 H2 s2 d2 p => w σ2 G2 cs2 H2 s2 d2 p
  | ct l =>
    rw [hm] at w
    exact fun σ2 G2 cs2 H2 s2 d2 p => w σ2 G2 cs2 H2 s2 d2 p
  | rt r =>
    rw [hm] at w
    exact fun v G2 cs2 H2 s2 d2 p => w v G2 cs2 H2 s2 d2 p
  | er k =>
    rw [hm] at w hr
    intro σ2 G2 cs2 H2 s2 d2 p
    refine ⟨true, (Er.one k.1).ca, fun _ a ha oe pn2 hz hfd => ?_, fun z => nomatch z⟩
    refine hh k hm a oe pn2 σ2 G2 cs2 s2 p hz hfd H2 d2 _ ?_
    have w2 : Wish W G Φ E ((mh k).bind g) := w
    have hr2 : ∀ s σ2 G2 cs2, Same G G2 → Mid s σ2 G2 cs2 → mh k = .nx s → B X W rest σ2 G2 cs2 Φ (g s) := hr
    cases hk : mh k with
    | nx s =>
      rw [hk] at w2
      exact fun σ3 G3 cs3 H3 s3 d3 p3 => hr2 s _ G3 cs3 (s2.trans s3) p3 hk H3 d3 E (Wish.up (G := G) (show Wish W G Φ E (g s) from w2) (s2.trans s3))
    | bk l =>
      rw [hk] at w2
      exact fun σ3 G3 cs3 H3 s3 d3 p3 => w2 _ G3 cs3 H3 (s2.trans s3) d3 p3
    | ct l =>
      rw [hk] at w2
      exact fun σ3 G3 cs3 H3 s3 d3 p3 => w2 _ G3 cs3 H3 (s2.trans s3) d3 p3
    | rt r =>
      rw [hk] at w2
      exact fun v G3 cs3 H3 s3 d3 p3 => w2 v G3 cs3 H3 (s2.trans s3) d3 p3
    | er e => exact fun _ _ _ _ _ _ z => z.elim
end
end J

/-! defs and methods that read the cells they are given and change none: their calls are plain expressions -/
namespace J
open PySem PySem.Spec L2 PyProof.Rows
def SpR {I O : Type} (pre : I → Hp → Cells → List V → Prop) (r : I → O → Hp → V → Prop) (m : I → O) : Sp := fun vs H Q _ => ∃ (i : I) (G : Hp) (mc cs : Cells), Desc G (mc ++ cs) H ∧ pre i G mc vs ∧ ∀ v G2 H2, Same G G2 → Desc G2 (mc ++ cs) H2 → r i (m i) G2 v → Q v H2
def SpRE {n : Nat} {I O : Type} (adr : Fin n → Addr) (pre : I → Hp → Cells → List V → Prop) (r : I → O → Hp → V → Prop) (m : I → Except (Fin n) O) : Sp := fun vs H Q E => ∃ (i : I) (G : Hp) (mc cs : Cells), Desc G (mc ++ cs) H ∧ pre i G mc vs ∧
  (match m i with
    | .ok o => ∀ v G2 H2, Same G G2 → Desc G2 (mc ++ cs) H2 → r i o G2 v → Q v H2
    | .error k => ∀ G2 H2, Same G G2 → Desc G2 (mc ++ cs) H2 → E (.ref (adr k)) none H2)
section
variable {P : Program} {w : World} {K : PySem.W.Frag} {mg : Str → Option Value} {base : Heap}
theorem fn_okR {I O : Type} [Inhabited O] {x q : Str} {st : Stmt} {f : Addr} {fd : FuncData} {N ps : List Str} {k : Nat} {pre : I → Hp → Cells → List V → Prop} {r : I → O → Hp → V → Prop} (F : Fun K x q st f fd) (S : FnScope N ps (defScope st))
    (body : I → Out Empty Unit Empty O) (len : ∀ i G mc vs, pre i G mc vs → vs.length = ps.length)
    (h : ∀ (cdv : Value) (A : Around) (outer : List Env) (s : Shared) (H : Hp) (E : XK) (i : I) (G : Hp) (mc cs : Cells) (vs : List V), Room k (A.deeper (envOfC q (defScope st) s.heap.objs.size f cdv)) → pre i G mc vs →
      B (cxOf CX0 P w K mg base N q (defScope st) f cdv A outer s H E).nox (fun e _ _ => e.elim) (defBody st) (start N vs) G (mc ++ cs) (PoF (mc ++ cs) (r i)) (body i)) :
    FnOk P w K mg base CX0 (k + 1) f fd ps (SpR pre r fun i => (body i).val) := by
  refine F.ok S (fun vs H Q E hs => ?_) (fun cdv A outer s H vs Q E hr hs => ?_)
  · obtain ⟨i, G, mc, cs, _, hp, _⟩ := hs
    exact len i G mc vs hp
  · obtain ⟨i, G, mc, cs, d, hp, q0⟩ := hs
    refine ⟨_, sSs _ (defBody st), h cdv A outer s H E i G mc cs vs hr hp H d _ ?_⟩
    cases hb : body i with
    | nx u =>
      rintro σ2 G2 cs2 H2 s2 d2 ⟨⟨loc, rfl⟩, hr2⟩
      refine q0 _ G2 H2 s2 d2.drop ?_
      dsimp only
      rw [hb]
      exact hr2
    | bk l => exact l.elim
    | ct l => exact l.elim
    | rt o =>
      rintro v G2 cs2 H2 s2 d2 ⟨⟨loc, rfl⟩, hr2⟩
      refine q0 _ G2 H2 s2 d2.drop ?_
      dsimp only
      rw [hb]
      exact hr2
    | er e => exact e.elim
theorem fn_okRE {n : Nat} {I O : Type} [Inhabited O] {adr : Fin n → Addr} {x q : Str} {st : Stmt} {f : Addr} {fd : FuncData} {N ps : List Str} {k : Nat} {pre : I → Hp → Cells → List V → Prop} {r : I → O → Hp → V → Prop} (F : Fun K x q st f fd) (S : FnScope N ps (defScope st))
    (body : I → Out (Fin n) Unit Empty O) (len : ∀ i G mc vs, pre i G mc vs → vs.length = ps.length)
    (h : ∀ (cdv : Value) (A : Around) (outer : List Env) (s : Shared) (H : Hp) (E : XK) (i : I) (G : Hp) (mc cs : Cells) (vs : List V), Room k (A.deeper (envOfC q (defScope st) s.heap.objs.size f cdv)) → pre i G mc vs →
      B (cxOf (L2.CX P w) P w K mg base N q (defScope st) f cdv A outer s H E) (fun e _ H => E (cE adr e) none H) (defBody st) (start N vs) G (mc ++ cs) (PoF (mc ++ cs) (r i)) (body i)) :
    FnOk P w K mg base (L2.CX P w) (k + 1) f fd ps (SpRE adr pre r fun i => (body i).res) := by
  refine F.okX S (fun vs H Q E hs => ?_) (fun cdv A outer s H vs Q E hr hs => ?_)
  · obtain ⟨i, G, mc, cs, _, hp, _⟩ := hs
    exact len i G mc vs hp
  · obtain ⟨i, G, mc, cs, d, hp, q⟩ := hs
    refine ⟨_, sSs _ (defBody st), h cdv A outer s H E i G mc cs vs hr hp H d _ ?_⟩
    cases hb : body i with
    | nx u =>
      dsimp only at q
      rw [hb] at q
      rintro σ2 G2 cs2 H2 s2 d2 ⟨⟨loc, rfl⟩, hr2⟩
      exact q _ G2 H2 s2 d2.drop hr2
    | bk l => exact l.elim
    | ct l => exact l.elim
    | rt o =>
      dsimp only at q
      rw [hb] at q
      rintro v G2 cs2 H2 s2 d2 ⟨⟨loc, rfl⟩, hr2⟩
      exact q _ G2 H2 s2 d2.drop hr2
    | er e =>
      dsimp only at q
      rw [hb] at q
      rintro σ2 G2 cs2 H2 s2 d2 ⟨loc, rfl⟩
      exact q G2 H2 s2 d2.drop
end
section
variable {X : Cx} {σ : L2.St} {G : Hp} {cs : Cells} {o e : Expr} {es : List Expr} {pos p apos : Pos} {P : Hp → V → Prop}
theorem d_callR {I O : Type} {pre : I → Hp → Cells → List V → Prop} {r : I → O → Hp → V → Prop} {m : I → O} {k j n : Nat} {x : Str} {Ps : Hp → List V → Prop} (i : I) (F : Fn0 X.prog X.w X.K X.mg X.base CX0 k x n (SpR pre r m)) (hr : Room j X.A) (hk : k ≤ j)
    (ha : A X (e :: es) σ G cs Ps) (hp : ∀ G1 vs, Same G G1 → Ps G1 vs → ∃ mc rest, cs.Perm (mc ++ rest) ∧ pre i G1 mc vs) (hP : ∀ G v, r i (m i) G v → P G v) (hg : Gl X x := by rfl) (hd : (x == ("__debug__" : Str)) = false := by decide)
    (he : starEach (e :: es) X.env = (false, eval e X.env) :: starEach es X.env := by exact star_plain rfl) (hpl : (backTo pos (starEach es X.env)).any (·.1) = false := by rfl) : D X (.Call (.Name x p) (e :: es) [] pos) σ G cs P := by
  obtain ⟨f, fd, ps, F, hm, kp, b, _⟩ := F.ex
  intro G1 H s d Q q
  refine uE (pe_call F (hr.mono hk) hg hm kp b .nil pass0 (sA X _) (hdb := hd) (he := he) (hpl := hpl)) (ha G1 H s d _ fun G2 H2 vs s2 d2 hvs => ?_)
  obtain ⟨mc, rest, pm, hq⟩ := hp G2 vs (s.trans s2) hvs
  refine ⟨i, G2, mc, rest, d2.perm pm, ?_, fun v G3 H3 s3 d3 hv => q G3 H3 v (s2.trans s3) (d3.perm pm.symm) (hP _ _ ?_)⟩
  · rw [List.append_nil]
    exact hq
  · exact hv
theorem d_methR {I O : Type} {pre : I → Hp → Cells → List V → Prop} {r : I → O → Hp → V → Prop} {mm : I → O} {j l na : Nat} {m : Str} {C a dx : Addr} {fs : List (Str × V)} {pl : Sem Bool} {Ps : Hp → List V → Prop} (i : I) (F : Mt0 X.prog X.w X.K X.mg X.base CX0 j C m na (SpR pre r mm)) (ck : Cls X.K C) (hr : Room l X.A) (hk : j ≤ l)
    (ho : D X o σ G cs (rV (.ref a))) (hc : (a, HO.ins C dx fs) ∈ cs) (hl : fs.lookup m = none)
    (ha : A X (e :: es) σ G cs Ps) (hp : ∀ G1 vs, Same G G1 → Ps G1 vs → ∃ mc rest, cs.Perm (mc ++ rest) ∧ pre i G1 mc (.ref a :: vs)) (hP : ∀ G v, r i (mm i) G v → P G v)
    (hst : starEach (e :: es) X.env = (false, eval e X.env) :: starEach es X.env := by exact star_plain rfl) (hpl : (backTo pos (starEach es X.env)).any (·.1) = false := by rfl)
    (ht : eval (.Call (.Attribute o m apos) (e :: es) [] pos) X.env = (do
      let ov ← eval o X.env
      standAt apos.atName
      let (f, first) ← holding [ov] (getMethod ov m pl)
      callWith pos f first (backTo pos (starEach (e :: es) X.env)) (backToKw pos (keywordEach [] X.env))) := by rfl) : D X (.Call (.Attribute o m apos) (e :: es) [] pos) σ G cs P := by
  obtain ⟨f, fd, ps, F, hm, b, _⟩ := F.ex
  intro G1 H s d Q q
  refine uE (pe_meth (sE X o) ck hm F (hr.mono hk) b .nil pass0 (sA X _) (hst := hst) (hpl := hpl) (ht := ht)) (ho G1 H s d _ fun G2 H2 x s2 d2 hx => ⟨a, dx, fs, hx, d2.at_ hc, hl, ha G2 H2 (s.trans s2) d2 _ fun G3 H3 vs s3 d3 hvs => ?_⟩)
  obtain ⟨mc, rest, pm, hq⟩ := hp G3 vs ((s.trans s2).trans s3) hvs
  have ex : x = .ref a := hx
  subst ex
  refine ⟨i, G3, mc, rest, d3.perm pm, ?_, fun v G4 H4 s4 d4 hv => q G4 H4 v ((s2.trans s3).trans s4) (d4.perm pm.symm) (hP _ _ ?_)⟩
  · rw [List.append_nil]
    exact hq
  · exact hv
theorem d_methR0 {I O : Type} {pre : I → Hp → Cells → List V → Prop} {r : I → O → Hp → V → Prop} {mm : I → O} {j l na : Nat} {m : Str} {C a dx : Addr} {fs : List (Str × V)} {pl : Sem Bool} (i : I) (F : Mt0 X.prog X.w X.K X.mg X.base CX0 j C m na (SpR pre r mm)) (ck : Cls X.K C) (hr : Room l X.A) (hk : j ≤ l)
    (ho : D X o σ G cs (rV (.ref a))) (hc : (a, HO.ins C dx fs) ∈ cs) (hl : fs.lookup m = none)
    (hp : ∀ G1, Same G G1 → ∃ mc rest, cs.Perm (mc ++ rest) ∧ pre i G1 mc [.ref a]) (hP : ∀ G v, r i (mm i) G v → P G v)
    (ht : eval (.Call (.Attribute o m apos) [] [] pos) X.env = (do
      let ov ← eval o X.env
      standAt apos.atName
      let (f, first) ← holding [ov] (getMethod ov m pl)
      callWith pos f first (backTo pos (starEach [] X.env)) (backToKw pos (keywordEach [] X.env))) := by rfl) : D X (.Call (.Attribute o m apos) [] [] pos) σ G cs P := by
  obtain ⟨f, fd, ps, F, hm, b, _⟩ := F.ex
  intro G1 H s d Q q
  refine uE (pe_meth0 (sE X o) ck hm F (hr.mono hk) b .nil pass0 (ht := ht)) (ho G1 H s d _ fun G2 H2 x s2 d2 hx => ⟨a, dx, fs, hx, d2.at_ hc, hl, ?_⟩)
  obtain ⟨mc, rest, pm, hq⟩ := hp G2 (s.trans s2)
  have ex : x = .ref a := hx
  subst ex
  exact ⟨i, G2, mc, rest, d2.perm pm, hq, fun v G4 H4 s4 d4 hv => q G4 H4 v (s2.trans s4) (d4.perm pm.symm) (hP _ _ hv)⟩
section
variable {n : Nat} {adr : Fin n → Addr} {Wx : WX}
/-- as DE, with any place for the errors -/
def DX (X : Cx) (adr : Fin n → Addr) (Ex : Value → Hp → Prop) (e : Expr) (σ : L2.St) (G : Hp) (cs : Cells) {O : Type} (P : O → Hp → V → Prop) (m : Except (Fin n) O) : Prop :=
  ∀ G1 H, Same G G1 → Desc G1 cs H → ∀ Q : VK, (match m with
    | .ok o => ∀ G2 H2 v, Same G1 G2 → Desc G2 cs H2 → P o G2 v → Q v H2
    | .error k => ∀ G2 H2, Same G1 G2 → Desc G2 cs H2 → Ex (.ref (adr k)) H2) → wE X e σ H Q
theorem dx_callR {I O : Type} {pre : I → Hp → Cells → List V → Prop} {r : I → O → Hp → V → Prop} {m : I → Except (Fin n) O} {Q' : O → Hp → V → Prop} {k j na : Nat} {x : Str} {Ps : Hp → List V → Prop} {E : L2.St → XK} (hx : ∀ σ, PassesAt (L2.CX X.prog X.w) X σ (E σ)) (i : I) (F : Fn0 X.prog X.w X.K X.mg X.base (L2.CX X.prog X.w) k x na (SpRE adr pre r m)) (hr : Room j X.A) (hk : k ≤ j)
    (ha : A X (e :: es) σ G cs Ps) (hp : ∀ G1 vs, Same G G1 → Ps G1 vs → ∃ mc rest, cs.Perm (mc ++ rest) ∧ pre i G1 mc vs) (hP : ∀ o G v, r i o G v → Q' o G v) (hg : Gl X x) (hd : (x == ("__debug__" : Str)) = false)
    (he : starEach (e :: es) X.env = (false, eval e X.env) :: starEach es X.env) (hpl : (backTo pos (starEach es X.env)).any (·.1) = false) : DX X adr (fun c H => E σ c none H) (.Call (.Name x p) (e :: es) [] pos) σ G cs Q' (m i) := by
  obtain ⟨f, fd, ps, F, hm, kp, b, _⟩ := F.ex
  intro G1 H s d Q q
  refine uE (pe_callS F (hr.mono hk) hg hm kp b hx (sA X _) (hdb := hd) (he := he) (hpl := hpl)) (ha G1 H s d _ fun G2 H2 vs s2 d2 hvs => ?_)
  obtain ⟨mc, rest, pm, hq⟩ := hp G2 vs (s.trans s2) hvs
  refine ⟨i, G2, mc, rest, d2.perm pm, hq, ?_⟩
  cases hm : m i with
  | ok o =>
    rw [hm] at q
    exact fun v G3 H3 s3 d3 hv => q G3 H3 v (s2.trans s3) (d3.perm pm.symm) (hP _ _ _ hv)
  | error k =>
    rw [hm] at q
    exact fun G3 H3 s3 d3 => q G3 H3 (s2.trans s3) (d3.perm pm.symm)
theorem dx_methR {I O : Type} {pre : I → Hp → Cells → List V → Prop} {r : I → O → Hp → V → Prop} {mm : I → Except (Fin n) O} {Q' : O → Hp → V → Prop} {j l na : Nat} {m : Str} {C a dx : Addr} {fs : List (Str × V)} {pl : Sem Bool} {Ps : Hp → List V → Prop} {E : L2.St → XK} (hx : ∀ σ, PassesAt (L2.CX X.prog X.w) X σ (E σ)) (i : I) (F : Mt0 X.prog X.w X.K X.mg X.base (L2.CX X.prog X.w) j C m na (SpRE adr pre r mm)) (ck : Cls X.K C) (hr : Room l X.A) (hk : j ≤ l)
    (ho : D X o σ G cs (rV (.ref a))) (hc : (a, HO.ins C dx fs) ∈ cs) (hl : fs.lookup m = none)
    (ha : A X (e :: es) σ G cs Ps) (hp : ∀ G1 vs, Same G G1 → Ps G1 vs → ∃ mc rest, cs.Perm (mc ++ rest) ∧ pre i G1 mc (.ref a :: vs)) (hP : ∀ o G v, r i o G v → Q' o G v)
    (hst : starEach (e :: es) X.env = (false, eval e X.env) :: starEach es X.env) (hpl : (backTo pos (starEach es X.env)).any (·.1) = false)
    (ht : eval (.Call (.Attribute o m apos) (e :: es) [] pos) X.env = (do
      let ov ← eval o X.env
      standAt apos.atName
      let (f, first) ← holding [ov] (getMethod ov m pl)
      callWith pos f first (backTo pos (starEach (e :: es) X.env)) (backToKw pos (keywordEach [] X.env)))) : DX X adr (fun c H => E σ c none H) (.Call (.Attribute o m apos) (e :: es) [] pos) σ G cs Q' (mm i) := by
  obtain ⟨f, fd, ps, F, hm, b, _⟩ := F.ex
  intro G1 H s d Q q
  refine uE (pe_methX (sE X o) ck hm F (hr.mono hk) b hx (sA X _) (hst := hst) (hpl := hpl) (ht := ht)) (ho G1 H s d _ fun G2 H2 x s2 d2 hx => ⟨a, dx, fs, hx, d2.at_ hc, hl, ha G2 H2 (s.trans s2) d2 _ fun G3 H3 vs s3 d3 hvs => ?_⟩)
  obtain ⟨mc, rest, pm, hq⟩ := hp G3 vs ((s.trans s2).trans s3) hvs
  have ex : x = .ref a := hx
  subst ex
  refine ⟨i, G3, mc, rest, d3.perm pm, hq, ?_⟩
  cases hm : mm i with
  | ok o =>
    rw [hm] at q
    exact fun v G4 H4 s4 d4 hv => q G4 H4 v ((s2.trans s3).trans s4) (d4.perm pm.symm) (hP _ _ _ hv)
  | error k =>
    rw [hm] at q
    exact fun G4 H4 s4 d4 => q G4 H4 ((s2.trans s3).trans s4) (d4.perm pm.symm)
theorem dx_methR0 {I O : Type} {pre : I → Hp → Cells → List V → Prop} {r : I → O → Hp → V → Prop} {mm : I → Except (Fin n) O} {Q' : O → Hp → V → Prop} {j l na : Nat} {m : Str} {C a dx : Addr} {fs : List (Str × V)} {pl : Sem Bool} {E : L2.St → XK} (hx : ∀ σ, PassesAt (L2.CX X.prog X.w) X σ (E σ)) (i : I) (F : Mt0 X.prog X.w X.K X.mg X.base (L2.CX X.prog X.w) j C m na (SpRE adr pre r mm)) (ck : Cls X.K C) (hr : Room l X.A) (hk : j ≤ l)
    (ho : D X o σ G cs (rV (.ref a))) (hc : (a, HO.ins C dx fs) ∈ cs) (hl : fs.lookup m = none)
    (hp : ∀ G1, Same G G1 → ∃ mc rest, cs.Perm (mc ++ rest) ∧ pre i G1 mc [.ref a]) (hP : ∀ o G v, r i o G v → Q' o G v)
    (ht : eval (.Call (.Attribute o m apos) [] [] pos) X.env = (do
      let ov ← eval o X.env
      standAt apos.atName
      let (f, first) ← holding [ov] (getMethod ov m pl)
      callWith pos f first (backTo pos (starEach [] X.env)) (backToKw pos (keywordEach [] X.env)))) : DX X adr (fun c H => E σ c none H) (.Call (.Attribute o m apos) [] [] pos) σ G cs Q' (mm i) := by
  obtain ⟨f, fd, ps, F, hm, b, _⟩ := F.ex
  intro G1 H s d Q q
  refine uE (pe_methX0 (sE X o) ck hm F (hr.mono hk) b hx (ht := ht)) (ho G1 H s d _ fun G2 H2 x s2 d2 hx => ⟨a, dx, fs, hx, d2.at_ hc, hl, ?_⟩)
  obtain ⟨mc, rest, pm, hq⟩ := hp G2 (s.trans s2)
  have ex : x = .ref a := hx
  subst ex
  refine ⟨i, G2, mc, rest, d2.perm pm, hq, ?_⟩
  cases hm : mm i with
  | ok o =>
    rw [hm] at q
    exact fun v G4 H4 s4 d4 hv => q G4 H4 v (s2.trans s4) (d4.perm pm.symm) (hP _ _ _ hv)
  | error k =>
    rw [hm] at q
    exact fun G4 H4 s4 d4 => q G4 H4 (s2.trans s4) (d4.perm pm.symm)
theorem DX.ok {Ex : Value → Hp → Prop} {O : Type} {Q' : O → Hp → V → Prop} {m : Except (Fin n) O} {oo : O} (h : DX X adr Ex e σ G cs Q' m) (hm : m = .ok oo) : D X e σ G cs (Q' oo) := by
  subst hm
  exact fun G1 H s d Q q => h G1 H s d Q q
/-- a call that may raise -/
theorem de_callR {I O : Type} {pre : I → Hp → Cells → List V → Prop} {r : I → O → Hp → V → Prop} {m : I → Except (Fin n) O} {Q' : O → Hp → V → Prop} {k j na : Nat} {x : Str} {Ps : Hp → List V → Prop} (i : I) (F : Fn0 X.prog X.w X.K X.mg X.base (L2.CX X.prog X.w) k x na (SpRE adr pre r m)) (tk : Takes X Wx) (hr : Room j X.A) (hk : k ≤ j)
    (ha : A X (e :: es) σ G cs Ps) (hp : ∀ G1 vs, Same G G1 → Ps G1 vs → ∃ mc rest, cs.Perm (mc ++ rest) ∧ pre i G1 mc vs) (hP : ∀ o G v, r i o G v → Q' o G v) (hg : Gl X x := by rfl) (hd : (x == ("__debug__" : Str)) = false := by decide)
    (he : starEach (e :: es) X.env = (false, eval e X.env) :: starEach es X.env := by exact star_plain rfl) (hpl : (backTo pos (starEach es X.env)).any (·.1) = false := by rfl) : DE X adr Wx (.Call (.Name x p) (e :: es) [] pos) σ G cs Q' (m i) :=
  dx_callR (fun σ => passAt tk σ) i F hr hk ha hp hP hg hd he hpl
theorem de_methR {I O : Type} {pre : I → Hp → Cells → List V → Prop} {r : I → O → Hp → V → Prop} {mm : I → Except (Fin n) O} {Q' : O → Hp → V → Prop} {j l na : Nat} {m : Str} {C a dx : Addr} {fs : List (Str × V)} {pl : Sem Bool} {Ps : Hp → List V → Prop} (i : I) (F : Mt0 X.prog X.w X.K X.mg X.base (L2.CX X.prog X.w) j C m na (SpRE adr pre r mm)) (ck : Cls X.K C) (tk : Takes X Wx) (hr : Room l X.A) (hk : j ≤ l)
    (ho : D X o σ G cs (rV (.ref a))) (hc : (a, HO.ins C dx fs) ∈ cs) (hl : fs.lookup m = none)
    (ha : A X (e :: es) σ G cs Ps) (hp : ∀ G1 vs, Same G G1 → Ps G1 vs → ∃ mc rest, cs.Perm (mc ++ rest) ∧ pre i G1 mc (.ref a :: vs)) (hP : ∀ o G v, r i o G v → Q' o G v)
    (hst : starEach (e :: es) X.env = (false, eval e X.env) :: starEach es X.env := by exact star_plain rfl) (hpl : (backTo pos (starEach es X.env)).any (·.1) = false := by rfl)
    (ht : eval (.Call (.Attribute o m apos) (e :: es) [] pos) X.env = (do
      let ov ← eval o X.env
      standAt apos.atName
      let (f, first) ← holding [ov] (getMethod ov m pl)
      callWith pos f first (backTo pos (starEach (e :: es) X.env)) (backToKw pos (keywordEach [] X.env))) := by rfl) : DE X adr Wx (.Call (.Attribute o m apos) (e :: es) [] pos) σ G cs Q' (mm i) :=
  dx_methR (fun σ => passAt tk σ) i F ck hr hk ho hc hl ha hp hP hst hpl ht
theorem de_methR0 {I O : Type} {pre : I → Hp → Cells → List V → Prop} {r : I → O → Hp → V → Prop} {mm : I → Except (Fin n) O} {Q' : O → Hp → V → Prop} {j l na : Nat} {m : Str} {C a dx : Addr} {fs : List (Str × V)} {pl : Sem Bool} (i : I) (F : Mt0 X.prog X.w X.K X.mg X.base (L2.CX X.prog X.w) j C m na (SpRE adr pre r mm)) (ck : Cls X.K C) (tk : Takes X Wx) (hr : Room l X.A) (hk : j ≤ l)
    (ho : D X o σ G cs (rV (.ref a))) (hc : (a, HO.ins C dx fs) ∈ cs) (hl : fs.lookup m = none)
    (hp : ∀ G1, Same G G1 → ∃ mc rest, cs.Perm (mc ++ rest) ∧ pre i G1 mc [.ref a]) (hP : ∀ o G v, r i o G v → Q' o G v)
    (ht : eval (.Call (.Attribute o m apos) [] [] pos) X.env = (do
      let ov ← eval o X.env
      standAt apos.atName
      let (f, first) ← holding [ov] (getMethod ov m pl)
      callWith pos f first (backTo pos (starEach [] X.env)) (backToKw pos (keywordEach [] X.env))) := by rfl) : DE X adr Wx (.Call (.Attribute o m apos) [] [] pos) σ G cs Q' (mm i) :=
  dx_methR0 (fun σ => passAt tk σ) i F ck hr hk ho hc hl hp hP ht
/-- .. and does not here -/
theorem d_callRS {I O : Type} {pre : I → Hp → Cells → List V → Prop} {r : I → O → Hp → V → Prop} {m : I → Except (Fin n) O} {k j na : Nat} {x : Str} {Ps : Hp → List V → Prop} {oo : O} (i : I) (F : Fn0 X.prog X.w X.K X.mg X.base (L2.CX X.prog X.w) k x na (SpRE adr pre r m)) (hok : m i = .ok oo) (hr : Room j X.A) (hk : k ≤ j)
    (ha : A X (e :: es) σ G cs Ps) (hp : ∀ G1 vs, Same G G1 → Ps G1 vs → ∃ mc rest, cs.Perm (mc ++ rest) ∧ pre i G1 mc vs) (hP : ∀ G v, r i oo G v → P G v) (hg : Gl X x := by rfl) (hd : (x == ("__debug__" : Str)) = false := by decide)
    (he : starEach (e :: es) X.env = (false, eval e X.env) :: starEach es X.env := by exact star_plain rfl) (hpl : (backTo pos (starEach es X.env)).any (·.1) = false := by rfl) : D X (.Call (.Name x p) (e :: es) [] pos) σ G cs P :=
  ((dx_callR (E := fun _ _ _ _ => False) (fun σ pins H s u s' I c => by obtain ⟨_, _, _, _, _, _, _, _, _, _, _, _, z⟩ := c; exact z.elim) i F hr hk ha hp (fun _ _ _ h => h) hg hd he hpl).ok hok).imp hP
theorem d_methRS {I O : Type} {pre : I → Hp → Cells → List V → Prop} {r : I → O → Hp → V → Prop} {mm : I → Except (Fin n) O} {j l na : Nat} {m : Str} {C a dx : Addr} {fs : List (Str × V)} {pl : Sem Bool} {Ps : Hp → List V → Prop} {oo : O} (i : I) (F : Mt0 X.prog X.w X.K X.mg X.base (L2.CX X.prog X.w) j C m na (SpRE adr pre r mm)) (ck : Cls X.K C) (hok : mm i = .ok oo) (hr : Room l X.A) (hk : j ≤ l)
    (ho : D X o σ G cs (rV (.ref a))) (hc : (a, HO.ins C dx fs) ∈ cs) (hl : fs.lookup m = none)
    (ha : A X (e :: es) σ G cs Ps) (hp : ∀ G1 vs, Same G G1 → Ps G1 vs → ∃ mc rest, cs.Perm (mc ++ rest) ∧ pre i G1 mc (.ref a :: vs)) (hP : ∀ G v, r i oo G v → P G v)
    (hst : starEach (e :: es) X.env = (false, eval e X.env) :: starEach es X.env := by exact star_plain rfl) (hpl : (backTo pos (starEach es X.env)).any (·.1) = false := by rfl)
    (ht : eval (.Call (.Attribute o m apos) (e :: es) [] pos) X.env = (do
      let ov ← eval o X.env
      standAt apos.atName
      let (f, first) ← holding [ov] (getMethod ov m pl)
      callWith pos f first (backTo pos (starEach (e :: es) X.env)) (backToKw pos (keywordEach [] X.env))) := by rfl) : D X (.Call (.Attribute o m apos) (e :: es) [] pos) σ G cs P :=
  ((dx_methR (E := fun _ _ _ _ => False) (fun σ pins H s u s' I c => by obtain ⟨_, _, _, _, _, _, _, _, _, _, _, _, z⟩ := c; exact z.elim) i F ck hr hk ho hc hl ha hp (fun _ _ _ h => h) hst hpl ht).ok hok).imp hP
theorem d_methRS0 {I O : Type} {pre : I → Hp → Cells → List V → Prop} {r : I → O → Hp → V → Prop} {mm : I → Except (Fin n) O} {j l na : Nat} {m : Str} {C a dx : Addr} {fs : List (Str × V)} {pl : Sem Bool} {oo : O} (i : I) (F : Mt0 X.prog X.w X.K X.mg X.base (L2.CX X.prog X.w) j C m na (SpRE adr pre r mm)) (ck : Cls X.K C) (hok : mm i = .ok oo) (hr : Room l X.A) (hk : j ≤ l)
    (ho : D X o σ G cs (rV (.ref a))) (hc : (a, HO.ins C dx fs) ∈ cs) (hl : fs.lookup m = none)
    (hp : ∀ G1, Same G G1 → ∃ mc rest, cs.Perm (mc ++ rest) ∧ pre i G1 mc [.ref a]) (hP : ∀ G v, r i oo G v → P G v)
    (ht : eval (.Call (.Attribute o m apos) [] [] pos) X.env = (do
      let ov ← eval o X.env
      standAt apos.atName
      let (f, first) ← holding [ov] (getMethod ov m pl)
      callWith pos f first (backTo pos (starEach [] X.env)) (backToKw pos (keywordEach [] X.env))) := by rfl) : D X (.Call (.Attribute o m apos) [] [] pos) σ G cs P :=
  ((dx_methR0 (E := fun _ _ _ _ => False) (fun σ pins H s u s' I c => by obtain ⟨_, _, _, _, _, _, _, _, _, _, _, _, z⟩ := c; exact z.elim) i F ck hr hk ho hc hl hp (fun _ _ _ h => h) ht).ok hok).imp hP
end
end
section
variable {ε S L R : Type} {X : Cx} {W : ε → L2.St → Hp → Prop} {σ : L2.St} {G : Hp} {cs cs' : Cells} {Φ : Po ε S L R} {m : Out ε S L R} {rest : List Stmt} {o e : Expr} {f : Str} {pos tpos : Pos}
/-- o.f += e, the value by its name -/
theorem b_fldAddV {a C dx : Addr} {nf : List Str} {vs : List V} {z y w : Int} (k i : Nat) (ck : ClsK X.K C nf) (hk : cs[k]? = some (a, HO.ins C dx (nf.zip vs))) (he : D X e σ G cs (rI y)) (ho : D X o σ G cs (rV (.ref a))) (hw : w = z + y)
    (q : ∀ G1, Same G G1 → B X W rest σ G1 (cs.set k (a, HO.ins C dx (nf.zip (vs.set i (.int w))))) Φ m) (hv : vs[i]? = some (.int z) := by rfl) (hi : nf[i]? = some f := by rfl) : B X W (.AugAssign (.Attribute o f tpos) .Add e pos :: rest) σ G cs Φ m := by
  subst hw
  exact b_fldAdd k i ck hk he ho q hv hi
/-- what is not wanted any more -/
theorem b_drop {ss : List Stmt} (loc : Cells) (h : B X W ss σ G cs Φ m) : B X W ss σ G (loc ++ cs) Φ m := fun H d E w => h H d.drop E w
end
end J

/-! comprehensions over range(effect) -/
namespace J
open PySem PySem.Spec L2 PyProof.Rows
section
variable {X : Cx} {σ : L2.St} {G : Hp} {cs : Cells} {elt tg iter : Expr} {pos : Pos} {scope : Scope} {own : List (Str × Nat)} {α β S : Type} {xs : List α} {Pi : α → Hp → V → Prop} {r : β → Hp → V → Prop} {f : S → α → β × S} {s0 : S}
theorem ec_lcI {Sx : α → Hp → L2.St → L2.St → Prop} {C : Cells → Prop} {k : V → Hp → Cells → Prop} (Nc : S → Hp → Cells → Prop) (hcalm : X.calm = true) (hN : X.N.Nodup) (ok : BlkOk X.N X.env.scope scope own) (hi : IC X tg iter σ G cs C xs Pi fun G1 cs1 => Nc s0 G1 cs1) (ht : TgB X scope tg Pi Sx)
    (hC : ∀ s G1 cs1 l us, Nc s G1 cs1 → C ((l, .lst us) :: cs1)) (hwipe : ∀ x G1 σ', Sx x G1 (wipe σ (own.map (·.2))) σ' → wipe σ' (own.map (·.2)) = wipe σ (own.map (·.2))) [∀ y, Mono (r y)]
    (he : ∀ pre x post, xs = pre ++ x :: post → ∀ s, s = (mapS f s0 pre).2 → ∀ G0 G1 cs1 σ' c, Same G G0 → Nc s G0 cs1 → Same G0 G1 → Sx x G1 (wipe σ (own.map (·.2))) σ' → ∀ s' H0 C cl fp, EC (X.blk s' H0 scope (compEnvC scope cl C X.env) fp) elt σ' G1 (c :: cs1) fun v G2 cs2 => ∃ cs3, cs2.Perm (c :: cs3) ∧ r (f s x).1 G2 v ∧ Nc (f s x).2 G2 cs3)
    (hsz : xs.length ≤ 16777215) (hk : ∀ l us G1 cs1, Same G G1 → Rs r G1 (mapS f s0 xs).1 us → Nc (mapS f s0 xs).2 G1 cs1 → k (.ref l) G1 ((l, .lst us) :: cs1))
    (hs : ∀ x, foldedSetIterable iter X.env x = pure x := by intro _; rfl) : EC X (.ListComp elt [⟨tg, iter, [], 0⟩] scope pos) σ G cs k := by
  obtain ⟨wi, hpi, hw⟩ := hi
  obtain ⟨g, hpg, hgt⟩ := ht
  intro G1 H s d Q q
  refine uE (pe_lc (te := teB X scope elt) hcalm hN hpi ok hpg (fun _ _ _ _ _ => pts_nil) (fun s H0 C cl fp => ⟨fun pins s1 σ H Q I h => (h s H0 C cl fp).run pins s1 I⟩) hs) ?_
  refine hw G1 H s d _ fun J G2 H2 cs2 s2 d2 wk hn0 => fun l hl => ?_
  let Pv : Nat → Hp → Prop := fun i H1 => ∃ G3 us cs3, i ≤ xs.length ∧ Same G2 G3 ∧ Desc G3 ((l, .lst us) :: cs3) H1 ∧ Rs r G3 (mapS f s0 (xs.take i)).1 us ∧ Nc (mapS f s0 (xs.take i)).2 G3 cs3
  refine ⟨fun i n H1 => n = xs.length - i ∧ Pv i H1, ⟨xs.length, rfl, G2, [], cs2, Nat.zero_le _, Same.refl _, d2.newCell hl _, .nil, hn0⟩, ?_⟩
  rintro i n H1 ⟨rfl, G3, us, cs3, hi, s3, d3, hr, hn⟩
  by_cases hlt : i < xs.length
  · refine .inr ⟨wk.goes i G3 H1 _ hlt s3 (hC _ _ _ _ _ hn) d3, Pv (i + 1), fun H' p' => ⟨_, by omega, rfl, p'⟩, fun v H3 y => ?_⟩
    have hx : xs[i]? = some xs[i] := by simp [hlt]
    have hm : xs[i] ∈ xs := List.getElem_mem hlt
    obtain ⟨G4, s4, d4, pv⟩ := wk.yields i xs[i] G3 H1 _ v H3 hx s3 (hC _ _ _ _ _ hn) d3 y
    have et : xs.take (i + 1) = xs.take i ++ [xs[i]] := by simp
    refine hgt xs[i] v G4 _ H3 _ pv d4 _ fun σ' hS => ⟨hwipe _ _ _ hS, ?_⟩
    have ed : xs = xs.take i ++ xs[i] :: xs.drop (i + 1) := by
      rw [← List.drop_eq_getElem_cons hlt, List.take_append_drop]
    refine iteT (B := Pv (i + 1) H3) fun s5 H0 C5 cl fp => he (xs.take i) xs[i] (xs.drop (i + 1)) ed _ rfl G3 G4 cs3 σ' (l, .lst us) ((s.trans s2).trans s3) hn s4 hS s5 H0 C5 cl fp G4 H3 (Same.refl _) d4 _ fun G5 H5 cs5 w s5 d5 ⟨cs6, pm, hw, hn5⟩ => ?_
    have d6 := d5.perm pm
    refine ⟨us, d6.at_ List.mem_cons_self, ?_, G5, us ++ [w], cs6, hlt, (s3.trans s4).trans s5, d6.write (k := 0) rfl _, ?_, ?_⟩
    · rw [← hr.length, mapS_length, List.length_take, sizeLine_eq]
      omega
    · rw [et, mapS_snoc]
      exact Rs.snoc hw (hr.mono (s4.trans s5))
    · rw [et, mapS_snoc]
      exact hn5
  · have e : i = xs.length := by omega
    subst e
    rw [List.take_length] at hr hn
    exact .inl ⟨wk.stops G3 H1 _ s3 (hC _ _ _ _ _ hn) d3, q G3 H1 _ _ (s2.trans s3) d3 (hk l us G3 cs3 ((s.trans s2).trans s3) hr hn)⟩
end
section
variable {ε S' L R' : Type} {X : Cx} {W : ε → L2.St → Hp → Prop} {Φ : Po ε S' L R'} {m : Out ε S' L R'} {rest : List Stmt} {σ : L2.St} {G : Hp} {cs : Cells} {elt tg iter : Expr} {pos spos : Pos} {scope : Scope} {own : List (Str × Nat)} {α β S : Type} {xs : List α} {Pi : α → Hp → V → Prop} {r : β → Hp → V → Prop} {f : S → α → β × S} {s0 : S}
theorem b_setLcI (i : Nat) {y : Str} {py : Pos} {Sx : α → Hp → L2.St → L2.St → Prop} {C : Cells → Prop} (hcalm : X.calm = true) (hN : X.N.Nodup) (hyl : X.env.scope.names.lookup y = some .local) (hsw : swapsWith (.ListComp elt [⟨tg, iter, [], 0⟩] scope pos) (some (.Name y py)) spos.line X.env = pure true) (Nc : S → Hp → Cells → Prop) (ok : BlkOk X.N X.env.scope scope own) (hi : IC X tg iter σ G cs C xs Pi fun G1 cs1 => Nc s0 G1 cs1) (ht : TgB X scope tg Pi Sx)
    (hC : ∀ s G1 cs1 l us, Nc s G1 cs1 → C ((l, .lst us) :: cs1)) (hwipe : ∀ x G1 σ', Sx x G1 (wipe σ (own.map (·.2))) σ' → wipe σ' (own.map (·.2)) = wipe σ (own.map (·.2))) [∀ y, Mono (r y)]
    (he : ∀ pre x post, xs = pre ++ x :: post → ∀ s, s = (mapS f s0 pre).2 → ∀ G0 G1 cs1 σ' c, Same G G0 → Nc s G0 cs1 → Same G0 G1 → Sx x G1 (wipe σ (own.map (·.2))) σ' → ∀ s' H0 C cl fp, EC (X.blk s' H0 scope (compEnvC scope cl C X.env) fp) elt σ' G1 (c :: cs1) fun v G2 cs2 => ∃ cs3, cs2.Perm (c :: cs3) ∧ r (f s x).1 G2 v ∧ Nc (f s x).2 G2 cs3)
    (hsz : xs.length ≤ 16777215) (hk : ∀ l us G1 cs1, Same G G1 → Rs r G1 (mapS f s0 xs).1 us → Nc (mapS f s0 xs).2 G1 cs1 → B X W rest (σ.set i (some (.ref l))) G1 ((l, .lst us) :: cs1) Φ m) (hy : X.N[i]? = some y := by rfl)
    (hs : ∀ x, foldedSetIterable iter X.env x = pure x := by intro _; rfl) : B X W (.Assign [.Name y py] (.ListComp elt [⟨tg, iter, [], 0⟩] scope pos) spos :: rest) σ G cs Φ m := by
  obtain ⟨wi, hpi, hw⟩ := hi
  obtain ⟨g, hpg, hgt⟩ := ht
  refine b_cons (ps_setLc (te := teB X scope elt) hcalm hN hy hyl hsw hpi ok hpg (fun _ _ _ _ _ => pts_nil) (fun s H0 C cl fp => ⟨fun pins s1 σ H Q I h => (h s H0 C cl fp).run pins s1 I⟩) hs) fun H d E w => ?_
  have s : Same G G := Same.refl _
  refine hw G H s d _ fun J G2 H2 cs2 s2 d2 wk hn0 => fun l hl => ?_
  let Pv : Nat → Hp → Prop := fun i H1 => ∃ G3 us cs3, i ≤ xs.length ∧ Same G2 G3 ∧ Desc G3 ((l, .lst us) :: cs3) H1 ∧ Rs r G3 (mapS f s0 (xs.take i)).1 us ∧ Nc (mapS f s0 (xs.take i)).2 G3 cs3
  refine ⟨fun i n H1 => n = xs.length - i ∧ Pv i H1, ⟨xs.length, rfl, G2, [], cs2, Nat.zero_le _, Same.refl _, d2.newCell hl _, .nil, hn0⟩, ?_⟩
  rintro i n H1 ⟨rfl, G3, us, cs3, hi, s3, d3, hr, hn⟩
  by_cases hlt : i < xs.length
  · refine .inr ⟨wk.goes i G3 H1 _ hlt s3 (hC _ _ _ _ _ hn) d3, Pv (i + 1), fun H' p' => ⟨_, by omega, rfl, p'⟩, fun v H3 y => ?_⟩
    have hx : xs[i]? = some xs[i] := by simp [hlt]
    have hm : xs[i] ∈ xs := List.getElem_mem hlt
    obtain ⟨G4, s4, d4, pv⟩ := wk.yields i xs[i] G3 H1 _ v H3 hx s3 (hC _ _ _ _ _ hn) d3 y
    have et : xs.take (i + 1) = xs.take i ++ [xs[i]] := by simp
    refine hgt xs[i] v G4 _ H3 _ pv d4 _ fun σ' hS => ⟨hwipe _ _ _ hS, ?_⟩
    have ed : xs = xs.take i ++ xs[i] :: xs.drop (i + 1) := by
      rw [← List.drop_eq_getElem_cons hlt, List.take_append_drop]
    refine iteT (B := Pv (i + 1) H3) fun s5 H0 C5 cl fp => he (xs.take i) xs[i] (xs.drop (i + 1)) ed _ rfl G3 G4 cs3 σ' (l, .lst us) ((s.trans s2).trans s3) hn s4 hS s5 H0 C5 cl fp G4 H3 (Same.refl _) d4 _ fun G5 H5 cs5 w s5 d5 ⟨cs6, pm, hw, hn5⟩ => ?_
    have d6 := d5.perm pm
    refine ⟨us, d6.at_ List.mem_cons_self, ?_, G5, us ++ [w], cs6, hlt, (s3.trans s4).trans s5, d6.write (k := 0) rfl _, ?_, ?_⟩
    · rw [← hr.length, mapS_length, List.length_take, sizeLine_eq]
      omega
    · rw [et, mapS_snoc]
      exact Rs.snoc hw (hr.mono (s4.trans s5))
    · rw [et, mapS_snoc]
      exact hn5
  · have e : i = xs.length := by omega
    subst e
    rw [List.take_length] at hr hn
    exact .inl ⟨wk.stops G3 H1 _ s3 (hC _ _ _ _ _ hn) d3, hk l us G3 cs3 ((s.trans s2).trans s3) hr hn H1 d3 E (w.up ((s.trans s2).trans s3))⟩
end
section
variable {X : Cx} {σ : L2.St} {G : Hp} {cs : Cells} {a : Expr} {pos p : Pos}
/-- isinstance of what may be None -/
theorem d_isiO {α : Type} {r : α → Hp → V → Prop} {x : Option α} {t u : String} {y : Str} {py : Pos} [h : HasTy X.K r t] [∀ x, Mono (r x)] (hm : X.mg "isinstance" = none) (hmy : X.mg y = none) (ha : D X a σ G cs (rO r x)) (hk : kitB t u = some true := by decide +kernel) (hk0 : kitB "NoneType" u = some false := by decide +kernel)
    (hy : bootBuiltins y = some (.type u) := by decide +kernel) (hg : Gl X "isinstance" := by rfl) (hgy : Gl X y := by rfl) (hny : y ≠ "__name__" := by decide) (hdy : (y == ("__debug__" : Str)) = false := by decide)
    (hst : starEach [a, .Name y py] X.env = (false, eval a X.env) :: starEach [.Name y py] X.env := by rfl) (hst2 : starEach [.Name y py] X.env = (false, eval (.Name y py) X.env) :: starEach [] X.env := by rfl)
    (hpl : (backTo pos (starEach [.Name y py] X.env)).any (·.1) = false := by rfl) : D X (.Call (.Name "isinstance" p) [a, .Name y py] [] pos) σ G cs (rB x.isSome) := by
  refine d_callB (Ps := aC (rO r x) (aC (rV (.ty u)) aN)) call_isi hm (a_cons ha (a_cons (P := rV (.ty u)) ?_ a_nil hst2) hst) (fun G1 H vs s d h1 Q q => ?_) hg (he := hst) (hpl := hpl)
  · exact d_by (pe_bltn hgy hmy hy (v := .ty u) rfl hny hdy) fun G1 H s d Q q => q G1 H _ (Same.refl _) d rfl
  · obtain ⟨v, w, rfl, hv, v2, w2, rfl, hv2, hw⟩ := h1
    cases (show w2 = [] from hw)
    cases (show v2 = V.ty u from hv2)
    cases x with
    | none =>
      cases (show v = V.non from hv)
      exact ⟨_, _, _, _, false, rfl, .ty u, .base .non, kit_ty hk0, q G1 H _ (Same.refl _) d rfl⟩
    | some x => exact ⟨_, _, _, _, true, rfl, .ty u, h.ty (show r x G1 v from hv) d, kit_ty hk, q G1 H _ (Same.refl _) d rfl⟩
end
theorem forL_invN {ε S L R α : Type} {f : S → α → Out ε S S R} (N : Nat) (P : Nat → S → Prop) : ∀ {xs : List α} {s : S} {n : Nat}, n + xs.length ≤ N → P n s → (∀ n s x, x ∈ xs → n < N → P n s → ∃ s', f s x = .nx s' ∧ P (n + 1) s') → ∃ s', (forL f s xs : Out ε S L R) = .nx s' ∧ P (n + xs.length) s'
  | [], s, n, _, h, _ => ⟨s, rfl, h⟩
  | x :: xs, s, n, hl, h, st => by
    rw [List.length_cons] at hl
    obtain ⟨s1, e1, h1⟩ := st n s x List.mem_cons_self (by omega) h
    obtain ⟨s2, e2, h2⟩ := forL_invN (L := L) N P (xs := xs) (by omega) h1 fun n s y hy => st n s y (List.mem_cons_of_mem _ hy)
    refine ⟨s2, ?_, ?_⟩
    · rw [forL_cons, e1]
      exact e2
    · rw [List.length_cons, show n + (xs.length + 1) = n + 1 + xs.length by omega]
      exact h2
/-! ### list * int, of a list that is a cell -/
section
variable {X : Cx} {σ : L2.St} {G : Hp} {cs : Cells} {a b : Expr} {pos : Pos} {α : Type} {r : α → Hp → V → Prop} {xs : List α} {us : List V} {l : Addr} {n : Int}
theorem rc_rep {k : V → Hp → Cells → Prop} [∀ x, Mono (r x)] (hm : (l, HO.lst us) ∈ cs) (hr : Rs r G xs us) (h1 : -(2 ^ 31) < n ∧ n < 2 ^ 31) (h3 : xs.length * n.toNat ≤ 16777216) (K : PySem.W.Frag) (c : ∀ v G1, Same G G1 → rL K r (List.replicate n.toNat xs).flatten G1 v → k v G1 cs) : RC rRep (.ref l) (.int n) G cs k := fun G1 H s d Q q => by
  refine ⟨l, n, us, rfl, rfl, d.at_ hm, by omega, by omega, by rw [← hr.length]; exact sl_small h3, fun p hp => ?_⟩
  have sf : Same G1 (upd G1 p (.lst (List.replicate n.toNat us).flatten)) := Same.fresh d.same hp _
  exact q _ _ cs _ sf (d.new hp _) (c _ _ (s.trans sf) ⟨p, _, rfl, SqL.of upd_same, rs_rep (hr.mono (s.trans sf)) _⟩)
theorem n_repC [∀ x, Mono (r x)] (ha : D X a σ G cs (rV (.ref l))) (hm : (l, HO.lst us) ∈ cs) (hr : Rs r G xs us) (hb : D X b σ G cs (rI n)) (h1 : -(2 ^ 31) < n ∧ n < 2 ^ 31) (h3 : xs.length * n.toNat ≤ 16777216) : N X (.BinOp a .Mult b pos) σ G cs r (List.replicate n.toNat xs).flatten := fun G1 H s d Q q =>
  uE (pe_op op_rep (sE X a) (sE X b)) (ha G1 H s d _ fun G2 H2 x s2 d2 hx => hb G2 H2 (s.trans s2) d2 _ fun G3 H3 v s3 d3 hv => by
    refine ⟨l, n, us, hx, hv, d3.at_ hm, by omega, by omega, by rw [← hr.length]; exact sl_small h3, fun p hp => ?_⟩
    exact q G3 _ p _ (s2.trans s3) (d3.newCell hp _) (rs_rep (hr.mono (s.trans (s2.trans s3))) _))
end
/-! ### and/or as a value; calls of defs that only read cells, behind arguments with effects; appending to what a call has just made -/
section
variable {X : Cx} {σ : L2.St} {G : Hp} {cs : Cells} {o a b e : Expr} {es : List Expr} {pos p apos : Pos} {k : V → Hp → Cells → Prop}
theorem ec_kd {k' : V → Hp → Cells → Prop} (h : EC X e σ G cs k') (c : ∀ v G1 cs1, Same G G1 → k' v G1 cs1 → ∃ loc cs2, cs1.Perm (loc ++ cs2) ∧ k v G1 cs2) : EC X e σ G cs k := fun G1 H s d Q q => h G1 H s d Q fun G2 H2 cs2 v s2 d2 hk => by
  obtain ⟨loc, cs3, pm, h3⟩ := c v G2 cs2 (s.trans s2) hk
  exact q G2 H2 cs3 v s2 (d2.perm pm).drop h3
theorem ec_one {op : BoolOp} (h : EC X a σ G cs k) : EC X (.BoolOp op [a] pos) σ G cs k := fun G1 H s d Q q => uE (pe_one (sE X a)) (h G1 H s d Q q)
theorem ec_and {rest : List Expr} (h : EC X a σ G cs fun v G1 cs1 => ∃ z, v = .bl z ∧ (z = true → EC X (.BoolOp .And (b :: rest) pos) σ G1 cs1 k) ∧ (z = false → k (.bl false) G1 cs1)) : EC X (.BoolOp .And (a :: b :: rest) pos) σ G cs k := fun G1 H s d Q q =>
  uE (pe_and (sE X a) (sE X _)) (h G1 H s d _ fun G2 H2 cs2 v s2 d2 ⟨z, e1, ht, hf⟩ => ⟨z, e1, by
    subst e1
    cases z with
    | false => exact iteF (q G2 H2 cs2 _ s2 d2 (hf rfl))
    | true => exact iteT (ht rfl G2 H2 (Same.refl _) d2 Q fun G3 H3 cs3 w s3 d3 hw => q G3 H3 cs3 w (s2.trans s3) d3 hw)⟩)
theorem ec_or {rest : List Expr} (h : EC X a σ G cs fun v G1 cs1 => ∃ z, v = .bl z ∧ (z = false → EC X (.BoolOp .Or (b :: rest) pos) σ G1 cs1 k) ∧ (z = true → k (.bl true) G1 cs1)) : EC X (.BoolOp .Or (a :: b :: rest) pos) σ G cs k := fun G1 H s d Q q =>
  uE (pe_or (sE X a) (sE X _)) (h G1 H s d _ fun G2 H2 cs2 v s2 d2 ⟨z, e1, ht, hf⟩ => ⟨z, e1, by
    subst e1
    cases z with
    | true => exact iteT (q G2 H2 cs2 _ s2 d2 (hf rfl))
    | false => exact iteF (ht rfl G2 H2 (Same.refl _) d2 Q fun G3 H3 cs3 w s3 d3 hw => q G3 H3 cs3 w (s2.trans s3) d3 hw)⟩)
theorem ec_callR {I O : Type} {pre : I → Hp → Cells → List V → Prop} {r : I → O → Hp → V → Prop} {m : I → O} {kk j n : Nat} {x : Str} (F : Fn0 X.prog X.w X.K X.mg X.base CX0 kk x n (SpR pre r m)) (hr : Room j X.A) (hk : kk ≤ j)
    (ha : AC X (e :: es) σ G cs fun vs G1 cs1 => ∃ i mc rest, cs1.Perm (mc ++ rest) ∧ pre i G1 mc vs ∧ ∀ v G2, Same G1 G2 → r i (m i) G2 v → k v G2 cs1) (hg : Gl X x := by rfl) (hd : (x == ("__debug__" : Str)) = false := by decide)
    (he : starEach (e :: es) X.env = (false, eval e X.env) :: starEach es X.env := by exact star_plain rfl) (hpl : (backTo pos (starEach es X.env)).any (·.1) = false := by rfl) : EC X (.Call (.Name x p) (e :: es) [] pos) σ G cs k := by
  obtain ⟨f, fd, ps, F, hm, kp, b, _⟩ := F.ex
  intro G1 H s d Q q
  refine uE (pe_call F (hr.mono hk) hg hm kp b .nil pass0 (sA X _) (hdb := hd) (he := he) (hpl := hpl)) (ha G1 H s d _ fun G2 H2 cs2 vs s2 d2 hvs => ?_)
  obtain ⟨i, mc, rest, pm, hq, hz⟩ := hvs
  refine ⟨i, G2, mc, rest, d2.perm pm, ?_, fun v G3 H3 s3 d3 hv => q G3 H3 cs2 v (s2.trans s3) (d3.perm pm.symm) (hz v G3 s3 ?_)⟩
  · rw [List.append_nil]
    exact hq
  · exact hv
theorem ec_methR {I O : Type} {pre : I → Hp → Cells → List V → Prop} {r : I → O → Hp → V → Prop} {mm : I → O} {j l na : Nat} {m : Str} {C a dx : Addr} {fs : List (Str × V)} {pl : Sem Bool} (F : Mt0 X.prog X.w X.K X.mg X.base CX0 j C m na (SpR pre r mm)) (ck : Cls X.K C) (hr : Room l X.A) (hk : j ≤ l)
    (ho : D X o σ G cs (rV (.ref a))) (hc : (a, HO.ins C dx fs) ∈ cs) (hl : fs.lookup m = none)
    (ha : AC X (e :: es) σ G cs fun vs G1 cs1 => ∃ i mc rest, cs1.Perm (mc ++ rest) ∧ pre i G1 mc (.ref a :: vs) ∧ ∀ v G2, Same G1 G2 → r i (mm i) G2 v → k v G2 cs1)
    (hst : starEach (e :: es) X.env = (false, eval e X.env) :: starEach es X.env := by exact star_plain rfl) (hpl : (backTo pos (starEach es X.env)).any (·.1) = false := by rfl)
    (ht : eval (.Call (.Attribute o m apos) (e :: es) [] pos) X.env = (do
      let ov ← eval o X.env
      standAt apos.atName
      let (f, first) ← holding [ov] (getMethod ov m pl)
      callWith pos f first (backTo pos (starEach (e :: es) X.env)) (backToKw pos (keywordEach [] X.env))) := by rfl) : EC X (.Call (.Attribute o m apos) (e :: es) [] pos) σ G cs k := by
  obtain ⟨f, fd, ps, F, hm, b, _⟩ := F.ex
  intro G1 H s d Q q
  refine uE (pe_meth (sE X o) ck hm F (hr.mono hk) b .nil pass0 (sA X _) (hst := hst) (hpl := hpl) (ht := ht)) (ho G1 H s d _ fun G2 H2 x s2 d2 hx => ⟨a, dx, fs, hx, d2.at_ hc, hl, ha G2 H2 (s.trans s2) d2 _ fun G3 H3 cs3 vs s3 d3 hvs => ?_⟩)
  obtain ⟨i, mc, rest, pm, hq, hz⟩ := hvs
  have ex : x = .ref a := hx
  subst ex
  refine ⟨i, G3, mc, rest, d3.perm pm, ?_, fun v G4 H4 s4 d4 hv => q G4 H4 cs3 v ((s2.trans s3).trans s4) (d4.perm pm.symm) (hz v G4 s4 ?_)⟩
  · rw [List.append_nil]
    exact hq
  · exact hv
end
section
variable {ε S L R : Type} {X : Cx} {W : ε → L2.St → Hp → Prop} {σ : L2.St} {G : Hp} {cs : Cells} {Φ : Po ε S L R} {m : Out ε S L R} {rest : List Stmt} {o e : Expr} {pos : Pos}
/-- f(..).append(e) -/
theorem b_appE {apos cpos : Pos} (ho : EC X o σ G cs fun v G1 cs1 => ∃ l us, v = .ref l ∧ (l, HO.lst us) ∈ cs1 ∧ EC X e σ G1 cs1 fun w G2 cs2 => ∃ k vs, cs2[k]? = some (l, .lst vs) ∧ vs.length < sizeLine ∧ (Same G G2 → B X W rest σ G2 (cs2.set k (l, .lst (vs ++ [w]))) Φ m))
    (hs : swapsWith (.Call (.Attribute o "append" apos) [e] [] cpos) none pos.line X.env = pure false := by rfl)
    (hbase : attributeBase o "append" X.env (eval o X.env) = eval o X.env := by rfl)
    (hfew : ((backTo cpos (starEach [e] X.env)).all (fun x => !x.1) && (backToKw cpos (keywordEach [] X.env)).all (fun x => x.1.isSome) && decide ([e].length + ([] : List Keyword).length + (if ([] : List Keyword).isEmpty then 0 else 1) < 30)) = true := by rfl)
    (hline : (apos.endLine == cpos.line) = true := by rfl) (hst : starEach [e] X.env = (false, eval e X.env) :: starEach [] X.env := by rfl) (hplain : (backTo cpos (starEach [] X.env)).any (·.1) = false := by rfl) :
    B X W (.Expr (.Call (.Attribute o "append" apos) [e] [] cpos) pos :: rest) σ G cs Φ m :=
  b_cons (ps_expr (pe_bm PySem.F.plainAttrs_list PySem.F.slot_list_append PySem.F.type_list_append mt_append (sE X o) (pa_cons (sE X e) pa_nil hst) hbase hfew hline hst hplain) hs) fun H d E w =>
    ho G H (Same.refl _) d _ fun G2 H2 cs2 u s2 d2 hu => by
      obtain ⟨l, us, eu, hm, he⟩ := hu
      subst eu
      refine ⟨.inl ⟨rfl, us, SqL.of (d2.at_ hm)⟩, he G2 H2 (Same.refl _) d2 _ fun G3 H3 cs3 v s3 d3 hv => ?_⟩
      obtain ⟨k, vs, hk, hz, q⟩ := hv
      exact ⟨l, vs, v, rfl, rfl, d3.at_ (List.mem_of_getElem? hk), hz, q (s2.trans s3) _ (d3.write hk _) E (w.up (s2.trans s3))⟩
end
end J

namespace Ck28
open PySem L2 PyProof.Rows J
/-- a short text of plain signs -/
def Txt (n : Nat) (s : List Nat) : Prop := s.length ≤ n ∧ ∀ c ∈ s, c < 128
abbrev Letter := (List Nat) × (List Nat) × (List Nat) × Int × (List (List Nat))
/-- a letter of bounded size -/
def LOk (l : Letter) : Prop := Txt 100 l.1 ∧ Txt 100 l.2.1 ∧ Txt 100 l.2.2.1 ∧ l.2.2.2.2.length ≤ 20 ∧ ∀ f ∈ l.2.2.2.2, Txt 100 f
/-- the parts of a letter, written -/
def WOk (k s r d : List Nat) (fs : List (List Nat)) : Prop := k.length ≤ 100 ∧ s.length ≤ 100 ∧ r.length ≤ 100 ∧ d.length ≤ 100 ∧ fs.length ≤ 20 ∧ ∀ f ∈ fs, f.length ≤ 100
def Low (c : Nat) : Prop := (97 ≤ c ∧ c ≤ 122) ∨ (48 ≤ c ∧ c ≤ 57)
instance (c : Nat) : Decidable (Low c) := by unfold Low; infer_instance
/-- a right name -/
def NameOk (s : List Nat) : Prop := 1 ≤ s.length ∧ s.length ≤ 12 ∧ (∀ c ∈ s, Low c) ∧ 97 ≤ ixg s 0 ∧ ixg s 0 ≤ 122
/-- a sender that has sent these texts, d of them acknowledged -/
def Snd (e : List Nat × List Nat × Int × Int × List (List Nat)) (me ot : List Nat) (sent : List (List Nat)) (d : Int) : Prop :=
  e = (me, ot, (sent.length : Int), d, sent.drop d.toNat) ∧ NameOk me ∧ NameOk ot ∧ 0 ≤ d ∧ d ≤ (sent.length : Int) ∧ sent.length ≤ 2000 ∧ ∀ w ∈ sent, w.length ≤ 3005 ∧ ∀ c ∈ w, c < 128
end Ck28

set_option synthInstance.maxSize 10000
namespace Ck28
open PySem L2 PyProof.Rows J
def nm_ : _root_.Fin 7 → Str := fun i => match i with
  | 0 => "BadValue"
  | 1 => "BadDay"
  | 2 => "Missing"
  | 3 => "Refused"
  | 4 => "Full"
  | 5 => "NotAllowed"
  | 6 => "Damaged"
abbrev nf_Sender : List Str := ["me", "other", "last", "dropped", "kept"]
abbrev Mo_Sender : Type := (List Nat) × (List Nat) × Int × Int × (List (List Nat))
def k_ACK : (List Nat) := [97, 99, 107]
def k_DIGITS : (List Nat) := [48, 49, 50, 51, 52, 53, 54, 55, 56, 57]
def k_LETTERS : (List Nat) := [97, 98, 99, 100, 101, 102, 103, 104, 105, 106, 107, 108, 109, 110, 111, 112, 113, 114, 115, 116, 117, 118, 119, 120, 121, 122]
def b_law_pick (source_here_ : (List Int)) (many_ : Int) : Out Empty (Int × (List Int)) Empty (Int × (List Int)) :=
  if (decide (1 < (ixg source_here_ 0))) = true then (letV ((ixg source_here_ 0) % many_) fun picked_3 =>
    letV (putL source_here_ 0 ((ixg source_here_ 0) / many_)) fun source_here_10 =>
    .rt (picked_3, source_here_10)) else
  letV (putL source_here_ 1 ((((ixg source_here_ 1) * 48271) + 12345) % 2147483647)) fun source_here_16 =>
    letV (((((ixg source_here_16 1) * 69621) + ((ixg source_here_16 1) / 127)) + 7) % 2147483629) fun mixed_18 =>
    .rt (((mixed_18 / 16) % many_), source_here_16)

def m_law_pick (source_here_ : (List Int)) (many_ : Int) : (Int × (List Int)) := (b_law_pick source_here_ many_).valM

def pre_law_pick (K : PySem.W.Frag) : ((List Int) × Int) → Hp → Cells → List V → Prop := fun i G mc vs => ∃ v1_ : V, ∃ a0_ : Addr, ∃ u0_ : List V, vs = [.ref a0_, v1_] ∧ mc = [(a0_, HO.lst u0_)] ∧ Rs rI G i.1 u0_ ∧ rI i.2 G v1_ ∧ (i.1.length = 2 ∧ 0 < i.2 ∧ i.2 ≤ 1000000000000000000)

def post_law_pick (K : PySem.W.Frag) : ((List Int) × Int) → List V → (Int × (List Int)) → Hp → Cells → V → Prop := fun i vs o G mc v => ∃ v1_ : V, ∃ a0_ : Addr, ∃ u0_ : List V, vs = [.ref a0_, v1_] ∧ mc = [(a0_, HO.lst u0_)] ∧ Rs rI G o.2 u0_ ∧ rI o.1 G v

abbrev sp_law_pick (K : PySem.W.Frag) : Sp := SpM (pre_law_pick K) (post_law_pick K) fun i : ((List Int) × Int) => m_law_pick i.1 i.2

def st_law_name_1 (signs_1 : (List Nat)) (z46 : ((List Int) × (List Nat))) (x52 : Int) : Out Empty ((List Int) × (List Nat)) ((List Int) × (List Nat)) ((List Nat) × (List Int)) :=
  letV (m_law_pick z46.1 36) fun r67 =>
    letV (z46.2 ++ [(ixg signs_1 r67.1)]) fun name_here_84 =>
    .nx (r67.2, name_here_84)

def b_law_name (source_here_ : (List Int)) : Out Empty ((List Nat) × (List Int)) Empty ((List Nat) × (List Int)) :=
  letV [97, 98, 99, 100, 101, 102, 103, 104, 105, 106, 107, 108, 109, 110, 111, 112, 113, 114, 115, 116, 117, 118, 119, 120, 121, 122, 48, 49, 50, 51, 52, 53, 54, 55, 56, 57] fun signs_1 =>
  letV (m_law_pick source_here_ 26) fun r13 =>
  letV [(ixg signs_1 r13.1)] fun name_here_28 =>
  letV (m_law_pick r13.2 12) fun r35 =>
  (forL (st_law_name_1 signs_1) (r35.2, name_here_28) (rng 0 r35.1)).bind fun z46 =>
  .rt (z46.2, z46.1)

def m_law_name (source_here_ : (List Int)) : ((List Nat) × (List Int)) := (b_law_name source_here_).valM

def pre_law_name (K : PySem.W.Frag) : ((List Int)) → Hp → Cells → List V → Prop := fun i G mc vs => ∃ a0_ : Addr, ∃ u0_ : List V, vs = [.ref a0_] ∧ mc = [(a0_, HO.lst u0_)] ∧ Rs rI G i u0_ ∧ (i.length = 2)

def post_law_name (K : PySem.W.Frag) : ((List Int)) → List V → ((List Nat) × (List Int)) → Hp → Cells → V → Prop := fun i vs o G mc v => ∃ a0_ : Addr, ∃ u0_ : List V, vs = [.ref a0_] ∧ mc = [(a0_, HO.lst u0_)] ∧ Rs rI G o.2 u0_ ∧ rS o.1 G v

abbrev sp_law_name (K : PySem.W.Frag) : Sp := SpM (pre_law_name K) (post_law_name K) fun i : ((List Int)) => m_law_name i

def b_law_two_names (source_here_ : (List Int)) : Out Empty ((List (List Nat)) × (List Int)) Empty ((List (List Nat)) × (List Int)) :=
  letV (m_law_name source_here_) fun r3 =>
  letV r3.1 fun me_13 =>
  letV (m_law_name r3.2) fun r17 =>
  letV r17.1 fun other_27 =>
  (if (decide (other_27 = me_13)) = true then (
    letV (ixg (([[97], [98]].filter (fun spare_ : (List Nat) => !decide (spare_ = me_13))).map (fun spare_ : (List Nat) => spare_)) 0) fun other_38 =>
    .nx (other_38)) else (
    .nx (other_27)) : Out Empty ((List Nat)) Empty ((List (List Nat)) × (List Int))).bind fun z31 =>
  .rt ([me_13, z31], r17.2)

def m_law_two_names (source_here_ : (List Int)) : ((List (List Nat)) × (List Int)) := (b_law_two_names source_here_).valM

def pre_law_two_names (K : PySem.W.Frag) : ((List Int)) → Hp → Cells → List V → Prop := fun i G mc vs => ∃ a0_ : Addr, ∃ u0_ : List V, vs = [.ref a0_] ∧ mc = [(a0_, HO.lst u0_)] ∧ Rs rI G i u0_ ∧ (i.length = 2)

def post_law_two_names (K : PySem.W.Frag) : ((List Int)) → List V → ((List (List Nat)) × (List Int)) → Hp → Cells → V → Prop := fun i vs o G mc v => ∃ a0_ : Addr, ∃ u0_ : List V, vs = [.ref a0_] ∧ mc = [(a0_, HO.lst u0_)] ∧ Rs rI G o.2 u0_ ∧ (rL K rS) o.1 G v

abbrev sp_law_two_names (K : PySem.W.Frag) : Sp := SpM (pre_law_two_names K) (post_law_two_names K) fun i : ((List Int)) => m_law_two_names i

def b_law_source (cell_here_ : Int) (k_ : Int) : Out Empty (List Int) Empty (List Int) :=
  if (decide (1000000000000000000 ≤ cell_here_)) = true then (.rt [(cell_here_ - 1000000000000000000), (k_ + 1)]) else
  .rt [0, ((((cell_here_ * 7919) + (k_ * 104729)) + 1) % 2147483647)]

def m_law_source (cell_here_ : Int) (k_ : Int) : (List Int) := (b_law_source cell_here_ k_).valM

def pre_law_source (K : PySem.W.Frag) : (Int × Int) → Hp → Cells → List V → Prop := fun i G mc vs => ∃ v0_ : V, ∃ v1_ : V, vs = [v0_, v1_] ∧ mc = [] ∧ rI i.1 G v0_ ∧ rI i.2 G v1_

def post_law_source (K : PySem.W.Frag) : (Int × Int) → List V → (List Int) → Hp → Cells → V → Prop := fun i vs o G mc v => ∃ v0_ : V, ∃ v1_ : V, ∃ ar_ : Addr, ∃ ur_ : List V, vs = [v0_, v1_] ∧ mc = [(ar_, HO.lst ur_)] ∧ v = .ref ar_ ∧ Rs rI G o ur_

abbrev sp_law_source (K : PySem.W.Frag) : Sp := SpM (pre_law_source K) (post_law_source K) fun i : (Int × Int) => m_law_source i.1 i.2

def b_law_cell (script_ : (List Int)) (k_ : Int) : Out Empty Unit Empty Int :=
  if (decide (k_ < (script_.length : Int))) = true then (.rt (ixg script_ k_)) else
  .rt 0

def m_law_cell (script_ : (List Int)) (k_ : Int) : Int := (b_law_cell script_ k_).val

def pre_law_cell (K : PySem.W.Frag) : ((List Int) × Int) → Hp → List V → Prop := fun i G vs => ∃ v0_ v1_ : V, vs = [v0_, v1_] ∧ (rL K rI) i.1 G v0_ ∧ rI i.2 G v1_ ∧ (0 ≤ i.2)

abbrev sp_law_cell (K : PySem.W.Frag) : Sp := SpP (pre_law_cell K) (fun _ o => rI o) fun i : ((List Int) × Int) => m_law_cell i.1 i.2

def b_law_is_number (actual_ : Int) (expected_ : Int) : Out Empty Unit Empty Bool :=
  .rt ((true) && (((!false)) && ((decide (actual_ = expected_)))))

def m_law_is_number (actual_ : Int) (expected_ : Int) : Bool := (b_law_is_number actual_ expected_).val

def pre_law_is_number (K : PySem.W.Frag) : (Int × Int) → Hp → List V → Prop := fun i G vs => ∃ v0_ v1_ : V, vs = [v0_, v1_] ∧ rI i.1 G v0_ ∧ rI i.2 G v1_

abbrev sp_law_is_number (K : PySem.W.Frag) : Sp := SpP (pre_law_is_number K) (fun _ o => rB o) fun i : (Int × Int) => m_law_is_number i.1 i.2

def b_Sender_waiting (self_ : Mo_Sender) : Out Empty (List (List Nat)) Empty (List (List Nat)) :=
  .rt self_.2.2.2.2

def m_Sender_waiting (self_ : Mo_Sender) : (List (List Nat)) := (b_Sender_waiting self_).valM

def pre_Sender_waiting (K : PySem.W.Frag) (mg : Str → Option Value) : ((Mo_Sender) × Cells) → Hp → Cells → List V → Prop := fun i G mc vs => ∃ a0_ : Addr, ∃ dx0_ : Addr, ∃ l0_ : Addr, ∃ u0_ : List V, vs = [.ref a0_] ∧ mc = i.2 ∧ i.2 = [(a0_, HO.ins (clA mg "Sender") dx0_ (nf_Sender.zip [.str (SX.S i.1.1), .str (SX.S i.1.2.1), .int i.1.2.2.1, .int i.1.2.2.2.1, .ref l0_])), (dx0_, HO.own a0_), (l0_, HO.lst u0_)] ∧ Rs rS G i.1.2.2.2.2 u0_

def post_Sender_waiting (K : PySem.W.Frag) (mg : Str → Option Value) : ((Mo_Sender) × Cells) → List V → (List (List Nat)) → Hp → Cells → V → Prop := fun i vs o G mc v => ∃ a0_ : Addr, ∃ ar_ : Addr, ∃ ur_ : List V, vs = [.ref a0_] ∧ mc = (ar_, HO.lst ur_) :: i.2 ∧ v = .ref ar_ ∧ Rs rS G o ur_

abbrev sp_Sender_waiting (K : PySem.W.Frag) (mg : Str → Option Value) : Sp := SpM (pre_Sender_waiting K mg) (post_Sender_waiting K mg) fun i : ((Mo_Sender) × Cells) => m_Sender_waiting i.1

def b_Sender_sent (self_ : Mo_Sender) : Out Empty Unit Empty Int :=
  .rt self_.2.2.1

def m_Sender_sent (self_ : Mo_Sender) : Int := (b_Sender_sent self_).val

def pre_Sender_sent (K : PySem.W.Frag) (mg : Str → Option Value) : (Mo_Sender) → Hp → Cells → List V → Prop := fun i G mc vs => ∃ a0_ : Addr, ∃ dx0_ : Addr, ∃ l0_ : Addr, ∃ u0_ : List V, vs = [.ref a0_] ∧ mc = [(a0_, HO.ins (clA mg "Sender") dx0_ (nf_Sender.zip [.str (SX.S i.1), .str (SX.S i.2.1), .int i.2.2.1, .int i.2.2.2.1, .ref l0_])), (dx0_, HO.own a0_), (l0_, HO.lst u0_)] ∧ Rs rS G i.2.2.2.2 u0_

abbrev sp_Sender_sent (K : PySem.W.Frag) (mg : Str → Option Value) : Sp := SpR (pre_Sender_sent K mg) (fun _ o => rI o) fun i : (Mo_Sender) => m_Sender_sent i

def b_Sender_acknowledged (self_ : Mo_Sender) : Out Empty Unit Empty Int :=
  .rt self_.2.2.2.1

def m_Sender_acknowledged (self_ : Mo_Sender) : Int := (b_Sender_acknowledged self_).val

def pre_Sender_acknowledged (K : PySem.W.Frag) (mg : Str → Option Value) : (Mo_Sender) → Hp → Cells → List V → Prop := fun i G mc vs => ∃ a0_ : Addr, ∃ dx0_ : Addr, ∃ l0_ : Addr, ∃ u0_ : List V, vs = [.ref a0_] ∧ mc = [(a0_, HO.ins (clA mg "Sender") dx0_ (nf_Sender.zip [.str (SX.S i.1), .str (SX.S i.2.1), .int i.2.2.1, .int i.2.2.2.1, .ref l0_])), (dx0_, HO.own a0_), (l0_, HO.lst u0_)] ∧ Rs rS G i.2.2.2.2 u0_

abbrev sp_Sender_acknowledged (K : PySem.W.Frag) (mg : Str → Option Value) : Sp := SpR (pre_Sender_acknowledged K mg) (fun _ o => rI o) fun i : (Mo_Sender) => m_Sender_acknowledged i

def b_law_agrees (end_ : Mo_Sender) (sent_ : (List (List Nat))) (dropped_ : Int) : Out Empty Unit Empty Bool :=
  letV (m_Sender_waiting end_) fun r2 =>
  letV r2 fun waits_11 =>
  if ((!(true)) || (!decide (waits_11 = (cutL sent_ (some dropped_) none)))) = true then (.rt false) else
  .rt (((m_law_is_number (m_Sender_sent end_) (sent_.length : Int))) && ((m_law_is_number (m_Sender_acknowledged end_) dropped_)))

def m_law_agrees (end_ : Mo_Sender) (sent_ : (List (List Nat))) (dropped_ : Int) : Bool := (b_law_agrees end_ sent_ dropped_).val

def pre_law_agrees (K : PySem.W.Frag) (mg : Str → Option Value) : (Mo_Sender × (List (List Nat)) × Int) → Hp → Cells → List V → Prop := fun i G mc vs => ∃ v2_ : V, ∃ a0_ : Addr, ∃ dx0_ : Addr, ∃ l0_ : Addr, ∃ u0_ : List V, ∃ a1_ : Addr, ∃ u1_ : List V, vs = [.ref a0_, .ref a1_, v2_] ∧ mc = [(a0_, HO.ins (clA mg "Sender") dx0_ (nf_Sender.zip [.str (SX.S i.1.1), .str (SX.S i.1.2.1), .int i.1.2.2.1, .int i.1.2.2.2.1, .ref l0_])), (dx0_, HO.own a0_), (l0_, HO.lst u0_), (a1_, HO.lst u1_)] ∧ Rs rS G i.1.2.2.2.2 u0_ ∧ Rs rS G i.2.1 u1_ ∧ rI i.2.2 G v2_ ∧ ((∀ w ∈ i.1.2.2.2.2, ∀ c ∈ w, c < 128) ∧ ∀ w ∈ i.2.1, ∀ c ∈ w, c < 128)

abbrev sp_law_agrees (K : PySem.W.Frag) (mg : Str → Option Value) : Sp := SpR (pre_law_agrees K mg) (fun _ o => rB o) fun i : (Mo_Sender × (List (List Nat)) × Int) => m_law_agrees i.1 i.2.1 i.2.2

def b_law_kind (source_here_ : (List Int)) : Out Empty ((List Nat) × (List Int)) Empty ((List Nat) × (List Int)) :=
  letV (m_law_name source_here_) fun r15 =>
  letV (m_law_pick r15.2 5) fun r35 =>
  letV (ixg [[112, 97, 121], [97, 99, 107, 115], [97, 99], [97], r15.1] r35.1) fun kind_here_49 =>
  if (decide (kind_here_49 = [97, 99, 107])) = true then (.rt ([112, 97, 121], r35.2)) else
  .rt (kind_here_49, r35.2)

def m_law_kind (source_here_ : (List Int)) : ((List Nat) × (List Int)) := (b_law_kind source_here_).valM

def pre_law_kind (K : PySem.W.Frag) : ((List Int)) → Hp → Cells → List V → Prop := fun i G mc vs => ∃ a0_ : Addr, ∃ u0_ : List V, vs = [.ref a0_] ∧ mc = [(a0_, HO.lst u0_)] ∧ Rs rI G i u0_ ∧ (i.length = 2)

def post_law_kind (K : PySem.W.Frag) : ((List Int)) → List V → ((List Nat) × (List Int)) → Hp → Cells → V → Prop := fun i vs o G mc v => ∃ a0_ : Addr, ∃ u0_ : List V, vs = [.ref a0_] ∧ mc = [(a0_, HO.lst u0_)] ∧ Rs rI G o.2 u0_ ∧ rS o.1 G v

abbrev sp_law_kind (K : PySem.W.Frag) : Sp := SpM (pre_law_kind K) (post_law_kind K) fun i : ((List Int)) => m_law_kind i

def lc_law_text_1 (signs_5 : (List Nat)) (z53 : ((List Int))) (x54 : Int) : (List Nat) × ((List Int)) :=
  letV (m_law_pick z53 (signs_5.length : Int)) fun r69 =>
  ([(ixg signs_5 r69.1)], (r69.2))

def b_law_text (source_here_ : (List Int)) (most_ : Int) : Out Empty ((List Nat) × (List Int)) Empty ((List Nat) × (List Int)) :=
  letV [32, 33, 34, 35, 36, 38, 39, 40, 41, 42, 43, 44, 45, 46, 47, 48, 49, 50, 51, 52, 53, 54, 55, 56, 57, 58, 59, 60, 61, 62, 63, 64, 65, 66, 67, 68, 69, 70, 71, 72, 73, 74, 75, 76, 77, 78, 79, 80, 81, 82, 83, 84, 85, 86, 87, 88, 89, 90, 91, 92, 93, 94, 95, 96] fun signs_1 =>
  letV (signs_1 ++ [97, 98, 99, 100, 101, 102, 103, 104, 105, 106, 107, 108, 109, 110, 111, 112, 113, 114, 115, 116, 117, 118, 119, 120, 121, 122, 123, 125, 126]) fun signs_5 =>
  letV (m_law_pick source_here_ 5) fun r14 =>
  letV r14.1 fun size_25 =>
  (if (decide (size_25 = 4)) = true then (
    letV (m_law_pick r14.2 (most_ + 1)) fun r38 =>
    letV r38.1 fun size_49 =>
    .nx (size_49, r38.2)) else (
    .nx (size_25, r14.2)) : Out Empty (Int × (List Int)) Empty ((List Nat) × (List Int))).bind fun z29 =>
  letV (mapS (lc_law_text_1 signs_5) (z29.2) (rng 0 z29.1)) fun r85 =>
    .rt ((joiL ([] : List Nat) r85.1), r85.2)

def m_law_text (source_here_ : (List Int)) (most_ : Int) : ((List Nat) × (List Int)) := (b_law_text source_here_ most_).valM

def pre_law_text (K : PySem.W.Frag) : ((List Int) × Int) → Hp → Cells → List V → Prop := fun i G mc vs => ∃ v1_ : V, ∃ a0_ : Addr, ∃ u0_ : List V, vs = [.ref a0_, v1_] ∧ mc = [(a0_, HO.lst u0_)] ∧ Rs rI G i.1 u0_ ∧ rI i.2 G v1_ ∧ (i.1.length = 2 ∧ 4 ≤ i.2 ∧ i.2 ≤ 100)

def post_law_text (K : PySem.W.Frag) : ((List Int) × Int) → List V → ((List Nat) × (List Int)) → Hp → Cells → V → Prop := fun i vs o G mc v => ∃ v1_ : V, ∃ a0_ : Addr, ∃ u0_ : List V, vs = [.ref a0_, v1_] ∧ mc = [(a0_, HO.lst u0_)] ∧ Rs rI G o.2 u0_ ∧ rS o.1 G v

abbrev sp_law_text (K : PySem.W.Frag) : Sp := SpM (pre_law_text K) (post_law_text K) fun i : ((List Int) × Int) => m_law_text i.1 i.2

def st_law_check_1 (body_ : (List Nat)) (z5 : (Int)) (x10 : Int) : Out Empty (Int) (Int) (List Nat) :=
  letV (z5 + ((x10 + 1) * (((ixg body_ x10) : Nat) : Int))) fun total_14 =>
    .nx (total_14)

def b_law_check (body_ : (List Nat)) : Out Empty Unit Empty (List Nat) :=
  letV 0 fun total_1 =>
  (forL (st_law_check_1 body_) (total_1) (rng 0 (body_.length : Int))).bind fun z5 =>
  letV (decL (z5 % 9973)) fun digits_20 =>
    .rt ((repS [48] (4 - (digits_20.length : Int))) ++ digits_20)

def m_law_check (body_ : (List Nat)) : (List Nat) := (b_law_check body_).val

def pre_law_check (K : PySem.W.Frag) : ((List Nat)) → Hp → List V → Prop := fun i G vs => ∃ v0_ : V, vs = [v0_] ∧ rS i G v0_ ∧ (i.length ≤ 100000)

abbrev sp_law_check (K : PySem.W.Frag) : Sp := SpP (pre_law_check K) (fun _ o => rS o) fun i : ((List Nat)) => m_law_check i

def b_law_written (kind_here_ : (List Nat)) (sender_ : (List Nat)) (receiver_ : (List Nat)) (digits_ : (List Nat)) (fields_ : (List (List Nat))) : Out Empty Unit Empty (List Nat) :=
  letV ((joiL [124] ([kind_here_, sender_, receiver_, digits_] ++ fields_)) ++ [124]) fun body_1 =>
  .rt (body_1 ++ (m_law_check body_1))

def m_law_written (kind_here_ : (List Nat)) (sender_ : (List Nat)) (receiver_ : (List Nat)) (digits_ : (List Nat)) (fields_ : (List (List Nat))) : (List Nat) := (b_law_written kind_here_ sender_ receiver_ digits_ fields_).val

def pre_law_written (K : PySem.W.Frag) : ((List Nat) × (List Nat) × (List Nat) × (List Nat) × (List (List Nat))) → Hp → List V → Prop := fun i G vs => ∃ v0_ v1_ v2_ v3_ v4_ : V, vs = [v0_, v1_, v2_, v3_, v4_] ∧ rS i.1 G v0_ ∧ rS i.2.1 G v1_ ∧ rS i.2.2.1 G v2_ ∧ rS i.2.2.2.1 G v3_ ∧ (rL K rS) i.2.2.2.2 G v4_ ∧ (WOk i.1 i.2.1 i.2.2.1 i.2.2.2.1 i.2.2.2.2)

abbrev sp_law_written (K : PySem.W.Frag) : Sp := SpP (pre_law_written K) (fun _ o => rS o) fun i : ((List Nat) × (List Nat) × (List Nat) × (List Nat) × (List (List Nat))) => m_law_written i.1 i.2.1 i.2.2.1 i.2.2.2.1 i.2.2.2.2

def st_check_number_1  (z5 : (Int)) (x12 : (Int × Nat)) : Out Empty (Int) (Int) (List Nat) :=
  letV (z5 + ((x12.1 + 1) * ((x12.2 : Nat) : Int))) fun total_17 =>
    .nx (total_17)

def b_check_number (body_ : (List Nat)) : Out Empty Unit Empty (List Nat) :=
  letV 0 fun total_1 =>
  (forL (st_check_number_1) (total_1) (enumL body_)).bind fun z5 =>
  .rt (zfL (decL (z5 % 9973)) 4)

def m_check_number (body_ : (List Nat)) : (List Nat) := (b_check_number body_).val

def pre_check_number (K : PySem.W.Frag) : ((List Nat)) → Hp → List V → Prop := fun i G vs => ∃ v0_ : V, vs = [v0_] ∧ rS i G v0_ ∧ (i.length ≤ 100000)

abbrev sp_check_number (K : PySem.W.Frag) : Sp := SpP (pre_check_number K) (fun _ o => rS o) fun i : ((List Nat)) => m_check_number i

def b_is_name (text_ : (List Nat)) : Out Empty Unit Empty Bool :=
  if ((!(decide (1 ≤ (text_.length : Int)) && decide ((text_.length : Int) ≤ 12))) || (!decide ((ixg text_ 0) ∈ k_LETTERS))) = true then (.rt false) else
  .rt ((text_.map (fun sign_ : Nat => (((decide (sign_ ∈ k_LETTERS))) || ((decide (sign_ ∈ k_DIGITS)))))).all id)

def m_is_name (text_ : (List Nat)) : Bool := (b_is_name text_).val

def pre_is_name (K : PySem.W.Frag) : ((List Nat)) → Hp → List V → Prop := fun i G vs => ∃ v0_ : V, vs = [v0_] ∧ rS i G v0_ ∧ (i.length ≤ 1000)

abbrev sp_is_name (K : PySem.W.Frag) : Sp := SpP (pre_is_name K) (fun _ o => rB o) fun i : ((List Nat)) => m_is_name i

def b_is_field (text_ : (List Nat)) : Out Empty Unit Empty Bool :=
  .rt (((decide ((text_.length : Int) ≤ 40))) && ((!decide (124 ∈ text_))))

def m_is_field (text_ : (List Nat)) : Bool := (b_is_field text_).val

def pre_is_field (K : PySem.W.Frag) : ((List Nat)) → Hp → List V → Prop := fun i G vs => ∃ v0_ : V, vs = [v0_] ∧ rS i G v0_ ∧ (i.length ≤ 1000)

abbrev sp_is_field (K : PySem.W.Frag) : Sp := SpP (pre_is_field K) (fun _ o => rB o) fun i : ((List Nat)) => m_is_field i

def st_write_letter_1  (z13 : Unit) (x19 : (List Nat)) : Out (_root_.Fin 7) Unit Unit (List Nat) :=
  if (!((m_is_name x19))) = true then (.er 0) else
    .nx ()

def st_write_letter_2  (z31 : Unit) (x37 : (List Nat)) : Out (_root_.Fin 7) Unit Unit (List Nat) :=
  if (!((m_is_field x37))) = true then (.er 0) else
          .nx ()

def b_write_letter (letter_ : ((List Nat) × (List Nat) × (List Nat) × Int × (List (List Nat)))) : Out (_root_.Fin 7) Unit Empty (List Nat) :=
  letV letter_ fun t1 =>
  (forL (st_write_letter_1) () [(t1.1, t1.2.1, t1.2.2.1).1, (t1.1, t1.2.1, t1.2.2.1).2.1, (t1.1, t1.2.1, t1.2.2.1).2.2]).bind fun z13 =>
  if (!(decide (0 ≤ t1.2.2.2.1) && decide (t1.2.2.2.1 ≤ 999999))) = true then (.er 0) else
    if (decide (8 < (t1.2.2.2.2.length : Int))) = true then (.er 0) else
      (forL (st_write_letter_2) () t1.2.2.2.2).bind fun z31 =>
        letV ((joiL [124] (t1.1 :: t1.2.1 :: t1.2.2.1 :: (decL t1.2.2.2.1) :: t1.2.2.2.2)) ++ [124]) fun body_45 =>
          .rt (body_45 ++ (m_check_number body_45))

def m_write_letter (letter_ : ((List Nat) × (List Nat) × (List Nat) × Int × (List (List Nat)))) : Except (_root_.Fin 7) (List Nat) := (b_write_letter letter_).res

def pre_write_letter (K : PySem.W.Frag) : (((List Nat) × (List Nat) × (List Nat) × Int × (List (List Nat)))) → Hp → List V → Prop := fun i G vs => ∃ v0_ : V, vs = [v0_] ∧ (rT K (cc rS (cc rS (cc rS (cc rI (c0 (rL K rS))))))) i G v0_ ∧ (LOk i)

abbrev sp_write_letter (K : PySem.W.Frag) (adr : _root_.Fin 7 → Addr) : Sp := SpE (cE adr) (pre_write_letter K) (fun _ o => rS o) fun i : (((List Nat) × (List Nat) × (List Nat) × Int × (List (List Nat)))) => m_write_letter i

def b_Sender_dispatch (self_ : Mo_Sender) (kind_ : (List Nat)) (fields_ : (List (List Nat))) : Out (_root_.Fin 7 × Mo_Sender) ((List Nat) × Mo_Sender) Empty ((List Nat) × Mo_Sender) :=
  if (decide (kind_ = k_ACK)) = true then (.er (0, (self_))) else
  callF (m_write_letter (kind_, self_.1, self_.2.1, (self_.2.2.1 + 1), fields_)) (self_) fun text_6 =>
    letV (self_.2.2.1 + 1) fun last_7 =>
    letV (self_.2.2.2.2 ++ [text_6]) fun kept_12 =>
    .rt (text_6, (self_.1, self_.2.1, last_7, self_.2.2.2.1, kept_12))

def m_Sender_dispatch (self_ : Mo_Sender) (kind_ : (List Nat)) (fields_ : (List (List Nat))) : Except (_root_.Fin 7 × Mo_Sender) ((List Nat) × Mo_Sender) := (b_Sender_dispatch self_ kind_ fields_).resM

def pre_Sender_dispatch (K : PySem.W.Frag) (mg : Str → Option Value) : (Mo_Sender × (List Nat) × (List (List Nat))) → Hp → Cells → List V → Prop := fun i G mc vs => ∃ v1_ : V, ∃ v2_ : V, ∃ a0_ : Addr, ∃ dx0_ : Addr, ∃ l0_ : Addr, ∃ u0_ : List V, vs = [.ref a0_, v1_, v2_] ∧ mc = [(a0_, HO.ins (clA mg "Sender") dx0_ (nf_Sender.zip [.str (SX.S i.1.1), .str (SX.S i.1.2.1), .int i.1.2.2.1, .int i.1.2.2.2.1, .ref l0_])), (dx0_, HO.own a0_), (l0_, HO.lst u0_)] ∧ Rs rS G i.1.2.2.2.2 u0_ ∧ rS i.2.1 G v1_ ∧ (rL K rS) i.2.2 G v2_ ∧ (Txt 100 i.2.1 ∧ Txt 100 i.1.1 ∧ Txt 100 i.1.2.1 ∧ i.2.2.length ≤ 20 ∧ (∀ f ∈ i.2.2, Txt 100 f) ∧ i.1.2.2.2.2.length ≤ 100000)

def post_Sender_dispatch (K : PySem.W.Frag) (mg : Str → Option Value) : (Mo_Sender × (List Nat) × (List (List Nat))) → List V → ((List Nat) × Mo_Sender) → Hp → Cells → V → Prop := fun i vs o G mc v => ∃ v1_ : V, ∃ v2_ : V, ∃ a0_ : Addr, ∃ dx0_ : Addr, ∃ l0_ : Addr, ∃ u0_ : List V, vs = [.ref a0_, v1_, v2_] ∧ mc = [(a0_, HO.ins (clA mg "Sender") dx0_ (nf_Sender.zip [.str (SX.S o.2.1), .str (SX.S o.2.2.1), .int o.2.2.2.1, .int o.2.2.2.2.1, .ref l0_])), (dx0_, HO.own a0_), (l0_, HO.lst u0_)] ∧ Rs rS G o.2.2.2.2.2 u0_ ∧ rS o.1 G v

def perr_Sender_dispatch (K : PySem.W.Frag) (mg : Str → Option Value) : (Mo_Sender × (List Nat) × (List (List Nat))) → List V → Mo_Sender → Hp → Cells → Prop := fun i vs s G mc => ∃ v1_ : V, ∃ v2_ : V, ∃ a0_ : Addr, ∃ dx0_ : Addr, ∃ l0_ : Addr, ∃ u0_ : List V, vs = [.ref a0_, v1_, v2_] ∧ mc = [(a0_, HO.ins (clA mg "Sender") dx0_ (nf_Sender.zip [.str (SX.S s.1), .str (SX.S s.2.1), .int s.2.2.1, .int s.2.2.2.1, .ref l0_])), (dx0_, HO.own a0_), (l0_, HO.lst u0_)] ∧ Rs rS G s.2.2.2.2 u0_

abbrev sp_Sender_dispatch (K : PySem.W.Frag) (mg : Str → Option Value) (adr : _root_.Fin 7 → Addr) : Sp := SpME adr (pre_Sender_dispatch K mg) (post_Sender_dispatch K mg) (perr_Sender_dispatch K mg) fun i : (Mo_Sender × (List Nat) × (List (List Nat))) => m_Sender_dispatch i.1 i.2.1 i.2.2

def lc_law_dispatched_1  (z54 : ((List Int))) (x55 : Int) : (List Nat) × ((List Int)) :=
  letV (m_law_text z54 40) fun r67 =>
  (r67.1, (r67.2))

def st_law_dispatched_1 (ends_ : (List (List Nat))) (z1 : (Mo_Sender × (List (List Nat)) × (List Int))) (x18 : Int) : Out Empty (Mo_Sender × (List (List Nat)) × (List Int)) (Mo_Sender × (List (List Nat)) × (List Int)) (Bool × Mo_Sender × (List (List Nat)) × (List Int)) :=
  letV (m_law_kind z1.2.2) fun r24 =>
    letV r24.1 fun kind_here_34 =>
    letV (m_law_pick r24.2 9) fun r41 =>
    letV (mapS (lc_law_dispatched_1) (r41.2) (rng 0 r41.1)) fun r79 =>
    letV r79.1 fun fields_88 =>
      letV fields_88 fun passed_92 =>
      letV (okV (m_Sender_dispatch z1.1 kind_here_34 passed_92)) fun r103 =>
      letV r103.1 fun text_here_117 =>
      letV (z1.2.1 ++ [(m_law_written kind_here_34 (ixg ends_ 0) (ixg ends_ 1) (decL ((z1.2.1.length : Int) + 1)) fields_88)]) fun sent_122 =>
      if ((!(true)) || ((!decide (text_here_117 = (ixg sent_122 (-1)))) || (!decide (passed_92 = fields_88)))) = true then (.rt (false, r103.2, sent_122, r79.2)) else
      .nx (r103.2, sent_122, r79.2)

def b_law_dispatched (end_ : Mo_Sender) (ends_ : (List (List Nat))) (sent_ : (List (List Nat))) (source_here_ : (List Int)) (many_ : Int) : Out Empty (Bool × Mo_Sender × (List (List Nat)) × (List Int)) Empty (Bool × Mo_Sender × (List (List Nat)) × (List Int)) :=
  (forL (st_law_dispatched_1 ends_) (end_, sent_, source_here_) (rng 0 many_)).bind fun z1 =>
  .rt (true, z1.1, z1.2.1, z1.2.2)

def m_law_dispatched (end_ : Mo_Sender) (ends_ : (List (List Nat))) (sent_ : (List (List Nat))) (source_here_ : (List Int)) (many_ : Int) : (Bool × Mo_Sender × (List (List Nat)) × (List Int)) := (b_law_dispatched end_ ends_ sent_ source_here_ many_).valM

def pre_law_dispatched (K : PySem.W.Frag) (mg : Str → Option Value) : (Mo_Sender × (List (List Nat)) × (List (List Nat)) × (List Int) × Int) → Hp → Cells → List V → Prop := fun i G mc vs => ∃ v1_ : V, ∃ v4_ : V, ∃ a0_ : Addr, ∃ dx0_ : Addr, ∃ l0_ : Addr, ∃ u0_ : List V, ∃ a2_ : Addr, ∃ u2_ : List V, ∃ a3_ : Addr, ∃ u3_ : List V, vs = [.ref a0_, v1_, .ref a2_, .ref a3_, v4_] ∧ mc = [(a0_, HO.ins (clA mg "Sender") dx0_ (nf_Sender.zip [.str (SX.S i.1.1), .str (SX.S i.1.2.1), .int i.1.2.2.1, .int i.1.2.2.2.1, .ref l0_])), (dx0_, HO.own a0_), (l0_, HO.lst u0_), (a2_, HO.lst u2_), (a3_, HO.lst u3_)] ∧ Rs rS G i.1.2.2.2.2 u0_ ∧ Rs rS G i.2.2.1 u2_ ∧ Rs rI G i.2.2.2.1 u3_ ∧ (rL K rS) i.2.1 G v1_ ∧ rI i.2.2.2.2 G v4_ ∧ ((∃ d, Snd i.1 (ixg i.2.1 0) (ixg i.2.1 1) i.2.2.1 d) ∧ i.2.2.2.1.length = 2 ∧ i.2.1.length = 2 ∧ 0 ≤ i.2.2.2.2 ∧ i.2.2.1.length + i.2.2.2.2.toNat ≤ 2000)

def post_law_dispatched (K : PySem.W.Frag) (mg : Str → Option Value) : (Mo_Sender × (List (List Nat)) × (List (List Nat)) × (List Int) × Int) → List V → (Bool × Mo_Sender × (List (List Nat)) × (List Int)) → Hp → Cells → V → Prop := fun i vs o G mc v => ∃ v1_ : V, ∃ v4_ : V, ∃ a0_ : Addr, ∃ dx0_ : Addr, ∃ l0_ : Addr, ∃ u0_ : List V, ∃ a2_ : Addr, ∃ u2_ : List V, ∃ a3_ : Addr, ∃ u3_ : List V, vs = [.ref a0_, v1_, .ref a2_, .ref a3_, v4_] ∧ mc = [(a0_, HO.ins (clA mg "Sender") dx0_ (nf_Sender.zip [.str (SX.S o.2.1.1), .str (SX.S o.2.1.2.1), .int o.2.1.2.2.1, .int o.2.1.2.2.2.1, .ref l0_])), (dx0_, HO.own a0_), (l0_, HO.lst u0_), (a2_, HO.lst u2_), (a3_, HO.lst u3_)] ∧ Rs rS G o.2.1.2.2.2.2 u0_ ∧ Rs rS G o.2.2.1 u2_ ∧ Rs rI G o.2.2.2 u3_ ∧ rB o.1 G v

abbrev sp_law_dispatched (K : PySem.W.Frag) (mg : Str → Option Value) : Sp := SpM (pre_law_dispatched K mg) (post_law_dispatched K mg) fun i : (Mo_Sender × (List (List Nat)) × (List (List Nat)) × (List Int) × Int) => m_law_dispatched i.1 i.2.1 i.2.2.1 i.2.2.2.1 i.2.2.2.2

def b_law_errors (e_ : (_root_.Fin 7)) : Out Empty Unit Empty (List (List Nat)) :=
  letV ([] : (List (List Nat))) fun found_1 =>
  (if ((decide (e_ = 1))) = true then (
    letV (found_1 ++ [[66, 97, 100, 68, 97, 121]]) fun found_14 =>
    .nx (found_14)) else (
    .nx (found_1)) : Out Empty ((List (List Nat))) Empty (List (List Nat))).bind fun z8 =>
  (if ((decide (e_ = 0))) = true then (
      letV (z8 ++ [[66, 97, 100, 86, 97, 108, 117, 101]]) fun found_24 =>
      .nx (found_24)) else (
      .nx (z8)) : Out Empty ((List (List Nat))) Empty (List (List Nat))).bind fun z18 =>
    (if ((decide (e_ = 6))) = true then (
        letV (z18 ++ [[68, 97, 109, 97, 103, 101, 100]]) fun found_34 =>
        .nx (found_34)) else (
        .nx (z18)) : Out Empty ((List (List Nat))) Empty (List (List Nat))).bind fun z28 =>
      (if ((decide (e_ = 4))) = true then (
          letV (z28 ++ [[70, 117, 108, 108]]) fun found_44 =>
          .nx (found_44)) else (
          .nx (z28)) : Out Empty ((List (List Nat))) Empty (List (List Nat))).bind fun z38 =>
        (if ((decide (e_ = 2))) = true then (
            letV (z38 ++ [[77, 105, 115, 115, 105, 110, 103]]) fun found_54 =>
            .nx (found_54)) else (
            .nx (z38)) : Out Empty ((List (List Nat))) Empty (List (List Nat))).bind fun z48 =>
          (if ((decide (e_ = 5))) = true then (
              letV (z48 ++ [[78, 111, 116, 65, 108, 108, 111, 119, 101, 100]]) fun found_64 =>
              .nx (found_64)) else (
              .nx (z48)) : Out Empty ((List (List Nat))) Empty (List (List Nat))).bind fun z58 =>
            (if ((decide (e_ = 3))) = true then (
                letV (z58 ++ [[82, 101, 102, 117, 115, 101, 100]]) fun found_74 =>
                .nx (found_74)) else (
                .nx (z58)) : Out Empty ((List (List Nat))) Empty (List (List Nat))).bind fun z68 =>
              (if (!(true)) = true then (
                  letV (z68 ++ [[110, 111, 116, 32, 98, 101, 108, 111, 119, 32, 86, 97, 108, 117, 101, 69, 114, 114, 111, 114]]) fun found_84 =>
                  .nx (found_84)) else (
                  .nx (z68)) : Out Empty ((List (List Nat))) Empty (List (List Nat))).bind fun z78 =>
                .rt z78

def m_law_errors (e_ : (_root_.Fin 7)) : (List (List Nat)) := (b_law_errors e_).val

abbrev sp_law_errors (K : PySem.W.Frag) (adr : _root_.Fin 7 → Addr) : Addr → Addr → Sp := SpK adr (fun o => (rL K rS) o) m_law_errors

def b_Sender_acknowledge (self_ : Mo_Sender) (number_ : Int) : Out (_root_.Fin 7 × Mo_Sender) (Unit × Mo_Sender) Empty (Unit × Mo_Sender) :=
  if (decide (self_.2.2.1 < number_)) = true then (.er (3, (self_))) else
  if (decide (self_.2.2.2.1 < number_)) = true then (
      letV (cutL self_.2.2.2.2 (some (number_ - self_.2.2.2.1)) none) fun kept_5 =>
      letV number_ fun dropped_11 =>
      .nx ((), (self_.1, self_.2.1, self_.2.2.1, dropped_11, kept_5))) else (
      .nx ((), self_))

def m_Sender_acknowledge (self_ : Mo_Sender) (number_ : Int) : Except (_root_.Fin 7 × Mo_Sender) (Unit × Mo_Sender) := (b_Sender_acknowledge self_ number_).resM

def pre_Sender_acknowledge (K : PySem.W.Frag) (mg : Str → Option Value) : (Mo_Sender × Int) → Hp → Cells → List V → Prop := fun i G mc vs => ∃ v1_ : V, ∃ a0_ : Addr, ∃ dx0_ : Addr, ∃ l0_ : Addr, ∃ u0_ : List V, vs = [.ref a0_, v1_] ∧ mc = [(a0_, HO.ins (clA mg "Sender") dx0_ (nf_Sender.zip [.str (SX.S i.1.1), .str (SX.S i.1.2.1), .int i.1.2.2.1, .int i.1.2.2.2.1, .ref l0_])), (dx0_, HO.own a0_), (l0_, HO.lst u0_)] ∧ Rs rS G i.1.2.2.2.2 u0_ ∧ rI i.2 G v1_

def post_Sender_acknowledge (K : PySem.W.Frag) (mg : Str → Option Value) : (Mo_Sender × Int) → List V → (Unit × Mo_Sender) → Hp → Cells → V → Prop := fun i vs o G mc v => ∃ v1_ : V, ∃ a0_ : Addr, ∃ dx0_ : Addr, ∃ l0_ : Addr, ∃ u0_ : List V, vs = [.ref a0_, v1_] ∧ mc = [(a0_, HO.ins (clA mg "Sender") dx0_ (nf_Sender.zip [.str (SX.S o.2.1), .str (SX.S o.2.2.1), .int o.2.2.2.1, .int o.2.2.2.2.1, .ref l0_])), (dx0_, HO.own a0_), (l0_, HO.lst u0_)] ∧ Rs rS G o.2.2.2.2.2 u0_ ∧ rN o.1 G v

def perr_Sender_acknowledge (K : PySem.W.Frag) (mg : Str → Option Value) : (Mo_Sender × Int) → List V → Mo_Sender → Hp → Cells → Prop := fun i vs s G mc => ∃ v1_ : V, ∃ a0_ : Addr, ∃ dx0_ : Addr, ∃ l0_ : Addr, ∃ u0_ : List V, vs = [.ref a0_, v1_] ∧ mc = [(a0_, HO.ins (clA mg "Sender") dx0_ (nf_Sender.zip [.str (SX.S s.1), .str (SX.S s.2.1), .int s.2.2.1, .int s.2.2.2.1, .ref l0_])), (dx0_, HO.own a0_), (l0_, HO.lst u0_)] ∧ Rs rS G s.2.2.2.2 u0_

abbrev sp_Sender_acknowledge (K : PySem.W.Frag) (mg : Str → Option Value) (adr : _root_.Fin 7 → Addr) : Sp := SpME adr (pre_Sender_acknowledge K mg) (post_Sender_acknowledge K mg) (perr_Sender_acknowledge K mg) fun i : (Mo_Sender × Int) => m_Sender_acknowledge i.1 i.2

def b_law_acknowledged (end_ : Mo_Sender) (sent_ : (List (List Nat))) (dropped_ : Int) (source_here_ : (List Int)) : Out Empty (Int × Mo_Sender × (List Int)) Empty (Int × Mo_Sender × (List Int)) :=
  letV (m_law_pick source_here_ (((sent_.length : Int) - dropped_) + 1)) fun r9 =>
  letV (dropped_ + r9.1) fun near_22 =>
  letV (m_law_pick r9.2 3) fun r32 =>
  letV (((sent_.length : Int) + 1) + r32.1) fun late_45 =>
  letV (m_law_pick r32.2 (dropped_ + 1)) fun r58 =>
  letV (m_law_pick r58.2 4) fun r80 =>
  letV (m_law_pick r80.2 5) fun r103 =>
  letV (ixg [near_22, near_22, r58.1, late_45, (0 - r80.1)] r103.1) fun number_117 =>
  (tryO (ε' := (_root_.Fin 7 × Mo_Sender)) (callX (m_Sender_acknowledge end_ number_117) (fun o140 =>
    .nx (o140.2)) (fun t151 => (t151)) : Out (_root_.Fin 7 × Mo_Sender) (Mo_Sender) Empty (Int × Mo_Sender × (List Int))) (fun k125 => if ((decide ((sent_.length : Int) < number_117)) && (decide ((m_law_errors k125.1) = [[82, 101, 102, 117, 115, 101, 100]]))) = true then (.rt (dropped_, k125.2, r103.2)) else
    .rt ((-1), k125.2, r103.2)) : Out Empty (Mo_Sender) Empty (Int × Mo_Sender × (List Int))).bind fun z119 =>
  if (decide ((sent_.length : Int) < number_117)) = true then (.rt ((-1), z119, r103.2)) else
    .rt ((if number_117 > dropped_ then number_117 else dropped_), z119, r103.2)

def m_law_acknowledged (end_ : Mo_Sender) (sent_ : (List (List Nat))) (dropped_ : Int) (source_here_ : (List Int)) : (Int × Mo_Sender × (List Int)) := (b_law_acknowledged end_ sent_ dropped_ source_here_).valM

def pre_law_acknowledged (K : PySem.W.Frag) (mg : Str → Option Value) : ((Mo_Sender × (List (List Nat)) × Int × (List Int)) × Cells) → Hp → Cells → List V → Prop := fun i G mc vs => ∃ v2_ : V, ∃ a0_ : Addr, ∃ dx0_ : Addr, ∃ l0_ : Addr, ∃ u0_ : List V, ∃ a3_ : Addr, ∃ u3_ : List V, ∃ a1_ : Addr, ∃ u1_ : List V, vs = [.ref a0_, .ref a1_, v2_, .ref a3_] ∧ mc = (a0_, HO.ins (clA mg "Sender") dx0_ (nf_Sender.zip [.str (SX.S i.1.1.1), .str (SX.S i.1.1.2.1), .int i.1.1.2.2.1, .int i.1.1.2.2.2.1, .ref l0_])) :: (dx0_, HO.own a0_) :: (l0_, HO.lst u0_) :: (a3_, HO.lst u3_) :: i.2 ∧ i.2 = [(a1_, HO.lst u1_)] ∧ Rs rS G i.1.1.2.2.2.2 u0_ ∧ Rs rI G i.1.2.2.2 u3_ ∧ Rs rS G i.1.2.1 u1_ ∧ rI i.1.2.2.1 G v2_ ∧ (0 ≤ i.1.2.2.1 ∧ i.1.2.2.1 ≤ (i.1.2.1.length : Int) ∧ i.1.2.1.length ≤ 2000 ∧ i.1.2.2.2.length = 2)

def post_law_acknowledged (K : PySem.W.Frag) (mg : Str → Option Value) : ((Mo_Sender × (List (List Nat)) × Int × (List Int)) × Cells) → List V → (Int × Mo_Sender × (List Int)) → Hp → Cells → V → Prop := fun i vs o G mc v => ∃ v2_ : V, ∃ a0_ : Addr, ∃ dx0_ : Addr, ∃ l0_ : Addr, ∃ u0_ : List V, ∃ a3_ : Addr, ∃ u3_ : List V, ∃ a1_ : Addr, vs = [.ref a0_, .ref a1_, v2_, .ref a3_] ∧ mc = (a0_, HO.ins (clA mg "Sender") dx0_ (nf_Sender.zip [.str (SX.S o.2.1.1), .str (SX.S o.2.1.2.1), .int o.2.1.2.2.1, .int o.2.1.2.2.2.1, .ref l0_])) :: (dx0_, HO.own a0_) :: (l0_, HO.lst u0_) :: (a3_, HO.lst u3_) :: i.2 ∧ Rs rS G o.2.1.2.2.2.2 u0_ ∧ Rs rI G o.2.2 u3_ ∧ rI o.1 G v

abbrev sp_law_acknowledged (K : PySem.W.Frag) (mg : Str → Option Value) : Sp := SpM (pre_law_acknowledged K mg) (post_law_acknowledged K mg) fun i : ((Mo_Sender × (List (List Nat)) × Int × (List Int)) × Cells) => m_law_acknowledged i.1.1 i.1.2.1 i.1.2.2.1 i.1.2.2.2

def b_law_bad_name (source_here_ : (List Int)) : Out Empty ((List Nat) × (List Int)) Empty ((List Nat) × (List Int)) :=
  letV (m_law_name source_here_) fun r3 =>
  letV r3.1 fun name_here_13 =>
  letV (m_law_pick r3.2 6) fun r20 =>
  letV r20.1 fun which_31 =>
  if (decide (which_31 = 0)) = true then (.rt (([] : List Nat), r20.2)) else
  if (decide (which_31 = 1)) = true then (.rt ((name_here_13 ++ [97, 98, 99, 100, 101, 102, 103, 104, 105, 106, 107, 108]), r20.2)) else
    if (decide (which_31 = 2)) = true then (letV (m_law_pick r20.2 10) fun r49 =>
        .rt (([(ixg [48, 49, 50, 51, 52, 53, 54, 55, 56, 57] r49.1)] ++ (cutL name_here_13 (some 1) none)), r49.2)) else
      letV [32, 33, 34, 35, 36, 38, 39, 40, 41, 42, 43, 44, 45, 46, 47, 58, 59, 60, 61, 62, 63, 64, 65, 66, 67, 68, 69, 70, 71, 72, 73, 74, 75, 76, 77, 78, 79, 80, 81, 82, 83, 84, 85, 86, 87, 88, 89, 90, 91, 92, 93, 94, 95, 96, 123, 124, 125, 126] fun odd_69 =>
        letV (m_law_pick r20.2 (name_here_13.length : Int)) fun r78 =>
        letV r78.1 fun at_89 =>
        letV (m_law_pick r78.2 (odd_69.length : Int)) fun r102 =>
        .rt ((((cutL name_here_13 none (some at_89)) ++ [(ixg odd_69 r102.1)]) ++ (cutL name_here_13 (some (at_89 + 1)) none)), r102.2)

def m_law_bad_name (source_here_ : (List Int)) : ((List Nat) × (List Int)) := (b_law_bad_name source_here_).valM

def pre_law_bad_name (K : PySem.W.Frag) : ((List Int)) → Hp → Cells → List V → Prop := fun i G mc vs => ∃ a0_ : Addr, ∃ u0_ : List V, vs = [.ref a0_] ∧ mc = [(a0_, HO.lst u0_)] ∧ Rs rI G i u0_ ∧ (i.length = 2)

def post_law_bad_name (K : PySem.W.Frag) : ((List Int)) → List V → ((List Nat) × (List Int)) → Hp → Cells → V → Prop := fun i vs o G mc v => ∃ a0_ : Addr, ∃ u0_ : List V, vs = [.ref a0_] ∧ mc = [(a0_, HO.lst u0_)] ∧ Rs rI G o.2 u0_ ∧ rS o.1 G v

abbrev sp_law_bad_name (K : PySem.W.Frag) : Sp := SpM (pre_law_bad_name K) (post_law_bad_name K) fun i : ((List Int)) => m_law_bad_name i

def b_law_wrong (end_ : Mo_Sender) (source_here_ : (List Int)) : Out Empty (Bool × Mo_Sender × (List Int)) Empty (Bool × Mo_Sender × (List Int)) :=
  letV (m_law_pick source_here_ 4) fun r6 =>
  letV r6.1 fun which_17 =>
  letV [112, 97, 121] fun kind_here_19 =>
  letV (m_law_text r6.2 9) fun r28 =>
  letV [r28.1] fun fields_42 =>
  (if (decide (which_17 = 0)) = true then (
    letV (m_law_bad_name r28.2) fun r52 =>
    letV r52.1 fun kind_here_62 =>
    .nx (kind_here_62, r52.2)) else (
    .nx (kind_here_19, r28.2)) : Out Empty ((List Nat) × (List Int)) Empty (Bool × Mo_Sender × (List Int))).bind fun z46 =>
  (if (decide (which_17 = 1)) = true then (
      letV [97, 99, 107] fun kind_here_68 =>
      .nx (kind_here_68)) else (
      .nx (z46.1)) : Out Empty ((List Nat)) Empty (Bool × Mo_Sender × (List Int))).bind fun z66 =>
    (if (decide (which_17 = 2)) = true then (
        letV (m_law_pick z46.2 3) fun r89 =>
        letV ((List.replicate (9 + r89.1).toNat fields_42).flatten) fun fields_105 =>
        .nx (fields_105, r89.2)) else (
        .nx (fields_42, z46.2)) : Out Empty ((List (List Nat)) × (List Int)) Empty (Bool × Mo_Sender × (List Int))).bind fun z74 =>
      (if (decide (which_17 = 3)) = true then (
          letV (m_law_text z74.2 9) fun r126 =>
          letV (z74.1 ++ [(r126.1 ++ [124])]) fun fields_150 =>
          .nx (fields_150, r126.2)) else (
          .nx (z74.1, z74.2)) : Out Empty ((List (List Nat)) × (List Int)) Empty (Bool × Mo_Sender × (List Int))).bind fun z112 =>
        (tryO (ε' := (_root_.Fin 7 × Mo_Sender)) (callX (m_Sender_dispatch end_ z66 z112.1) (fun o176 =>
            .nx (o176.2)) (fun t188 => (t188)) : Out (_root_.Fin 7 × Mo_Sender) (Mo_Sender) Empty (Bool × Mo_Sender × (List Int))) (fun k158 => .rt ((decide ((m_law_errors k158.1) = [[66, 97, 100, 86, 97, 108, 117, 101]])), k158.2, z112.2)) : Out Empty (Mo_Sender) Empty (Bool × Mo_Sender × (List Int))).bind fun z152 =>
          .rt (false, z152, z112.2)

def m_law_wrong (end_ : Mo_Sender) (source_here_ : (List Int)) : (Bool × Mo_Sender × (List Int)) := (b_law_wrong end_ source_here_).valM

def pre_law_wrong (K : PySem.W.Frag) (mg : Str → Option Value) : (Mo_Sender × (List Int)) → Hp → Cells → List V → Prop := fun i G mc vs => ∃ a0_ : Addr, ∃ dx0_ : Addr, ∃ l0_ : Addr, ∃ u0_ : List V, ∃ a1_ : Addr, ∃ u1_ : List V, vs = [.ref a0_, .ref a1_] ∧ mc = [(a0_, HO.ins (clA mg "Sender") dx0_ (nf_Sender.zip [.str (SX.S i.1.1), .str (SX.S i.1.2.1), .int i.1.2.2.1, .int i.1.2.2.2.1, .ref l0_])), (dx0_, HO.own a0_), (l0_, HO.lst u0_), (a1_, HO.lst u1_)] ∧ Rs rS G i.1.2.2.2.2 u0_ ∧ Rs rI G i.2 u1_ ∧ (i.2.length = 2 ∧ Txt 100 i.1.1 ∧ Txt 100 i.1.2.1 ∧ i.1.2.2.2.2.length ≤ 2000)

def post_law_wrong (K : PySem.W.Frag) (mg : Str → Option Value) : (Mo_Sender × (List Int)) → List V → (Bool × Mo_Sender × (List Int)) → Hp → Cells → V → Prop := fun i vs o G mc v => ∃ a0_ : Addr, ∃ dx0_ : Addr, ∃ l0_ : Addr, ∃ u0_ : List V, ∃ a1_ : Addr, ∃ u1_ : List V, vs = [.ref a0_, .ref a1_] ∧ mc = [(a0_, HO.ins (clA mg "Sender") dx0_ (nf_Sender.zip [.str (SX.S o.2.1.1), .str (SX.S o.2.1.2.1), .int o.2.1.2.2.1, .int o.2.1.2.2.2.1, .ref l0_])), (dx0_, HO.own a0_), (l0_, HO.lst u0_), (a1_, HO.lst u1_)] ∧ Rs rS G o.2.1.2.2.2.2 u0_ ∧ Rs rI G o.2.2 u1_ ∧ rB o.1 G v

abbrev sp_law_wrong (K : PySem.W.Frag) (mg : Str → Option Value) : Sp := SpM (pre_law_wrong K mg) (post_law_wrong K mg) fun i : (Mo_Sender × (List Int)) => m_law_wrong i.1 i.2

def b_Sender___init__ (me_ : (List Nat)) (other_ : (List Nat)) : Out Empty (Unit × Mo_Sender) Empty (Unit × Mo_Sender) :=
  letV me_ fun me_1 =>
  letV other_ fun other_5 =>
  letV 0 fun last_9 =>
  letV 0 fun dropped_13 =>
  letV ([] : (List (List Nat))) fun kept_17 =>
  .nx ((), (me_1, other_5, last_9, dropped_13, kept_17))

def m_Sender___init__ (me_ : (List Nat)) (other_ : (List Nat)) : (Unit × Mo_Sender) := (b_Sender___init__ me_ other_).valM

def pre_Sender___init__ (K : PySem.W.Frag) (mg : Str → Option Value) : ((List Nat) × (List Nat)) → Hp → Cells → List V → Prop := fun i G mc vs => ∃ v1_ : V, ∃ v2_ : V, ∃ a0_ : Addr, ∃ dx0_ : Addr, vs = [.ref a0_, v1_, v2_] ∧ mc = [(a0_, HO.ins (clA mg "Sender") dx0_ (nf_Sender.zip [])), (dx0_, HO.own a0_)] ∧ rS i.1 G v1_ ∧ rS i.2 G v2_

def post_Sender___init__ (K : PySem.W.Frag) (mg : Str → Option Value) : ((List Nat) × (List Nat)) → List V → (Unit × Mo_Sender) → Hp → Cells → V → Prop := fun i vs o G mc v => ∃ v1_ : V, ∃ v2_ : V, ∃ a0_ : Addr, ∃ dx0_ : Addr, ∃ l0_ : Addr, ∃ u0_ : List V, vs = [.ref a0_, v1_, v2_] ∧ mc = [(a0_, HO.ins (clA mg "Sender") dx0_ (nf_Sender.zip [.str (SX.S o.2.1), .str (SX.S o.2.2.1), .int o.2.2.2.1, .int o.2.2.2.2.1, .ref l0_])), (dx0_, HO.own a0_), (l0_, HO.lst u0_)] ∧ Rs rS G o.2.2.2.2.2 u0_ ∧ rN o.1 G v

abbrev sp_Sender___init__ (K : PySem.W.Frag) (mg : Str → Option Value) : Sp := SpM (pre_Sender___init__ K mg) (post_Sender___init__ K mg) fun i : ((List Nat) × (List Nat)) => m_Sender___init__ i.1 i.2

def st_law_1 (script_ : (List Int)) (ends_29 : (List (List Nat))) (z86 : (Mo_Sender × (List (List Nat)) × Int)) (x99 : Int) : Out Empty (Mo_Sender × (List (List Nat)) × Int) (Mo_Sender × (List (List Nat)) × Int) Bool :=
  if ((decide (x99 < (script_.length : Int))) || (decide (x99 < 4))) = true then (
      letV (m_law_source (m_law_cell script_ x99) x99) fun r113 =>
      letV r113 fun source_here_123 =>
      letV (m_law_pick source_here_123 8) fun r130 =>
      letV r130.1 fun which_141 =>
      letV (if (decide (which_141 < 3)) = true then (letV (m_law_dispatched z86.1 ends_29 z86.2.1 r130.2 1) fun r166 => (!(r166.1), r166.2.1, r166.2.2.1, r166.2.2.2)) else (false, z86.1, z86.2.1, r130.2)) fun t145 =>
      if (t145.1) = true then (.rt false) else
      letV (if (decide (which_141 = 3)) = true then (letV (m_law_pick t145.2.2.2 13) fun r223 => letV (m_law_dispatched t145.2.1 ends_29 t145.2.2.1 r223.2 r223.1) fun r235 => (!(r235.1), r235.2.1, r235.2.2.1, r235.2.2.2)) else (false, t145.2.1, t145.2.2.1, t145.2.2.2)) fun t201 =>
        if (t201.1) = true then (.rt false) else
        letV (if (decide (which_141 = 4)) = true then (letV (m_law_wrong t201.2.1 t201.2.2.2) fun r282 => (!(r282.1), r282.2.1, r282.2.2)) else (false, t201.2.1, t201.2.2.2)) fun t270 =>
          if (t270.1) = true then (.rt false) else
          (if ((decide (which_141 = 5)) || (decide (which_141 = 6))) = true then (
              letV (m_law_acknowledged t270.2.1 t201.2.2.1 z86.2.2 t270.2.2) fun r325 =>
              letV r325.1 fun dropped_343 =>
              if (decide (dropped_343 < 0)) = true then (.rt false) else
              .nx (dropped_343, r325.2.1, r325.2.2)) else (
              .nx (z86.2.2, t270.2.1, t270.2.2)) : Out Empty (Int × Mo_Sender × (List Int)) (Mo_Sender × (List (List Nat)) × Int) Bool).bind fun z310 =>
            (if (decide (which_141 = 7)) = true then (
                letV (m_Sender_waiting z310.2.1) fun r354 =>
                .nx ()) else (
                .nx ()) : Out Empty Unit (Mo_Sender × (List (List Nat)) × Int) Bool).bind fun z351 =>
              if (!((m_law_agrees z310.2.1 t201.2.2.1 z310.1))) = true then (.rt false) else
                .nx (z310.2.1, t201.2.2.1, z310.1)) else (
      .nx (z86.1, z86.2.1, z86.2.2))

def b_law (script_ : (List Int)) : Out Empty Unit Empty Bool :=
  letV (m_law_source (m_law_cell script_ 0) 0) fun r8 =>
  letV (m_law_two_names r8) fun r19 =>
  letV r19.1 fun ends_29 =>
  letV (m_Sender___init__ (ixg ends_29 0) (ixg ends_29 1)) fun r40 =>
  letV (m_Sender___init__ (ixg ends_29 1) (ixg ends_29 0)) fun r63 =>
  letV ([] : (List (List Nat))) fun sent_77 =>
  letV 0 fun dropped_82 =>
  (forL (st_law_1 script_ ends_29) (r40.2, sent_77, dropped_82) (rng 1 61)).bind fun z86 =>
  letV (m_law_source (m_law_cell script_ 1) 99) fun r382 =>
    letV r382 fun last_392 =>
    letV (letV (m_law_agrees r63.2 ([] : (List (List Nat))) 0) fun r404 => if (r404) = true then (letV (m_law_dispatched r63.2 [(ixg ends_29 1), (ixg ends_29 0)] ([] : (List (List Nat))) last_392 2) fun r423 => (r423.1, r423.2.1, r423.2.2.2)) else ((false, r63.2, last_392))) fun t394 =>
    .rt t394.1

def m_law (script_ : (List Int)) : Bool := (b_law script_).val

def pre_law (K : PySem.W.Frag) : ((List Int)) → Hp → List V → Prop := fun i G vs => ∃ v0_ : V, vs = [v0_] ∧ (rL K rI) i G v0_ ∧ (i.length ≤ 63)

abbrev sp_law (K : PySem.W.Frag) : Sp := SpP (pre_law K) (fun _ o => rB o) fun i : ((List Int)) => m_law i
end Ck28

namespace Ck28
open PySem L2 PyProof.Rows J
theorem source_len {c k : Int} : (m_law_source c k).length = 2 := by
  unfold m_law_source b_law_source
  split <;> rfl
theorem pick_ok {s : List Int} {n : Int} (hl : s.length = 2) (hn : 0 < n) : (m_law_pick s n).2.length = 2 ∧ 0 ≤ (m_law_pick s n).1 ∧ (m_law_pick s n).1 < n := by
  unfold m_law_pick b_law_pick letV
  split
  · simp only [valM_rt, putL_len]
    exact ⟨hl, Int.emod_nonneg _ (by omega), Int.emod_lt_of_pos _ hn⟩
  · simp only [valM_rt, putL_len]
    exact ⟨hl, Int.emod_nonneg _ (by omega), Int.emod_lt_of_pos _ hn⟩
/-! ### texts -/
theorem Low.lt {c : Nat} (h : Low c) : c < 128 := by unfold Low at h; omega
theorem ixg_all {xs : List Nat} {P : Nat → Prop} (h : ∀ c ∈ xs, P c) {i : Int} (h0 : 0 ≤ i) (h1 : i < (xs.length : Int)) : P (ixg xs i) := h _ (ixg_mem h0 h1)
def sgn : List Nat := [97, 98, 99, 100, 101, 102, 103, 104, 105, 106, 107, 108, 109, 110, 111, 112, 113, 114, 115, 116, 117, 118, 119, 120, 121, 122, 48, 49, 50, 51, 52, 53, 54, 55, 56, 57]
theorem sgn_low : ∀ c ∈ sgn, Low c := by
  decide +kernel
theorem sgn_at {i : Int} (h0 : 0 ≤ i) (h1 : i < 26) : 97 ≤ ixg sgn i ∧ ixg sgn i ≤ 122 := by
  have h : ∀ k : Nat, k < 26 → (decide (97 ≤ ixg sgn (k : Int) ∧ ixg sgn (k : Int) ≤ 122)) = true := by decide +kernel
  have := h i.toNat (by omega)
  rw [Int.toNat_of_nonneg h0] at this
  exact of_decide_eq_true this
theorem ixg_app0 {xs ys : List Nat} (h : 0 < xs.length) : ixg (xs ++ ys) 0 = ixg xs 0 := by
  cases xs with
  | nil => cases h
  | cons x xs =>
    rw [ixg_nat (Int.le_refl 0) (by rw [List.length_append, List.length_cons]; omega), ixg_nat (Int.le_refl 0) (by rw [List.length_cons]; omega)]
    rfl
theorem name_step {s : List Int × List Nat} {x : Int} {n : Nat} (h : s.1.length = 2 ∧ s.2.length = n + 1 ∧ (∀ c ∈ s.2, Low c) ∧ 97 ≤ ixg s.2 0 ∧ ixg s.2 0 ≤ 122) :
    ∃ s', st_law_name_1 sgn s x = .nx s' ∧ s'.1.length = 2 ∧ s'.2.length = n + 1 + 1 ∧ (∀ c ∈ s'.2, Low c) ∧ 97 ≤ ixg s'.2 0 ∧ ixg s'.2 0 ≤ 122 := by
  obtain ⟨l1, a1, b1⟩ := pick_ok (n := 36) h.1 (by decide)
  refine ⟨((m_law_pick s.1 36).2, s.2 ++ [ixg sgn (m_law_pick s.1 36).1]), rfl, l1, ?_, fun c hc => ?_, ?_⟩
  · show (s.2 ++ [_]).length = _
    rw [List.length_append, h.2.1]
    rfl
  · rcases List.mem_append.mp hc with h1 | h1
    · exact h.2.2.1 c h1
    · rw [List.mem_singleton.mp h1]
      exact ixg_all sgn_low a1 b1
  · show 97 ≤ ixg (s.2 ++ [_]) 0 ∧ ixg (s.2 ++ [_]) 0 ≤ 122
    rw [ixg_app0 (by omega)]
    exact h.2.2.2
theorem name_ok {s : List Int} (hl : s.length = 2) : (m_law_name s).2.length = 2 ∧ NameOk (m_law_name s).1 := by
  obtain ⟨l1, a1, b1⟩ := pick_ok (n := 26) hl (by decide)
  obtain ⟨l2, a2, b2⟩ := pick_ok (n := 12) l1 (by decide)
  have s1 := sgn_at a1 b1
  have hl1 : Low (ixg sgn (m_law_pick s 26).1) := .inl s1
  obtain ⟨z, e, h⟩ := forL_inv (ε := Empty) (L := Empty) (R := List Nat × List Int) (f := st_law_name_1 sgn) (fun n z => z.1.length = 2 ∧ z.2.length = n + 1 ∧ (∀ c ∈ z.2, Low c) ∧ 97 ≤ ixg z.2 0 ∧ ixg z.2 0 ≤ 122)
    (xs := rng 0 (m_law_pick (m_law_pick s 26).2 12).1) (s := ((m_law_pick (m_law_pick s 26).2 12).2, [ixg sgn (m_law_pick s 26).1])) (n := 0)
    ⟨l2, rfl, fun c hc => by rw [List.mem_singleton.mp hc]; exact hl1, s1⟩ (fun n z x _ h => name_step h)
  have em : m_law_name s = (z.2, z.1) := by
    unfold m_law_name b_law_name
    show (Out.bind (forL (st_law_name_1 sgn) ((m_law_pick (m_law_pick s 26).2 12).2, [ixg sgn (m_law_pick s 26).1]) (rng 0 (m_law_pick (m_law_pick s 26).2 12).1)) fun z50 => .rt (z50.2, z50.1)).valM = _
    rw [e]
    rfl
  rw [rng_length] at h
  rw [em]
  refine ⟨h.1, ?_, ?_, h.2.2.1, h.2.2.2⟩
  · show 1 ≤ z.2.length
    omega
  · show z.2.length ≤ 12
    omega
/-- the signs of a field's text -/
def Fld (c : Nat) : Prop := c < 128 ∧ c ≠ 124
instance (c : Nat) : Decidable (Fld c) := by unfold Fld; infer_instance
def fsg : List Nat := [32, 33, 34, 35, 36, 38, 39, 40, 41, 42, 43, 44, 45, 46, 47, 48, 49, 50, 51, 52, 53, 54, 55, 56, 57, 58, 59, 60, 61, 62, 63, 64, 65, 66, 67, 68, 69, 70, 71, 72, 73, 74, 75, 76, 77, 78, 79, 80, 81, 82, 83, 84, 85, 86, 87, 88, 89, 90, 91, 92, 93, 94, 95, 96, 97, 98, 99, 100, 101, 102, 103, 104, 105, 106, 107, 108, 109, 110, 111, 112, 113, 114, 115, 116, 117, 118, 119, 120, 121, 122, 123, 125, 126]
theorem fsg_ok : ∀ c ∈ fsg, Fld c := by
  decide +kernel
def FieldOk (n : Nat) (s : List Nat) : Prop := s.length ≤ n ∧ ∀ c ∈ s, Fld c
/-- texts of one sign, joined by nothing -/
theorem joi_one {ws : List (List Nat)} (h : ∀ w ∈ ws, w.length = 1 ∧ ∀ c ∈ w, Fld c) : (joiL [] ws).length = ws.length ∧ ∀ c ∈ joiL [] ws, Fld c := by
  rw [joiL_is, joi_flat]
  refine ⟨?_, fun c hc => ?_⟩
  · induction ws with
    | nil => rfl
    | cons w ws ih =>
      have h1 := (h w List.mem_cons_self).1
      have h2 := ih fun v hv => h v (List.mem_cons_of_mem _ hv)
      rw [List.flatten_cons, List.length_append, h1, h2, List.length_cons]
      omega
  · obtain ⟨w, hw, hc⟩ := List.mem_flatten.mp hc
    exact (h w hw).2 c hc
def lcT : List Int → Int → (List Nat) × List Int := lc_law_text_1 fsg
theorem lcT_ok {z : List Int} {x : Int} (h : z.length = 2) : (lc_law_text_1 fsg z x).2.length = 2 ∧ ((lc_law_text_1 fsg z x).1.length = 1 ∧ ∀ c ∈ (lc_law_text_1 fsg z x).1, Fld c) := by
  obtain ⟨l1, a1, b1⟩ := pick_ok (n := (fsg.length : Int)) h (by decide)
  refine ⟨l1, rfl, fun c hc => ?_⟩
  rw [List.mem_singleton.mp hc]
  exact fsg_ok _ (ixg_mem a1 b1)
theorem map_text {z : List Int} {xs : List Int} (h : z.length = 2) : (mapS (lc_law_text_1 fsg) z xs).2.length = 2 ∧ ∀ w ∈ (mapS (lc_law_text_1 fsg) z xs).1, w.length = 1 ∧ ∀ c ∈ w, Fld c :=
  mapS_inv (f := lc_law_text_1 fsg) (fun z : List Int => z.length = 2) (fun w : List Nat => w.length = 1 ∧ ∀ c ∈ w, Fld c) (fun s x _ hs => lcT_ok hs) h
theorem text_ok {s : List Int} {m : Int} (hl : s.length = 2) (h4 : 4 ≤ m) (hm : m ≤ 100) : (m_law_text s m).2.length = 2 ∧ FieldOk m.toNat (m_law_text s m).1 := by
  let Q : Out Empty (List Nat × List Int) Empty (List Nat × List Int) → Prop := fun o => o.valM.2.length = 2 ∧ FieldOk m.toNat o.valM.1
  show Q (b_law_text s m)
  have key : ∀ (n : Int) (z : List Int), z.length = 2 → n ≤ m → Q (letV (mapS (lc_law_text_1 fsg) z (rng 0 n)) fun r91 => .rt ((joiL ([] : List Nat) r91.1), r91.2)) := fun n z hz hn => by
    obtain ⟨k1, k2⟩ := map_text (xs := rng 0 n) hz
    obtain ⟨k3, k4⟩ := joi_one k2
    refine ⟨k1, ?_, k4⟩
    show (joiL [] _).length ≤ _
    rw [k3, mapS_length, rng_length]
    omega
  obtain ⟨l1, a1, b1⟩ := pick_ok (n := 5) hl (by decide)
  obtain ⟨l2, a2, b2⟩ := pick_ok (n := m + 1) l1 (by omega)
  unfold b_law_text
  show Q (Out.bind (if (decide ((m_law_pick s 5).1 = 4)) = true then .nx ((m_law_pick (m_law_pick s 5).2 (m + 1)).1, (m_law_pick (m_law_pick s 5).2 (m + 1)).2) else .nx ((m_law_pick s 5).1, (m_law_pick s 5).2) : Out Empty (Int × List Int) Empty (List Nat × List Int)) fun z31 => letV (mapS (lc_law_text_1 fsg) (z31.2) (rng 0 z31.1)) fun r91 => .rt ((joiL ([] : List Nat) r91.1), r91.2))
  by_cases h : (decide ((m_law_pick s 5).1 = 4)) = true
  · rw [if_pos h]
    exact key _ _ l2 (by omega)
  · rw [if_neg h]
    have h' : (m_law_pick s 5).1 ≠ 4 := fun e => h (by rw [e]; rfl)
    exact key _ _ l1 (by omega)
/-! ### names, fields -/
theorem low_mem {c : Nat} (h : Low c) : c ∈ k_LETTERS ∨ c ∈ k_DIGITS := by
  have q : ∀ c < 128, Low c → (c ∈ k_LETTERS ∨ c ∈ k_DIGITS) := by decide +kernel
  exact q c h.lt h
theorem let_mem {c : Nat} : c ∈ k_LETTERS ↔ 97 ≤ c ∧ c ≤ 122 := by
  constructor
  · intro h
    have q : ∀ c ∈ k_LETTERS, 97 ≤ c ∧ c ≤ 122 := by decide +kernel
    exact q c h
  · intro h
    have q : ∀ c < 128, 97 ≤ c ∧ c ≤ 122 → c ∈ k_LETTERS := by decide +kernel
    exact q c (by omega) h
theorem mem_low {c : Nat} (h : c ∈ k_LETTERS ∨ c ∈ k_DIGITS) : Low c := by
  have q1 : ∀ c ∈ k_LETTERS, Low c := by decide +kernel
  have q2 : ∀ c ∈ k_DIGITS, Low c := by decide +kernel
  exact h.elim (q1 c) (q2 c)
theorem is_name_ok {s : List Nat} (h : NameOk s) : m_is_name s = true := by
  unfold m_is_name b_is_name
  have h1 : (decide (1 ≤ (s.length : Int)) && decide ((s.length : Int) ≤ 12)) = true := by
    have := h.1; have := h.2.1
    simp
    omega
  have h2 : ixg s 0 ∈ k_LETTERS := let_mem.mpr h.2.2.2
  rw [h1, if_neg (by simp [h2])]
  show List.all _ id = true
  rw [List.all_map, List.all_eq_true]
  intro c hc
  have := low_mem (h.2.2.1 c hc)
  simpa using this
theorem is_name_true {s : List Nat} (h : m_is_name s = true) : 1 ≤ s.length ∧ s.length ≤ 12 ∧ (∀ c ∈ s, Low c) ∧ 97 ≤ ixg s 0 ∧ ixg s 0 ≤ 122 := by
  unfold m_is_name b_is_name at h
  split at h
  · cases h
  · rename_i hc
    have h' : List.all (s.map fun sign_ : Nat => ((decide (sign_ ∈ k_LETTERS)) || (decide (sign_ ∈ k_DIGITS)))) id = true := h
    rw [List.all_map, List.all_eq_true] at h'
    simp only [Bool.or_eq_true, not_or, Bool.not_eq_true, Bool.not_eq_false', Bool.and_eq_true, decide_eq_true_eq] at hc
    refine ⟨by omega, by omega, fun c hm => ?_, let_mem.mp hc.2⟩
    have := h' c hm
    exact mem_low (by simpa using this)
theorem is_field_ok {s : List Nat} {n : Nat} (h : FieldOk n s) (hn : n ≤ 40) : m_is_field s = true := by
  show (decide ((s.length : Int) ≤ 40) && !decide (124 ∈ s)) = true
  have h1 := h.1
  have h2 : 124 ∉ s := fun q => (h.2 124 q).2 rfl
  simp [h2]
  omega
theorem is_field_bad {s : List Nat} (h : 40 < s.length ∨ 124 ∈ s) : m_is_field s = false := by
  show (decide ((s.length : Int) ≤ 40) && !decide (124 ∈ s)) = false
  rcases h with h | h
  · have : ¬ (s.length : Int) ≤ 40 := by omega
    simp [this]
  · simp [h]
/-! ### write_letter -/
theorem wl1 {L R : Type} : ∀ xs : List (List Nat), (forL (st_write_letter_1) () xs : Out (_root_.Fin 7) Unit L (List Nat)) = if xs.all m_is_name = true then .nx () else .er 0
  | [] => rfl
  | x :: xs => by
    rw [forL_cons, List.all_cons]
    unfold st_write_letter_1
    cases h : m_is_name x with
    | true => exact wl1 (R := R) xs
    | false => rfl
theorem wl2 {L R : Type} : ∀ xs : List (List Nat), (forL (st_write_letter_2) () xs : Out (_root_.Fin 7) Unit L (List Nat)) = if xs.all m_is_field = true then .nx () else .er 0
  | [] => rfl
  | x :: xs => by
    rw [forL_cons, List.all_cons]
    unfold st_write_letter_2
    cases h : m_is_field x with
    | true => exact wl2 (R := R) xs
    | false => rfl
def body (l : Letter) : List Nat := joiL [124] (l.1 :: l.2.1 :: l.2.2.1 :: decL l.2.2.2.1 :: l.2.2.2.2) ++ [124]
def Wok (l : Letter) : Bool := m_is_name l.1 && (m_is_name l.2.1 && m_is_name l.2.2.1) && (decide (0 ≤ l.2.2.2.1) && decide (l.2.2.2.1 ≤ 999999)) && decide (l.2.2.2.2.length ≤ 8) && l.2.2.2.2.all m_is_field
theorem write_is (l : Letter) : m_write_letter l = if Wok l = true then .ok (body l ++ m_check_number (body l)) else .error 0 := by
  unfold m_write_letter b_write_letter letV
  dsimp only
  rw [wl1 (R := Unit)]
  unfold Wok
  cases h1 : m_is_name l.1 with
  | false => simp [h1]
  | true =>
    cases h2 : m_is_name l.2.1 with
    | false => simp [h1, h2]
    | true =>
      cases h3 : m_is_name l.2.2.1 with
      | false => simp [h1, h2, h3]
      | true =>
        have e1 : List.all [l.1, l.2.1, l.2.2.1] m_is_name = true := by simp [h1, h2, h3]
        rw [if_pos e1]
        show (if (!(decide (0 ≤ l.2.2.2.1) && decide (l.2.2.2.1 ≤ 999999))) = true then (.er 0 : Out (_root_.Fin 7) Unit Empty (List Nat)) else _).res = _
        cases h4 : (decide (0 ≤ l.2.2.2.1) && decide (l.2.2.2.1 ≤ 999999)) with
        | false => rfl
        | true =>
          rw [if_neg (by decide)]
          by_cases h5 : l.2.2.2.2.length ≤ 8
          · rw [if_neg (by simp; omega), wl2 (R := Unit)]
            have e5 : decide (l.2.2.2.2.length ≤ 8) = true := by simpa using h5
            rw [e5]
            cases h6 : l.2.2.2.2.all m_is_field with
            | false => rfl
            | true => rfl
          · rw [if_pos (by simp; omega)]
            have e5 : decide (l.2.2.2.2.length ≤ 8) = false := by simpa using h5
            rw [e5]
            rfl
/-! ### letters -/
structure Right (l : Letter) : Prop where
  n1 : NameOk l.1
  n2 : NameOk l.2.1
  n3 : NameOk l.2.2.1
  nr : 0 ≤ l.2.2.2.1 ∧ l.2.2.2.1 ≤ 999999
  fl : l.2.2.2.2.length ≤ 8
  fs : ∀ f ∈ l.2.2.2.2, FieldOk 40 f
theorem NameOk.txt {s : List Nat} (h : NameOk s) : Txt 100 s := ⟨by have := h.2.1; omega, fun c hc => (h.2.2.1 c hc).lt⟩
theorem FieldOk.txt {s : List Nat} {n : Nat} (h : FieldOk n s) (hn : n ≤ 100) : Txt 100 s := ⟨Nat.le_trans h.1 hn, fun c hc => (h.2 c hc).1⟩
theorem Right.lok {l : Letter} (h : Right l) : LOk l := ⟨h.n1.txt, h.n2.txt, h.n3.txt, Nat.le_trans h.fl (by decide), fun f hf => (h.fs f hf).txt (by decide)⟩
theorem Right.wok {l : Letter} (h : Right l) : Wok l = true := by
  unfold Wok
  rw [is_name_ok h.n1, is_name_ok h.n2, is_name_ok h.n3]
  have h4 : List.all l.2.2.2.2 m_is_field = true := List.all_eq_true.mpr fun f hf => is_field_ok (h.fs f hf) (by decide)
  have := h.nr
  have := h.fl
  rw [h4]
  simp
  omega
/-! ### wrong names -/
structure Bad (s : List Nat) : Prop where
  tx : Txt 100 s
  no : m_is_name s = false
def odd : List Nat := [32, 33, 34, 35, 36, 38, 39, 40, 41, 42, 43, 44, 45, 46, 47, 58, 59, 60, 61, 62, 63, 64, 65, 66, 67, 68, 69, 70, 71, 72, 73, 74, 75, 76, 77, 78, 79, 80, 81, 82, 83, 84, 85, 86, 87, 88, 89, 90, 91, 92, 93, 94, 95, 96, 123, 124, 125, 126]
theorem odd_ok : ∀ c ∈ odd, c < 128 ∧ ¬ Low c := by decide +kernel
def dgs : List Nat := [48, 49, 50, 51, 52, 53, 54, 55, 56, 57]
theorem dgs_ok : ∀ c ∈ dgs, c < 128 ∧ ¬ (97 ≤ c) := by decide +kernel
theorem not_name {s : List Nat} (h : ¬ (1 ≤ s.length ∧ s.length ≤ 12 ∧ (∀ c ∈ s, Low c) ∧ 97 ≤ ixg s 0 ∧ ixg s 0 ≤ 122)) : m_is_name s = false := by
  cases e : m_is_name s with
  | false => rfl
  | true => exact absurd (is_name_true e) h
def BdQ (m : Out Empty (List Nat × List Int) Empty (List Nat × List Int)) : Prop := m.valM.2.length = 2 ∧ Bad m.valM.1
theorem bad_ok {s : List Int} (hs : s.length = 2) : (m_law_bad_name s).2.length = 2 ∧ Bad (m_law_bad_name s).1 := by
  show BdQ (b_law_bad_name s)
  unfold b_law_bad_name
  refine letV_p fun r1 e1 => letV_p fun nm enm => letV_p fun r2 e2 => letV_p fun w ew => ?_
  obtain ⟨l1, n1⟩ := name_ok hs
  rw [← e1] at l1 n1
  have hn : NameOk nm := by rw [enm]; exact n1
  obtain ⟨l2, a2, b2⟩ := pick_ok (n := 6) l1 (by decide)
  rw [← e2] at l2 a2 b2
  have hlow := hn.2.2.1
  have hl := hn.1
  have hu := hn.2.1
  refine ite_p (fun _ => ?_) fun _ => ite_p (fun _ => ?_) fun _ => ite_p (fun _ => ?_) fun _ => ?_
  · exact ⟨l2, ⟨Nat.zero_le _, fun c hc => nomatch hc⟩, not_name fun h => absurd (show 1 ≤ ([] : List Nat).length from h.1) (by decide)⟩
  · refine ⟨l2, ⟨⟨?_, fun c hc => ?_⟩, not_name fun h => ?_⟩⟩
    · show (nm ++ [97, 98, 99, 100, 101, 102, 103, 104, 105, 106, 107, 108]).length ≤ 100
      rw [List.length_append]
      show _ + 12 ≤ 100
      omega
    · rcases List.mem_append.mp hc with h | h
      · exact (hlow c h).lt
      · have q : ∀ c ∈ [97, 98, 99, 100, 101, 102, 103, 104, 105, 106, 107, 108], c < 128 := by decide +kernel
        exact q c h
    · have h2 : (nm ++ [97, 98, 99, 100, 101, 102, 103, 104, 105, 106, 107, 108]).length ≤ 12 := h.2.1
      rw [List.length_append] at h2
      have h3 : ([97, 98, 99, 100, 101, 102, 103, 104, 105, 106, 107, 108] : List Nat).length = 12 := rfl
      omega
  · refine letV_p fun r3 e3 => ?_
    obtain ⟨l3, a3, b3⟩ := pick_ok (n := 10) l2 (by decide)
    rw [← e3] at l3 a3 b3
    have hd := dgs_ok _ (ixg_mem (xs := dgs) a3 b3)
    refine ⟨l3, ⟨⟨?_, fun c hc => ?_⟩, not_name fun h => ?_⟩⟩
    · show ([ixg dgs r3.1] ++ cutL nm (some 1) none).length ≤ 100
      rw [List.length_append]
      have := cutL_le nm (some 1) none
      show 1 + _ ≤ 100
      omega
    · rcases List.mem_append.mp hc with h | h
      · rw [List.mem_singleton.mp h]
        exact hd.1
      · exact (hlow c (cutL_mem h)).lt
    · have h4 : 97 ≤ ixg ([ixg dgs r3.1] ++ cutL nm (some 1) none) 0 := h.2.2.2.1
      rw [ixg_app0 (xs := [ixg dgs r3.1]) (by exact Nat.zero_lt_one)] at h4
      exact hd.2 h4
  · refine letV_p fun od eod => letV_p fun r3 e3 => letV_p fun at_ eat => letV_p fun r4 e4 => ?_
    obtain ⟨l3, a3, b3⟩ := pick_ok (n := (nm.length : Int)) l2 (by omega)
    rw [← e3] at l3 a3 b3
    have hod : od = odd := eod
    subst hod
    obtain ⟨l4, a4, b4⟩ := pick_ok (n := (odd.length : Int)) l3 (by decide)
    rw [← e4] at l4 a4 b4
    have ho := odd_ok _ (ixg_mem a4 b4)
    refine ⟨l4, ⟨⟨?_, fun c hc => ?_⟩, not_name fun h => ?_⟩⟩
    · show ((cutL nm none (some at_) ++ [ixg odd r4.1]) ++ cutL nm (some (at_ + 1)) none).length ≤ 100
      rw [List.length_append, List.length_append]
      have := cutL_le nm none (some at_)
      have := cutL_le nm (some (at_ + 1)) none
      show _ + 1 + _ ≤ 100
      omega
    · rcases List.mem_append.mp hc with h | h
      · rcases List.mem_append.mp h with h | h
        · exact (hlow c (cutL_mem h)).lt
        · rw [List.mem_singleton.mp h]
          exact ho.1
      · exact (hlow c (cutL_mem h)).lt
    · exact ho.2 (h.2.2.1 _ (List.mem_append_left _ (List.mem_append_right _ List.mem_cons_self)))
/-! ### a wrong part -/
theorem wok_false {l : Letter} (h : (m_is_name l.1 = false ∨ m_is_name l.2.1 = false ∨ m_is_name l.2.2.1 = false) ∨ ¬(0 ≤ l.2.2.2.1 ∧ l.2.2.2.1 ≤ 999999) ∨ 8 < l.2.2.2.2.length ∨ ∃ f ∈ l.2.2.2.2, m_is_field f = false) : Wok l = false := by
  cases e : Wok l with
  | false => rfl
  | true =>
    exfalso
    unfold Wok at e
    simp only [Bool.and_eq_true, decide_eq_true_eq, List.all_eq_true] at e
    obtain ⟨⟨⟨⟨a1, a2, a3⟩, a4⟩, a5⟩, a6⟩ := e
    rcases h with h | h | h | ⟨f, h1, h2⟩
    · rcases h with h | h | h
      · rw [a1] at h; cases h
      · rw [a2] at h; cases h
      · rw [a3] at h; cases h
    · exact h a4
    · omega
    · rw [a6 f h1] at h2; cases h2
/-! ### sizes -/
theorem parts_le {l : Letter} (h : LOk l) (h0 : 0 ≤ l.2.2.2.1) (h1 : l.2.2.2.1 ≤ 999999) : ∀ w ∈ l.1 :: l.2.1 :: l.2.2.1 :: decL l.2.2.2.1 :: l.2.2.2.2, w.length ≤ 100 := by
  intro w hw
  simp only [List.mem_cons] at hw
  rcases hw with rfl | rfl | rfl | rfl | hw
  · exact h.1.1
  · exact h.2.1.1
  · exact h.2.2.1.1
  · exact Nat.le_trans (decL_len h0 (by omega)) (by decide)
  · exact (h.2.2.2.2 w hw).1
theorem body_sum {l : Letter} (h : LOk l) (h0 : 0 ≤ l.2.2.2.1) (h1 : l.2.2.2.1 ≤ 999999) : ((l.1 :: l.2.1 :: l.2.2.1 :: decL l.2.2.2.1 :: l.2.2.2.2).map List.length).sum + (l.1 :: l.2.1 :: l.2.2.1 :: decL l.2.2.2.1 :: l.2.2.2.2).length * [124].length ≤ 16777216 := by
  have q := sum_le (parts_le h h0 h1)
  have q2 := h.2.2.2.1
  simp only [List.length_cons, List.length_nil] at *
  omega
theorem joi_le {ws : List (List Nat)} (h : ∀ w ∈ ws, w.length ≤ 100) (hl : ws.length ≤ 24) : (joiL [124] ws).length ≤ 3000 := by
  have q := joi_len (z := [124]) h
  rw [joiL_is]
  have q3 : ws.length * (100 + [124].length) ≤ 24 * (100 + [124].length) := Nat.mul_le_mul_right _ hl
  have q4 : 24 * (100 + [124].length) = 2424 := rfl
  omega
theorem body_le0 {l : Letter} (h : LOk l) (h0 : 0 ≤ l.2.2.2.1) (h1 : l.2.2.2.1 ≤ 999999) : (joiL [124] (l.1 :: l.2.1 :: l.2.2.1 :: decL l.2.2.2.1 :: l.2.2.2.2)).length ≤ 3000 := joi_le (parts_le h h0 h1) (by have := h.2.2.2.1; simp only [List.length_cons]; omega)
theorem body_le {l : Letter} (h : LOk l) (h0 : 0 ≤ l.2.2.2.1) (h1 : l.2.2.2.1 ≤ 999999) : (joiL [124] (l.1 :: l.2.1 :: l.2.2.1 :: decL l.2.2.2.1 :: l.2.2.2.2) ++ [124]).length ≤ 3001 := by
  rw [List.length_append]
  have := body_le0 h h0 h1
  show _ + 1 ≤ 3001
  omega
theorem names_le {l : Letter} (h : LOk l) {x : List Nat} (hx : x ∈ [(l.1, l.2.1, l.2.2.1).1, (l.1, l.2.1, l.2.2.1).2.1, (l.1, l.2.1, l.2.2.1).2.2]) : x.length ≤ 100 := by
  simp only [List.mem_cons, List.not_mem_nil, or_false] at hx
  rcases hx with rfl | rfl | rfl
  · exact h.1.1
  · exact h.2.1.1
  · exact h.2.2.1.1
theorem digits_le {n : Int} : (decL (n % 9973)).length ≤ 13 := decL_len (Int.emod_nonneg _ (by decide)) (Int.lt_trans (Int.emod_lt_of_pos _ (by decide)) (by decide))
theorem rep_le {d : List Nat} : (repS [48] (4 - (d.length : Int))).length ≤ 4 := by
  rw [repS_len]
  show _ * 1 ≤ 4
  omega
theorem wparts_le {k s r d : List Nat} {fs : List (List Nat)} (h : WOk k s r d fs) : ∀ w ∈ [k, s, r, d] ++ fs, w.length ≤ 100 := by
  intro w hw
  rcases List.mem_append.mp hw with hw | hw
  · simp only [List.mem_cons, List.not_mem_nil, or_false] at hw
    rcases hw with rfl | rfl | rfl | rfl
    · exact h.1
    · exact h.2.1
    · exact h.2.2.1
    · exact h.2.2.2.1
  · exact h.2.2.2.2.2 w hw
theorem wlen {k s r d : List Nat} {fs : List (List Nat)} (h : WOk k s r d fs) : ([k, s, r, d] ++ fs).length ≤ 24 := by
  rw [List.length_append]
  have := h.2.2.2.2.1
  show 4 + _ ≤ 24
  omega
theorem wbody_sum {k s r d : List Nat} {fs : List (List Nat)} (h : WOk k s r d fs) : (([k, s, r, d] ++ fs).map List.length).sum + ([k, s, r, d] ++ fs).length * [124].length ≤ 16777216 := by
  have q := sum_le (wparts_le h)
  have q2 := wlen h
  have q3 : [124].length = 1 := rfl
  rw [q3]
  omega
theorem wbody_le0 {k s r d : List Nat} {fs : List (List Nat)} (h : WOk k s r d fs) : (joiL [124] ([k, s, r, d] ++ fs)).length ≤ 3000 := joi_le (wparts_le h) (wlen h)
theorem wbody_le {k s r d : List Nat} {fs : List (List Nat)} (h : WOk k s r d fs) : (joiL [124] ([k, s, r, d] ++ fs) ++ [124]).length ≤ 3001 := by
  rw [List.length_append]
  have := wbody_le0 h
  show _ + 1 ≤ 3001
  omega
theorem Right.written {l : Letter} (h : Right l) : WOk l.1 l.2.1 l.2.2.1 (decL l.2.2.2.1) l.2.2.2.2 := ⟨h.n1.txt.1, h.n2.txt.1, h.n3.txt.1, Nat.le_trans (decL_len h.nr.1 (by have := h.nr.2; omega)) (by decide), Nat.le_trans h.fl (by decide), fun f hf => Nat.le_trans (h.fs f hf).1 (by decide)⟩
theorem sure_ok {l : Letter} (h : Wok l = true) : m_write_letter l = .ok (okV (m_write_letter l)) := by
  rw [write_is, if_pos h]
  rfl
/-! ### the check number -/
theorem sum_state {L R : Type} : ∀ (xs : List (Int × Nat)) (t : Int), ∃ t', (forL (st_check_number_1) t xs : Out Empty Int L (List Nat)) = .nx t' ∧ t' = t + (xs.map fun x => (x.1 + 1) * (x.2 : Int)).sum
  | [], t => ⟨t, rfl, by simp⟩
  | x :: xs, t => by
    obtain ⟨t', e, h⟩ := sum_state (L := L) (R := R) xs (t + ((x.1 + 1) * (x.2 : Int)))
    refine ⟨t', ?_, ?_⟩
    · rw [forL_cons]
      exact e
    · rw [h, List.map_cons, List.sum_cons]
      omega
theorem check_is (b : List Nat) : m_check_number b = zfL (decL (((enumL b).map fun x => (x.1 + 1) * (x.2 : Int)).sum % 9973)) 4 := by
  obtain ⟨t, e, h⟩ := sum_state (L := Empty) (R := List Nat) (enumL b) 0
  unfold m_check_number b_check_number
  show (Out.bind (forL (st_check_number_1) 0 (enumL b)) fun z5 => .rt (zfL (decL (z5 % 9973)) 4)).val = _
  rw [e, h, Int.zero_add]
  rfl
theorem zf4 {n : Int} (h0 : 0 ≤ n) : zfL (decL n) 4 = repS [48] (4 - ((decL n).length : Int)) ++ decL n := by
  unfold decL
  rw [zf_is]
  congr 1
  unfold repS
  have e : (4 - ((TL.numL n.toNat).length : Int)).toNat = (4 : Int).toNat - (TL.numL n.toNat).length := by
    show _ = 4 - _
    omega
  rw [e]
  generalize (4 : Int).toNat - (TL.numL n.toNat).length = k
  induction k with
  | zero => rfl
  | succ k ih => rw [List.replicate_succ, List.replicate_succ, List.flatten_cons, ← ih]; rfl
theorem check_le (b : List Nat) : (m_check_number b).length ≤ 17 := by
  rw [check_is, zf4 (Int.emod_nonneg _ (by decide)), List.length_append]
  have := digits_le (n := ((enumL b).map fun x => (x.1 + 1) * (x.2 : Int)).sum)
  have := rep_le (d := decL (((enumL b).map fun x => (x.1 + 1) * (x.2 : Int)).sum % 9973))
  omega
theorem sum_state2 {L R : Type} (b : List Nat) : ∀ (xs : List Int) (t : Int), ∃ t', (forL (st_law_check_1 b) t xs : Out Empty Int L (List Nat)) = .nx t' ∧ t' = t + (xs.map fun x => (x + 1) * ((ixg b x : Nat) : Int)).sum
  | [], t => ⟨t, rfl, by simp⟩
  | x :: xs, t => by
    obtain ⟨t', e, h⟩ := sum_state2 (L := L) (R := R) b xs (t + ((x + 1) * ((ixg b x : Nat) : Int)))
    refine ⟨t', ?_, ?_⟩
    · rw [forL_cons]
      exact e
    · rw [h, List.map_cons, List.sum_cons]
      omega
theorem sums_eq (b : List Nat) : ((rng 0 (b.length : Int)).map fun x => (x + 1) * ((ixg b x : Nat) : Int)) = (enumL b).map fun x => (x.1 + 1) * (x.2 : Int) := by
  refine List.ext_getElem? fun i => ?_
  rw [List.getElem?_map, List.getElem?_map]
  by_cases hi : i < b.length
  · have h1 : (rng 0 (b.length : Int))[i]? = some (0 + (i : Int)) := rng_get (by omega)
    have h2 : (enumL b)[i]? = some ((i : Int), b[i]) := enumL_get (by simp [hi])
    have h3 : ixg b (i : Int) = b[i] := by
      rw [ixg_nat (by omega) (by omega)]
      simp [hi]
    rw [h1, h2, Option.map_some, Option.map_some, Int.zero_add]
    simp only [h3]
  · have h1 : (rng 0 (b.length : Int))[i]? = none := List.getElem?_eq_none (by rw [rng_length]; omega)
    have h2 : (enumL b)[i]? = none := List.getElem?_eq_none (by rw [enumL_length]; omega)
    rw [h1, h2]
    rfl
theorem lcheck_is (b : List Nat) : m_law_check b = m_check_number b := by
  obtain ⟨t, e, h⟩ := sum_state2 (L := Empty) (R := List Nat) b (rng 0 (b.length : Int)) 0
  rw [check_is, zf4 (Int.emod_nonneg _ (by decide)), ← sums_eq]
  unfold m_law_check b_law_check letV
  dsimp only
  rw [e, h, Int.zero_add]
  rfl
theorem lcheck_le (b : List Nat) : (m_law_check b).length ≤ 17 := by
  rw [lcheck_is]
  exact check_le b
def parts (l : Letter) : List (List Nat) := l.1 :: l.2.1 :: l.2.2.1 :: decL l.2.2.2.1 :: l.2.2.2.2
def bd (l : Letter) : List Nat := joi [124] (parts l) ++ [124]
def txt (l : Letter) : List Nat := bd l ++ m_check_number (bd l)
theorem written_is (l : Letter) : m_law_written l.1 l.2.1 l.2.2.1 (decL l.2.2.2.1) l.2.2.2.2 = txt l := by
  unfold m_law_written b_law_written letV
  show (joiL [124] (parts l) ++ [124]) ++ m_law_check (joiL [124] (parts l) ++ [124]) = _
  rw [lcheck_is, joiL_is]
  rfl
theorem check4 (b : List Nat) : (m_check_number b).length = 4 ∧ PySem.NumText.AllDigits (m_check_number b) ∧ PySem.NumText.digitsVal (m_check_number b) = (((enumL b).map fun x => (x.1 + 1) * (x.2 : Int)).sum % 9973).toNat := by
  rw [check_is]
  have h0 : 0 ≤ ((enumL b).map fun x => (x.1 + 1) * (x.2 : Int)).sum % 9973 := Int.emod_nonneg _ (by decide)
  have h1 : ((enumL b).map fun x => (x.1 + 1) * (x.2 : Int)).sum % 9973 < 9973 := Int.emod_lt_of_pos _ (by decide)
  generalize ((enumL b).map fun x => (x.1 + 1) * (x.2 : Int)).sum % 9973 = n at *
  unfold decL
  rw [zf_is]
  have e := pad_small 4 n.toNat (by show n.toNat < 10000; omega)
  rw [show ((4 : Int).toNat) = 4 from rfl, e, if_neg (by decide)]
  refine ⟨pad_len _ _, pad_dig _ _, ?_⟩
  have q := pad_val [] 4 n.toNat (by show n.toNat < 10000; omega)
  rw [List.nil_append] at q
  rw [q]
  simp [PySem.NumText.digitsVal]
theorem parts_lt {l : Letter} (h : Right l) : ∀ w ∈ parts l, ∀ c ∈ w, c < 128 := by
  intro w hw c hc
  simp only [parts, List.mem_cons] at hw
  rcases hw with rfl | rfl | rfl | rfl | hw
  · exact (h.n1.2.2.1 c hc).lt
  · exact (h.n2.2.2.1 c hc).lt
  · exact (h.n3.2.2.1 c hc).lt
  · exact dig_asc (decL_dig _) c hc
  · exact ((h.fs w hw).2 c hc).1
theorem bd_lt {l : Letter} (h : Right l) : ∀ c ∈ bd l, c < 128 := fun c hc => by
  rcases List.mem_append.mp hc with h1 | h1
  · exact joi_all (P := fun c => c < 128) (by decide) (parts_lt h) c h1
  · rw [List.mem_singleton.mp h1]
    decide
theorem bd_len {l : Letter} (h : Right l) : 1 ≤ (bd l).length ∧ (bd l).length ≤ 3001 := by
  unfold bd
  have q := body_le0 h.lok h.nr.1 h.nr.2
  rw [joiL_is] at q
  rw [List.length_append]
  have q' : (joi [124] (parts l)).length ≤ 3000 := q
  constructor
  · exact Nat.le_add_left _ _
  · show _ + 1 ≤ 3001
    omega
theorem errs_ok (k : _root_.Fin 7) : ∀ x ∈ m_law_errors k, ∀ c ∈ x, c < 1114112 := by
  match k with | 0 | 1 | 2 | 3 | 4 | 5 | 6 => decide +kernel
theorem txt_ok {l : Letter} (h : Right l) : 5 ≤ (txt l).length ∧ (txt l).length ≤ 3005 ∧ ∀ c ∈ txt l, c < 128 := by
  have := bd_len h
  have hck := check4 (bd l)
  unfold txt
  rw [List.length_append, hck.1]
  refine ⟨by omega, by omega, fun c hc => ?_⟩
  rcases List.mem_append.mp hc with h1 | h1
  · exact bd_lt h c h1
  · exact dig_asc hck.2.1 c h1
theorem ix5_all {α : Type} [Inhabited α] {P : α → Prop} {a b c d e : α} (ha : P a) (hb : P b) (hc : P c) (hd : P d) (he : P e) {i : Int} (h0 : 0 ≤ i) (h1 : i < 5) : P (ixg [a, b, c, d, e] i) := by
  have h : ixg [a, b, c, d, e] i ∈ [a, b, c, d, e] := ixg_mem h0 (by simpa using h1)
  simp only [List.mem_cons, List.not_mem_nil, or_false] at h
  rcases h with h | h | h | h | h <;> rw [h] <;> assumption
theorem name_a : NameOk [97] := ⟨by decide, by decide, fun c hc => by rw [List.mem_singleton.mp hc]; exact .inl (by decide), by decide, by decide⟩
theorem name_b : NameOk [98] := ⟨by decide, by decide, fun c hc => by rw [List.mem_singleton.mp hc]; exact .inl (by decide), by decide, by decide⟩
theorem nameb {s : List Nat} (h : (decide (1 ≤ s.length ∧ s.length ≤ 12) && s.all (fun c => decide ((97 ≤ c ∧ c ≤ 122) ∨ (48 ≤ c ∧ c ≤ 57))) && decide (97 ≤ ixg s 0 ∧ ixg s 0 ≤ 122)) = true) : NameOk s := by
  simp only [Bool.and_eq_true, decide_eq_true_eq, List.all_eq_true] at h
  exact ⟨h.1.1.1, h.1.1.2, h.1.2, h.2.1, h.2.2⟩
theorem spare_ok (me : List Nat) : 0 < (([[97], [98]].filter (fun s : List Nat => !decide (s = me))).map (fun s : List Nat => s)).length ∧ NameOk (ixg (([[97], [98]].filter (fun s : List Nat => !decide (s = me))).map (fun s : List Nat => s)) 0) := by
  by_cases h : ([97] : List Nat) = me
  · subst h
    exact ⟨by decide, name_b⟩
  · have e : ([[97], [98]].filter (fun s : List Nat => !decide (s = me))) = [97] :: ([[98]].filter (fun s : List Nat => !decide (s = me))) := by
      rw [List.filter_cons_of_pos (by simpa using h)]
    rw [e]
    refine ⟨Nat.succ_pos _, ?_⟩
    rw [List.map_cons, ixg_nat (by decide) (by rw [List.length_cons]; omega)]
    exact name_a
theorem name_pay : NameOk [112, 97, 121] := nameb (by decide +kernel)
theorem name_ack : NameOk k_ACK := nameb (by decide +kernel)
def TnQ (m : Out Empty (List (List Nat) × List Int) Empty (List (List Nat) × List Int)) : Prop := m.valM.2.length = 2 ∧ m.valM.1.length = 2 ∧ NameOk (ixg m.valM.1 0) ∧ NameOk (ixg m.valM.1 1)
theorem two_ok {s : List Int} (hs : s.length = 2) : (m_law_two_names s).2.length = 2 ∧ (m_law_two_names s).1.length = 2 ∧ NameOk (ixg (m_law_two_names s).1 0) ∧ NameOk (ixg (m_law_two_names s).1 1) := by
  show TnQ (b_law_two_names s)
  unfold b_law_two_names
  refine letV_p fun r1 e1 => letV_p fun me eme => letV_p fun r2 e2 => letV_p fun ot eot => ?_
  obtain ⟨l1, n1⟩ := name_ok hs
  rw [← e1] at l1 n1
  obtain ⟨l2, n2⟩ := name_ok l1
  rw [← e2] at l2 n2
  rw [← eme] at n1
  rw [← eot] at n2
  refine bind_p (fun z => NameOk z) ?_ fun z hz => ⟨l2, rfl, n1, hz⟩
  split
  · exact ⟨_, rfl, (spare_ok me).2⟩
  · exact ⟨_, rfl, n2⟩
end Ck28
namespace Ck28
open PySem L2 PyProof.Rows J
def KdQ (m : Out Empty (List Nat × List Int) Empty (List Nat × List Int)) : Prop := m.valM.2.length = 2 ∧ NameOk m.valM.1 ∧ m.valM.1 ≠ [97, 99, 107]
theorem kind_ok {s : List Int} (hs : s.length = 2) : (m_law_kind s).2.length = 2 ∧ NameOk (m_law_kind s).1 ∧ (m_law_kind s).1 ≠ [97, 99, 107] := by
  show KdQ (b_law_kind s)
  unfold b_law_kind
  refine letV_p fun r1 e1 => letV_p fun r2 e2 => letV_p fun k ek => ?_
  obtain ⟨l1, n1⟩ := name_ok hs
  rw [← e1] at l1 n1
  obtain ⟨l2, a2, b2⟩ := pick_ok (n := 5) l1 (by decide)
  rw [← e2] at l2 a2 b2
  have hk : NameOk k := by
    rw [ek]
    exact ix5_all (P := NameOk) (nameb (by decide +kernel)) (nameb (by decide +kernel)) (nameb (by decide +kernel)) name_a n1 a2 b2
  refine ite_p (fun _ => ⟨l2, name_pay, (by decide : ([112, 97, 121] : List Nat) ≠ [97, 99, 107])⟩) (fun h => ⟨l2, hk, fun q => h (decide_eq_true q)⟩)
theorem map_fields {z : List Int} {xs : List Int} (h : z.length = 2) : (mapS (lc_law_dispatched_1) z xs).2.length = 2 ∧ ∀ w ∈ (mapS (lc_law_dispatched_1) z xs).1, FieldOk 40 w :=
  mapS_inv (f := lc_law_dispatched_1) (fun z : List Int => z.length = 2) (fun w : List Nat => FieldOk 40 w) (fun s x _ hs => text_ok hs (by decide) (by decide)) h
/-! ### dispatching -/
theorem disp_is (e : Mo_Sender) (k : List Nat) (fs : List (List Nat)) : m_Sender_dispatch e k fs = if k = k_ACK then .error (0, e) else match m_write_letter (k, e.1, e.2.1, e.2.2.1 + 1, fs) with
    | .error c => .error (c, e)
    | .ok t => .ok (t, (e.1, e.2.1, e.2.2.1 + 1, e.2.2.2.1, e.2.2.2.2 ++ [t])) := by
  unfold m_Sender_dispatch b_Sender_dispatch letV
  by_cases h : k = k_ACK
  · rw [if_pos (decide_eq_true h), if_pos h]
    rfl
  · rw [if_neg (fun q => h (of_decide_eq_true q)), if_neg h]
    cases m_write_letter (k, e.1, e.2.1, e.2.2.1 + 1, fs) <;> rfl
theorem write_txt {l : Letter} (h : Right l) : m_write_letter l = .ok (m_law_written l.1 l.2.1 l.2.2.1 (decL l.2.2.2.1) l.2.2.2.2) := by
  rw [write_is, if_pos h.wok, written_is]
  unfold txt bd body parts
  rw [joiL_is]
theorem disp_right {e : Mo_Sender} {me ot : List Nat} {sent : List (List Nat)} {d : Int} {k : List Nat} {fs : List (List Nat)} (h : Snd e me ot sent d) (hk : NameOk k) (hne : k ≠ [97, 99, 107]) (hl : fs.length ≤ 8) (hf : ∀ f ∈ fs, FieldOk 40 f) (hs : sent.length + 1 ≤ 2000) :
    ∃ e', m_Sender_dispatch e k fs = .ok (m_law_written k me ot (decL ((sent.length : Int) + 1)) fs, e') ∧ Snd e' me ot (sent ++ [m_law_written k me ot (decL ((sent.length : Int) + 1)) fs]) d := by
  obtain ⟨rfl, n1, n2, d0, d1, _, hw⟩ := h
  have hR : Right (k, me, ot, (sent.length : Int) + 1, fs) := ⟨hk, n1, n2, ⟨by dsimp only; omega, by dsimp only; omega⟩, hl, hf⟩
  have e1 := write_txt hR
  have hT := txt_ok hR
  have e2 := written_is (k, me, ot, (sent.length : Int) + 1, fs)
  dsimp only at e1 e2
  rw [← e2] at hT
  rw [disp_is, if_neg (show ¬ k = k_ACK from hne)]
  dsimp only
  rw [e1]
  refine ⟨_, rfl, ?_, n1, n2, d0, ?_, ?_, ?_⟩
  · rw [List.length_append, List.drop_append_of_le_length (by omega)]
    rfl
  · rw [List.length_append, List.length_singleton]
    omega
  · rw [List.length_append, List.length_singleton]
    omega
  · intro w hm
    rcases List.mem_append.mp hm with hm | hm
    · exact hw w hm
    · rw [List.mem_singleton.mp hm]
      exact ⟨hT.2.1, hT.2.2⟩
theorem disp_turn {ends : List (List Nat)} {z : Mo_Sender × List (List Nat) × List Int} {x d : Int} (h : Snd z.1 (ixg ends 0) (ixg ends 1) z.2.1 d) (hl : z.2.1.length + 1 ≤ 2000) (hs : z.2.2.length = 2) :
    ∃ z', st_law_dispatched_1 ends z x = .nx z' ∧ Snd z'.1 (ixg ends 0) (ixg ends 1) z'.2.1 d ∧ z'.2.1.length = z.2.1.length + 1 ∧ z'.2.2.length = 2 := by
  show NxI (fun z' : Mo_Sender × List (List Nat) × List Int => Snd z'.1 (ixg ends 0) (ixg ends 1) z'.2.1 d ∧ z'.2.1.length = z.2.1.length + 1 ∧ z'.2.2.length = 2) (st_law_dispatched_1 ends z x)
  unfold st_law_dispatched_1
  refine letV_p fun r1 e1 => letV_p fun k ek => letV_p fun r2 e2 => letV_p fun r3 e3 => letV_p fun fs efs => letV_p fun ps eps => letV_p fun r4 e4 => letV_p fun t et => letV_p fun st est => ?_
  obtain ⟨l1, n1, k1⟩ := kind_ok hs
  rw [← e1] at l1 n1 k1
  rw [← ek] at n1 k1
  obtain ⟨l2, a2, b2⟩ := pick_ok (n := 9) l1 (by decide)
  rw [← e2] at l2 a2 b2
  obtain ⟨l3, f3⟩ := map_fields (xs := rng 0 r2.1) l2
  rw [← e3] at l3 f3
  rw [← efs] at f3
  have hfl : fs.length ≤ 8 := by
    rw [efs, e3, mapS_length, rng_length]
    omega
  obtain ⟨e', q1, q2⟩ := disp_right h n1 k1 hfl f3 hl
  rw [eps, q1] at e4
  have e4' : r4 = (m_law_written k (ixg ends 0) (ixg ends 1) (decL ((z.2.1.length : Int) + 1)) fs, e') := e4
  have ht : t = ixg st (-1) := by
    rw [et, e4', est, ixg_last]
  refine ite_p (fun q => ?_) (fun _ => ⟨_, rfl, ?_, ?_, l3⟩)
  · rw [ht, eps] at q
    simp at q
  · rw [e4', est]
    exact q2
  · show st.length = _
    rw [est, List.length_append]
    rfl
theorem dispatched_ok {e : Mo_Sender} {ends sent : List (List Nat)} {s : List Int} {k d : Int} (h : Snd e (ixg ends 0) (ixg ends 1) sent d) (hs : s.length = 2) (h0 : 0 ≤ k) (hl : sent.length + k.toNat ≤ 2000) :
    (m_law_dispatched e ends sent s k).1 = true ∧ Snd (m_law_dispatched e ends sent s k).2.1 (ixg ends 0) (ixg ends 1) (m_law_dispatched e ends sent s k).2.2.1 d ∧ (m_law_dispatched e ends sent s k).2.2.1.length = sent.length + k.toNat ∧ (m_law_dispatched e ends sent s k).2.2.2.length = 2 := by
  obtain ⟨z, e1, h1⟩ := forL_invN k.toNat (ε := Empty) (L := Empty) (R := Bool × Mo_Sender × List (List Nat) × List Int) (f := st_law_dispatched_1 ends) (fun n z => Snd z.1 (ixg ends 0) (ixg ends 1) z.2.1 d ∧ z.2.1.length = sent.length + n ∧ z.2.2.length = 2) (xs := rng 0 k) (s := (e, sent, s)) (n := 0)
    (by rw [rng_length]; omega) ⟨h, rfl, hs⟩ fun n z x _ hn ⟨g1, g2, g3⟩ => by
      obtain ⟨z', q1, q2, q3, q4⟩ := disp_turn (x := x) g1 (by omega) g3
      exact ⟨z', q1, q2, by omega, q4⟩
  have em : m_law_dispatched e ends sent s k = (true, z.1, z.2.1, z.2.2) := by
    unfold m_law_dispatched b_law_dispatched
    rw [e1]
    rfl
  rw [em]
  rw [rng_length] at h1
  exact ⟨rfl, h1.1, by have := h1.2.1; dsimp only; omega, h1.2.2⟩
/-! ### a wrong letter -/
theorem err0 : m_law_errors 0 = [[66, 97, 100, 86, 97, 108, 117, 101]] := by decide +kernel
theorem err3 : m_law_errors 3 = [[82, 101, 102, 117, 115, 101, 100]] := by decide +kernel
theorem disp_bad {e : Mo_Sender} {k : List Nat} {fs : List (List Nat)} (h : k = k_ACK ∨ m_is_name k = false ∨ 8 < fs.length ∨ ∃ f ∈ fs, 124 ∈ f) : m_Sender_dispatch e k fs = .error (0, e) := by
  rw [disp_is]
  by_cases hk : k = k_ACK
  · rw [if_pos hk]
  · rw [if_neg hk]
    have hw : Wok (k, e.1, e.2.1, e.2.2.1 + 1, fs) = false := by
      unfold Wok
      rcases h with h | h | h | ⟨f, hf, hc⟩
      · exact absurd h hk
      · rw [h]; rfl
      · have : decide (fs.length ≤ 8) = false := by simp; omega
        dsimp only
        rw [this, Bool.and_false, Bool.false_and]
      · have : fs.all m_is_field = false := by
          rw [List.all_eq_false]
          exact ⟨f, hf, by rw [is_field_bad (.inr hc)]; exact Bool.false_ne_true⟩
        dsimp only
        rw [this, Bool.and_false]
    rw [write_is, if_neg (by rw [hw]; exact Bool.false_ne_true)]
def WqQ (e : Mo_Sender) (m : Out Empty (Bool × Mo_Sender × List Int) Empty (Bool × Mo_Sender × List Int)) : Prop := m.valM.1 = true ∧ m.valM.2.1 = e ∧ m.valM.2.2.length = 2
theorem wrong_ok {e : Mo_Sender} {s : List Int} (hs : s.length = 2) : (m_law_wrong e s).1 = true ∧ (m_law_wrong e s).2.1 = e ∧ (m_law_wrong e s).2.2.length = 2 := by
  show WqQ e (b_law_wrong e s)
  unfold b_law_wrong
  refine letV_p fun r1 e1 => letV_p fun w ew => letV_p fun k ek => letV_p fun r2 e2 => letV_p fun fs efs => ?_
  obtain ⟨l1, a1, b1⟩ := pick_ok (n := 4) hs (by decide)
  rw [← e1] at l1 a1 b1
  rw [← ew] at a1 b1
  obtain ⟨l2, t2⟩ := text_ok (m := 9) l1 (by decide) (by decide)
  rw [← e2] at l2 t2
  refine bind_p (fun z : List Nat × List Int => z.2.length = 2 ∧ (w = 0 → m_is_name z.1 = false)) ?_ fun z1 h1 => ?_
  · refine ite_p (fun h => ?_) (fun h => ⟨_, rfl, l2, fun q => absurd (decide_eq_true q) h⟩)
    obtain ⟨l3, b3⟩ := bad_ok l2
    exact ⟨_, rfl, l3, fun _ => b3.no⟩
  refine bind_p (fun z : List Nat => (w = 0 → m_is_name z = false) ∧ (w = 1 → z = k_ACK)) ?_ fun z2 h2 => ?_
  · refine ite_p (fun h => ⟨_, rfl, fun q => ?_, fun _ => rfl⟩) (fun h => ⟨_, rfl, h1.2, fun q => absurd (decide_eq_true q) h⟩)
    have := of_decide_eq_true h
    omega
  refine bind_p (fun z : List (List Nat) × List Int => z.2.length = 2 ∧ (w = 2 → 8 < z.1.length)) ?_ fun z3 h3 => ?_
  · refine ite_p (fun h => ?_) (fun h => ⟨_, rfl, h1.1, fun q => absurd (decide_eq_true q) h⟩)
    obtain ⟨l4, a4, b4⟩ := pick_ok (n := 3) h1.1 (by decide)
    refine ⟨_, rfl, l4, fun _ => ?_⟩
    show 8 < ((List.replicate _ fs).flatten).length
    rw [efs, List.length_flatten, List.map_replicate, List.sum_replicate_nat]
    show 8 < _ * 1
    omega
  refine bind_p (fun z : List (List Nat) × List Int => z.2.length = 2 ∧ (w = 2 → 8 < z.1.length) ∧ (w = 3 → ∃ f ∈ z.1, 124 ∈ f)) ?_ fun z4 h4 => ?_
  · refine ite_p (fun h => ?_) (fun h => ⟨_, rfl, h3.1, h3.2, fun q => absurd (decide_eq_true q) h⟩)
    obtain ⟨l5, t5⟩ := text_ok (m := 9) h3.1 (by decide) (by decide)
    have := of_decide_eq_true h
    refine ⟨_, rfl, l5, fun q => by omega, fun _ => ⟨_, List.mem_append_right _ List.mem_cons_self, List.mem_append_right _ List.mem_cons_self⟩⟩
  have hb : m_Sender_dispatch e z2 z4.1 = .error (0, e) := by
    refine disp_bad ?_
    have : w = 0 ∨ w = 1 ∨ w = 2 ∨ w = 3 := by omega
    rcases this with q | q | q | q
    · exact .inr (.inl (h2.1 q))
    · exact .inl (h2.2 q)
    · exact .inr (.inr (.inl (h4.2.1 q)))
    · exact .inr (.inr (.inr (h4.2.2 q)))
  rw [hb]
  refine ⟨?_, rfl, h4.1⟩
  show decide (m_law_errors 0 = [[66, 97, 100, 86, 97, 108, 117, 101]]) = true
  rw [err0]
  simp
/-! ### acknowledging -/
theorem ack_is (e : Mo_Sender) (n : Int) : m_Sender_acknowledge e n = if e.2.2.1 < n then .error (3, e) else .ok ((), if e.2.2.2.1 < n then (e.1, e.2.1, e.2.2.1, n, cutL e.2.2.2.2 (some (n - e.2.2.2.1)) none) else e) := by
  unfold m_Sender_acknowledge b_Sender_acknowledge letV
  by_cases h : e.2.2.1 < n
  · rw [if_pos (decide_eq_true h), if_pos h]
    rfl
  · rw [if_neg (fun q => h (of_decide_eq_true q)), if_neg h]
    by_cases h2 : e.2.2.2.1 < n
    · rw [if_pos (decide_eq_true h2), if_pos h2]
      rfl
    · rw [if_neg (fun q => h2 (of_decide_eq_true q)), if_neg h2]
      rfl
theorem ack_ok {e : Mo_Sender} {me ot : List Nat} {sent : List (List Nat)} {d n : Int} (h : Snd e me ot sent d) (hn : n ≤ (sent.length : Int)) : ∃ e', m_Sender_acknowledge e n = .ok ((), e') ∧ Snd e' me ot sent (if n > d then n else d) := by
  obtain ⟨rfl, n1, n2, d0, d1, hl, hw⟩ := h
  rw [ack_is, if_neg (by dsimp only; omega)]
  by_cases h2 : d < n
  · rw [if_pos h2, if_pos (show n > d from h2)]
    refine ⟨_, rfl, ?_, n1, n2, by omega, hn, hl, hw⟩
    rw [cutL_from _ (by dsimp only; omega), List.drop_drop]
    have : d.toNat + (n - d).toNat = n.toNat := by omega
    rw [this]
  · rw [if_neg h2, if_neg (show ¬ n > d from h2)]
    exact ⟨_, rfl, rfl, n1, n2, d0, d1, hl, hw⟩
def AkQ (me ot : List Nat) (sent : List (List Nat)) (m : Out Empty (Int × Mo_Sender × List Int) Empty (Int × Mo_Sender × List Int)) : Prop := Snd m.valM.2.1 me ot sent m.valM.1 ∧ m.valM.2.2.length = 2
theorem acked_ok {e : Mo_Sender} {me ot : List Nat} {sent : List (List Nat)} {d : Int} {s : List Int} (h : Snd e me ot sent d) (hs : s.length = 2) : Snd (m_law_acknowledged e sent d s).2.1 me ot sent (m_law_acknowledged e sent d s).1 ∧ (m_law_acknowledged e sent d s).2.2.length = 2 := by
  show AkQ me ot sent (b_law_acknowledged e sent d s)
  have h' := h
  obtain ⟨he, n1, n2, d0, d1, hl, hw⟩ := h'
  unfold b_law_acknowledged
  refine letV_p fun r1 e1 => letV_p fun nr enr => letV_p fun r2 e2 => letV_p fun lt elt => letV_p fun r3 e3 => letV_p fun r4 e4 => letV_p fun r5 e5 => letV_p fun n en => ?_
  obtain ⟨l1, a1, b1⟩ := pick_ok (n := ((sent.length : Int) - d) + 1) hs (by omega)
  rw [← e1] at l1 a1 b1
  obtain ⟨l2, a2, b2⟩ := pick_ok (n := 3) l1 (by decide)
  rw [← e2] at l2 a2 b2
  obtain ⟨l3, a3, b3⟩ := pick_ok (n := d + 1) l2 (by omega)
  rw [← e3] at l3 a3 b3
  obtain ⟨l4, a4, b4⟩ := pick_ok (n := 4) l3 (by decide)
  rw [← e4] at l4 a4 b4
  obtain ⟨l5, a5, b5⟩ := pick_ok (n := 5) l4 (by decide)
  rw [← e5] at l5 a5 b5
  by_cases hn : n ≤ (sent.length : Int)
  · obtain ⟨e', q1, q2⟩ := ack_ok h hn
    rw [q1]
    refine ite_p (fun q => ?_) (fun _ => ⟨q2, l5⟩)
    have := of_decide_eq_true q
    omega
  · have q1 : m_Sender_acknowledge e n = .error (3, e) := by
      rw [ack_is, if_pos (by rw [he]; dsimp only; omega)]
    rw [q1]
    have hq : ((decide ((sent.length : Int) < n)) && (decide (m_law_errors 3 = [[82, 101, 102, 117, 115, 101, 100]]))) = true := by
      rw [err3]
      simp
      omega
    show AkQ me ot sent (Out.bind (if _ then _ else _) _)
    rw [if_pos hq]
    exact ⟨h, l5⟩
/-! ### what it tells -/
theorem num_ok (n : Int) : m_law_is_number n n = true := by
  show (true && ((!false) && decide (n = n))) = true
  simp
theorem agrees_ok {e : Mo_Sender} {me ot : List Nat} {sent : List (List Nat)} {d : Int} (h : Snd e me ot sent d) : m_law_agrees e sent d = true := by
  obtain ⟨rfl, n1, n2, d0, d1, hl, hw⟩ := h
  unfold m_law_agrees b_law_agrees letV
  dsimp only
  have e1 : m_Sender_waiting (me, ot, (sent.length : Int), d, sent.drop d.toNat) = cutL sent (some d) none := by
    rw [cutL_from _ d0]
    rfl
  rw [if_neg (by rw [e1]; simp)]
  show (m_law_is_number (sent.length : Int) (sent.length : Int) && m_law_is_number d d) = true
  rw [num_ok, num_ok]
  rfl
theorem Snd.txts {e : Mo_Sender} {me ot : List Nat} {sent : List (List Nat)} {d : Int} (h : Snd e me ot sent d) : (∀ w ∈ e.2.2.2.2, ∀ c ∈ w, c < 128) ∧ ∀ w ∈ sent, ∀ c ∈ w, c < 128 := by
  obtain ⟨rfl, n1, n2, d0, d1, hl, hw⟩ := h
  exact ⟨fun w hm => (hw w (List.mem_of_mem_drop hm)).2, fun w hm => (hw w hm).2⟩
theorem Snd.names {e : Mo_Sender} {me ot : List Nat} {sent : List (List Nat)} {d : Int} (h : Snd e me ot sent d) : Txt 100 e.1 ∧ Txt 100 e.2.1 ∧ e.2.2.2.2.length ≤ 2000 := by
  obtain ⟨rfl, n1, n2, d0, d1, hl, hw⟩ := h
  refine ⟨n1.txt, n2.txt, ?_⟩
  show (sent.drop _).length ≤ 2000
  rw [List.length_drop]
  omega
theorem snd_new {me ot : List Nat} (h1 : NameOk me) (h2 : NameOk ot) : Snd (m_Sender___init__ me ot).2 me ot [] 0 := ⟨rfl, h1, h2, Int.le_refl 0, Int.le_refl 0, by decide, fun w h => nomatch h⟩
/-! ### the steps of the law -/
section
variable {e : Mo_Sender} {ends sent : List (List Nat)} {s : List Int} {d w : Int}
theorem t_disp1 {t : Bool × Mo_Sender × List (List Nat) × List Int} (h : Snd e (ixg ends 0) (ixg ends 1) sent d) (hs : s.length = 2) (hl : sent.length + 13 ≤ 2000)
    (he : t = if (decide (w < 3)) = true then (letV (m_law_dispatched e ends sent s 1) fun r => (!(r.1), r.2.1, r.2.2.1, r.2.2.2)) else (false, e, sent, s)) : t.1 = false ∧ Snd t.2.1 (ixg ends 0) (ixg ends 1) t.2.2.1 d ∧ t.2.2.1.length ≤ sent.length + 1 ∧ t.2.2.2.length = 2 := by
  subst he
  by_cases hw : w < 3
  · rw [if_pos (decide_eq_true hw)]
    obtain ⟨q1, q2, q3, q4⟩ := dispatched_ok (k := 1) h hs (by decide) (by omega)
    exact ⟨by show (!(m_law_dispatched e ends sent s 1).1) = false; rw [q1]; rfl, q2, by show (m_law_dispatched e ends sent s 1).2.2.1.length ≤ _; rw [q3]; exact Nat.le_refl _, q4⟩
  · rw [if_neg (fun q => hw (of_decide_eq_true q))]
    exact ⟨rfl, h, Nat.le_add_right _ _, hs⟩
theorem t_disp2 {t : Bool × Mo_Sender × List (List Nat) × List Int} (h : Snd e (ixg ends 0) (ixg ends 1) sent d) (hs : s.length = 2) (hl : sent.length + 13 ≤ 2000)
    (he : t = if (decide (w = 3)) = true then (letV (m_law_pick s 13) fun r223 => letV (m_law_dispatched e ends sent r223.2 r223.1) fun r => (!(r.1), r.2.1, r.2.2.1, r.2.2.2)) else (false, e, sent, s)) : t.1 = false ∧ Snd t.2.1 (ixg ends 0) (ixg ends 1) t.2.2.1 d ∧ t.2.2.1.length ≤ sent.length + 12 ∧ t.2.2.2.length = 2 := by
  subst he
  by_cases hw : w = 3
  · rw [if_pos (decide_eq_true hw)]
    obtain ⟨l1, a1, b1⟩ := pick_ok (n := 13) hs (by decide)
    obtain ⟨q1, q2, q3, q4⟩ := dispatched_ok (k := (m_law_pick s 13).1) h l1 a1 (by omega)
    exact ⟨by show (!(m_law_dispatched e ends sent (m_law_pick s 13).2 (m_law_pick s 13).1).1) = false; rw [q1]; rfl, q2, by show (m_law_dispatched e ends sent (m_law_pick s 13).2 (m_law_pick s 13).1).2.2.1.length ≤ _; rw [q3]; omega, q4⟩
  · rw [if_neg (fun q => hw (of_decide_eq_true q))]
    exact ⟨rfl, h, Nat.le_add_right _ _, hs⟩
theorem t_wrong {t : Bool × Mo_Sender × List Int} (h : Snd e (ixg ends 0) (ixg ends 1) sent d) (hs : s.length = 2)
    (he : t = if (decide (w = 4)) = true then (letV (m_law_wrong e s) fun r => (!(r.1), r.2.1, r.2.2)) else (false, e, s)) : t.1 = false ∧ Snd t.2.1 (ixg ends 0) (ixg ends 1) sent d ∧ t.2.2.length = 2 := by
  subst he
  by_cases hw : w = 4
  · rw [if_pos (decide_eq_true hw)]
    obtain ⟨q1, q2, q3⟩ := wrong_ok (e := e) hs
    exact ⟨by show (!(m_law_wrong e s).1) = false; rw [q1]; rfl, by show Snd (m_law_wrong e s).2.1 _ _ _ _; rw [q2]; exact h, q3⟩
  · rw [if_neg (fun q => hw (of_decide_eq_true q))]
    exact ⟨rfl, h, hs⟩
end
/-! ### for the walks -/
theorem wok_disp {k me ot : List Nat} {fs : List (List Nat)} {n : Int} (h : NameOk k) (h1 : NameOk me) (h2 : NameOk ot) (h0 : 0 ≤ n) (hn : n ≤ 999999) (hl : fs.length ≤ 8) (hf : ∀ f ∈ fs, FieldOk 40 f) : WOk k me ot (decL n) fs :=
  ⟨h.txt.1, h1.txt.1, h2.txt.1, Nat.le_trans (decL_len h0 (by omega)) (by decide), Nat.le_trans hl (by decide), fun f m => ((hf f m).txt (by decide)).1⟩
theorem pre_disp {e : Mo_Sender} {me ot k : List Nat} {sent fs : List (List Nat)} {d : Int} (h : Snd e me ot sent d) (hk : NameOk k) (hl : fs.length ≤ 8) (hf : ∀ f ∈ fs, FieldOk 40 f) :
    Txt 100 k ∧ Txt 100 e.1 ∧ Txt 100 e.2.1 ∧ fs.length ≤ 20 ∧ (∀ f ∈ fs, Txt 100 f) ∧ e.2.2.2.2.length ≤ 100000 :=
  ⟨hk.txt, h.names.1, h.names.2.1, Nat.le_trans hl (by decide), fun f m => (hf f m).txt (by decide), Nat.le_trans h.names.2.2 (by decide)⟩
theorem disp_sure {e : Mo_Sender} {me ot : List Nat} {sent : List (List Nat)} {d : Int} {k : List Nat} {fs : List (List Nat)} (h : Snd e me ot sent d) (hk : NameOk k) (hne : k ≠ [97, 99, 107]) (hl : fs.length ≤ 8) (hf : ∀ f ∈ fs, FieldOk 40 f) (hs : sent.length + 1 ≤ 2000) : m_Sender_dispatch e k fs = .ok (okV (m_Sender_dispatch e k fs)) := by
  obtain ⟨e', q, _⟩ := disp_right h hk hne hl hf hs
  rw [q]
  rfl
theorem txt_pay : Txt 100 [112, 97, 121] := ⟨by decide, by decide⟩
theorem txt_ack : Txt 100 [97, 99, 107] := ⟨by decide, by decide⟩
theorem one_txt {t : List Nat} {n : Nat} (h : FieldOk n t) (hn : n ≤ 100) : [t].length ≤ 11 ∧ ∀ f ∈ [t], Txt 100 f := ⟨Nat.le_of_ble_eq_true rfl, fun f m => by rw [List.mem_singleton.mp m]; exact h.txt hn⟩
theorem rep_txt {t : List Nat} {n : Nat} (h : FieldOk n t) (hn : n ≤ 100) {k : Int} (h0 : 0 ≤ k) (hk : k ≤ 11) : ((List.replicate k.toNat [t]).flatten).length ≤ 11 ∧ ∀ f ∈ (List.replicate k.toNat [t]).flatten, Txt 100 f := by
  refine ⟨?_, fun f m => ?_⟩
  · rw [List.length_flatten, List.map_replicate, List.sum_replicate_nat]
    show _ * 1 ≤ 11
    omega
  · obtain ⟨l, hl, hm⟩ := List.mem_flatten.mp m
    rw [List.eq_of_mem_replicate hl] at hm
    rw [List.mem_singleton.mp hm]
    exact h.txt hn
theorem app_txt {fs : List (List Nat)} {t : List Nat} (h : fs.length ≤ 11 ∧ ∀ f ∈ fs, Txt 100 f) (ht : FieldOk 9 t) : (fs ++ [t ++ [124]]).length ≤ 20 ∧ ∀ f ∈ fs ++ [t ++ [124]], Txt 100 f := by
  refine ⟨by rw [List.length_append]; show _ + 1 ≤ 20; have := h.1; omega, fun f m => ?_⟩
  rcases List.mem_append.mp m with m | m
  · exact h.2 f m
  · rw [List.mem_singleton.mp m]
    have h1 := ht.1
    refine ⟨by rw [List.length_append]; show _ + 1 ≤ 100; omega, fun c hc => ?_⟩
    rcases List.mem_append.mp hc with hc | hc
    · exact (ht.2 c hc).1
    · rw [List.mem_singleton.mp hc]; decide
end Ck28

namespace Ck28
open PySem L2 PyProof.Rows J
def LQ (m : Out Empty Unit Empty Bool) : Prop := m.val = true
/-- one turn -/
theorem turn {ns : List Int} {ends : List (List Nat)} {z : Mo_Sender × List (List Nat) × Int} {x : Int} {n : Nat} (hn : n < 60) (h : Snd z.1 (ixg ends 0) (ixg ends 1) z.2.1 z.2.2 ∧ z.2.1.length ≤ 13 * n) :
    ∃ z', st_law_1 ns ends z x = .nx z' ∧ Snd z'.1 (ixg ends 0) (ixg ends 1) z'.2.1 z'.2.2 ∧ z'.2.1.length ≤ 13 * (n + 1) := by
  obtain ⟨hS, hL⟩ := h
  show NxI (fun z' : Mo_Sender × List (List Nat) × Int => Snd z'.1 (ixg ends 0) (ixg ends 1) z'.2.1 z'.2.2 ∧ z'.2.1.length ≤ 13 * (n + 1)) (st_law_1 ns ends z x)
  unfold st_law_1
  refine ite_p (fun _ => ?_) (fun _ => ⟨_, rfl, hS, by dsimp only; omega⟩)
  refine letV_p fun r1 e1 => letV_p fun s es => letV_p fun r2 e2 => letV_p fun w ew => letV_p fun t1 et1 => ?_
  have l1 : s.length = 2 := by rw [es, e1]; exact source_len
  obtain ⟨l2, a2, b2⟩ := pick_ok (n := 8) l1 (by decide)
  rw [← e2] at l2
  obtain ⟨q1, S1, L1, k1⟩ := t_disp1 hS l2 (by omega) et1
  refine ite_p (fun q => by rw [q1] at q; exact absurd q Bool.false_ne_true) (fun _ => ?_)
  refine letV_p fun t2 et2 => ?_
  obtain ⟨q2, S2, L2, k2⟩ := t_disp2 S1 k1 (by omega) et2
  refine ite_p (fun q => by rw [q2] at q; exact absurd q Bool.false_ne_true) (fun _ => ?_)
  refine letV_p fun t3 et3 => ?_
  obtain ⟨q3, S3, k3⟩ := t_wrong S2 k2 et3
  refine ite_p (fun q => by rw [q3] at q; exact absurd q Bool.false_ne_true) (fun _ => ?_)
  refine bind_p (fun z' : Int × Mo_Sender × List Int => Snd z'.2.1 (ixg ends 0) (ixg ends 1) t2.2.2.1 z'.1) ?_ fun z' hz => ?_
  · refine ite_p (fun _ => ?_) (fun _ => ⟨_, rfl, S3⟩)
    refine letV_p fun r4 e4 => letV_p fun d ed => ?_
    obtain ⟨q4, _⟩ := acked_ok S3 k3
    rw [← e4] at q4
    rw [← ed] at q4
    refine ite_p (fun q => ?_) (fun _ => ⟨_, rfl, q4⟩)
    have := of_decide_eq_true q
    have := q4.2.2.2.1
    omega
  refine bind_p (fun _ : Unit => True) ?_ fun u _ => ?_
  · split
    · exact ⟨_, rfl, trivial⟩
    · exact ⟨_, rfl, trivial⟩
  refine ite_p (fun q => by rw [agrees_ok hz] at q; exact absurd q (by decide)) (fun _ => ⟨_, rfl, hz, by dsimp only; omega⟩)
theorem law_true (ns : List Int) : m_law ns = true := by
  show LQ (b_law ns)
  unfold b_law
  refine letV_p fun r1 e1 => letV_p fun r2 e2 => letV_p fun en een => letV_p fun r3 e3 => letV_p fun r4 e4 => letV_p fun st est => letV_p fun dr edr => ?_
  have l1 : r1.length = 2 := by rw [e1]; exact source_len
  obtain ⟨_, _, h1, h2⟩ := two_ok l1
  rw [← e2, ← een] at h1 h2
  obtain ⟨z, e, h⟩ := forL_invN 60 (ε := Empty) (L := Empty) (R := Bool) (f := st_law_1 ns en) (fun n z => Snd z.1 (ixg en 0) (ixg en 1) z.2.1 z.2.2 ∧ z.2.1.length ≤ 13 * n) (xs := rng 1 61) (s := (r3.2, st, dr)) (n := 0) (by rw [rng_length]; decide)
    ⟨by rw [e3, est, edr]; exact snd_new h1 h2, by rw [est]; exact Nat.le_refl 0⟩ fun n z x _ hn hz => turn hn hz
  refine bind_p (fun _ => True) ⟨z, e, trivial⟩ fun z _ => ?_
  refine letV_p fun r5 e5 => letV_p fun la ela => letV_p fun t et => ?_
  have hS : Snd r4.2 (ixg en 1) (ixg en 0) [] 0 := by rw [e4]; exact snd_new h2 h1
  have hl : la.length = 2 := by rw [ela, e5]; exact source_len
  show t.1 = true
  rw [et]
  unfold letV
  dsimp only
  rw [agrees_ok hS, if_pos rfl]
  exact (dispatched_ok (e := r4.2) (ends := [ixg en 1, ixg en 0]) (sent := []) (k := 2) hS hl (by decide) (by decide)).1
end Ck28

set_option synthInstance.maxSize 10000
namespace Ck28
open PySem L2 PyProof.Rows J
abbrev s_law_pick : Stmt := PySem.Challenge.pw_corebank_k28_sender.main.body.getD 27 (.Pass ⟨0, 0, 0, 0⟩)
abbrev N_law_pick : List Str := ["_law_source_here", "_law_many", "_law_picked", "_law_mixed"]
theorem sc_law_pick : FnScope ["_law_source_here", "_law_many", "_law_picked", "_law_mixed"] ["_law_source_here", "_law_many"] (defScope s_law_pick) := ⟨rfl, rfl, rfl, by decide +kernel, rfl, by decide +kernel, by decide +kernel⟩
theorem ok_law_pick {P : Program} {w : World} {K : PySem.W.Frag} {mg : Str → Option Value} {base : Heap} {f : Addr} {fd : FuncData} (F : Fun K "_law_pick" "_law_pick" s_law_pick f fd) (b : Binds K fd ["_law_source_here", "_law_many"] []) (hmg : mg "_law_pick" = some (.ref f)) {adr : _root_.Fin 7 → Addr} {B0 : Addr} (Er : Errs K mg nm_ adr B0) (m_int : mg "int" = none) :
    Fn0 P w K mg base CX0 1 "_law_pick" 2 (sp_law_pick K) := by
  have hsl := sizeLine_eq
  refine ⟨f, fd, ["_law_source_here", "_law_many"], fn_okM (pre := pre_law_pick K) (post := post_law_pick K) F sc_law_pick b (fun i : ((List Int) × Int) => b_law_pick i.1 i.2) (fun i G mc vs h => ?_) (fun cdv A outer s H E i G mc cs vs hr hp => ?_), hmg, F.kp, b, rfl⟩
  · obtain ⟨_, _, _, h, _⟩ := h
    rw [h]
    rfl
  obtain ⟨source_here_, many_⟩ := i
  obtain ⟨v1_, a0_, u0_, rfl, rfl, h0_, h1_, hpre⟩ := hp
  replace h0_ : Rs rI G source_here_ u0_ := h0_
  cases h1_
  show B _ _ _ [some (.ref a0_), some (.int many_), none, none] G ((a0_, HO.lst u0_) :: cs) _ (b_law_pick source_here_ many_)
  unfold b_law_pick
  try dsimp only at hpre
  have hl := hpre.1
  have hm := hpre.2.1
  have hm2 := hpre.2.2
  refine b_ifx (t_cmp op_gt (nomark _) (d_ixL (r := rI) (xs := source_here_) (i := 0) (x := (ixg source_here_ 0)) (d_var 0 (P := rdL K _ rI source_here_) rfl (rdL_cell List.mem_cons_self h0_)) d_int (atI_ixg (by (constructor <;> omega)))) d_int fun _ _ _ _ _ _ hx hy _ q => c_gt hx hy q) ?_ ?_
  · intro hc1 Gs2 s2
    have dhc1 := hc1
    try simp only [decide_eq_true_eq, decide_eq_false_iff_not, Bool.and_eq_true, Bool.and_eq_false_imp, Bool.or_eq_true, Bool.or_eq_false_iff, Bool.not_eq_true', Bool.not_eq_false', Bool.not_not, ne_eq, Int.not_lt, Int.not_le] at dhc1
    refine b_setV (r := rI) 2 sc_law_pick.nd (d_mod (d_int1 m_int (d_ixL (r := rI) (xs := source_here_) (i := 0) (x := (ixg source_here_ 0)) (d_var 0 (P := rdL K _ rI source_here_) rfl (rdL_cell List.mem_cons_self (Rs.mono s2 h0_))) d_int (atI_ixg (by (constructor <;> omega))))) (d_var 1 (P := rI many_) rfl rfl) (by omega)) (fun picked_3 epicked_3 v5 Gs4 s4 h6 => ?_)
    cases h6
    refine b_put 0 (P := rI ((ixg source_here_ 0) / many_)) (z := 0) (j := ((ixN u0_.length 0).getD 0)) rfl (d_fdiv (d_ixL (r := rI) (xs := source_here_) (i := 0) (x := (ixg source_here_ 0)) (d_var 0 (P := rdL K _ rI source_here_) rfl (rdL_cell List.mem_cons_self (Rs.mono (s2.trans s4) h0_))) d_int (atI_ixg (by (constructor <;> omega)))) (d_var 1 (P := rI many_) rfl rfl) (divS (by omega) (by omega))) (d_var 0 (P := rV (.ref a0_)) rfl rfl) d_int (ixN_ok (by rw [← Rs.length h0_]; exact (by (constructor <;> omega)))) (fun v7 Gs8 s8 h9 => ?_)
    have h11 := Rs.put h9 (Rs.mono (s2.trans (s4.trans s8)) h0_) 0
    refine letV_intro (fun source_here_10 esource_here_10 => ?_)
    rw [← esource_here_10] at h11
    have nsource_here_10 : source_here_10.length = source_here_.length := by rw [esource_here_10, putL_len]
    exact b_ret (P := rI picked_3) (d_var 2 (P := rI picked_3) rfl rfl) (fun v_ Gs12 s12 h_ => ⟨[], [(a0_, HO.lst (u0_.set ((ixN u0_.length 0).getD 0) v7))], (List.Perm.refl _), ⟨_, _, _, rfl, rfl, (Rs.mono s12 h11), h_⟩⟩)
  · intro hc1 Gs2 s2
    have dhc1 := hc1
    try simp only [decide_eq_true_eq, decide_eq_false_iff_not, Bool.and_eq_true, Bool.and_eq_false_imp, Bool.or_eq_true, Bool.or_eq_false_iff, Bool.not_eq_true', Bool.not_eq_false', Bool.not_not, ne_eq, Int.not_lt, Int.not_le] at dhc1
    refine b_put 0 (P := rI ((((ixg source_here_ 1) * 48271) + 12345) % 2147483647)) (z := 1) (j := ((ixN u0_.length 1).getD 0)) rfl (d_mod (d_int1 m_int (d_add (d_mul (d_ixL (r := rI) (xs := source_here_) (i := 1) (x := (ixg source_here_ 1)) (d_var 0 (P := rdL K _ rI source_here_) rfl (rdL_cell List.mem_cons_self (Rs.mono s2 h0_))) d_int (atI_ixg (by (constructor <;> omega)))) d_int (.inr ⟨by omega, by omega⟩)) d_int)) d_int (by decide)) (d_var 0 (P := rV (.ref a0_)) rfl rfl) d_int (ixN_ok (by rw [← Rs.length h0_]; exact (by (constructor <;> omega)))) (fun v13 Gs14 s14 h15 => ?_)
    have h17 := Rs.put h15 (Rs.mono (s2.trans s14) h0_) 1
    refine letV_intro (fun source_here_16 esource_here_16 => ?_)
    rw [← esource_here_16] at h17
    have nsource_here_16 : source_here_16.length = source_here_.length := by rw [esource_here_16, putL_len]
    refine b_setV (r := rI) 3 sc_law_pick.nd (d_mod (d_int1 m_int (d_add (d_add (d_mul (d_ixL (r := rI) (xs := source_here_16) (i := 1) (x := (ixg source_here_16 1)) (d_var 0 (P := rdL K _ rI source_here_16) rfl (rdL_cell List.mem_cons_self h17)) d_int (atI_ixg (by (constructor <;> omega)))) d_int (.inr ⟨by omega, by omega⟩)) (d_fdiv (d_ixL (r := rI) (xs := source_here_16) (i := 1) (x := (ixg source_here_16 1)) (d_var 0 (P := rdL K _ rI source_here_16) rfl (rdL_cell List.mem_cons_self h17)) d_int (atI_ixg (by (constructor <;> omega)))) d_int (divW (by decide) (by decide +kernel)))) d_int)) d_int (by decide)) (fun mixed_18 emixed_18 v20 Gs19 s19 h21 => ?_)
    cases h21
    exact b_ret (P := rI ((mixed_18 / 16) % many_)) (d_mod (d_int1 m_int (d_fdiv (d_var 3 (P := rI mixed_18) rfl rfl) d_int (divW (by decide) (by decide +kernel)))) (d_var 1 (P := rI many_) rfl rfl) (by omega)) (fun v_ Gs22 s22 h_ => ⟨[], [(a0_, HO.lst (u0_.set ((ixN u0_.length 1).getD 0) v13))], (List.Perm.refl _), ⟨_, _, _, rfl, rfl, (Rs.mono (s19.trans s22) h17), h_⟩⟩)
end Ck28

set_option synthInstance.maxSize 10000
namespace Ck28
open PySem L2 PyProof.Rows J
abbrev s_law_name : Stmt := PySem.Challenge.pw_corebank_k28_sender.main.body.getD 28 (.Pass ⟨0, 0, 0, 0⟩)
abbrev N_law_name : List Str := ["_law_source_here", "_law_signs", "_law_name_here", "_law_k"]
theorem sc_law_name : FnScope ["_law_source_here", "_law_signs", "_law_name_here", "_law_k"] ["_law_source_here"] (defScope s_law_name) := ⟨rfl, rfl, rfl, by decide +kernel, rfl, by decide +kernel, by decide +kernel⟩
theorem ok_law_name {P : Program} {w : World} {K : PySem.W.Frag} {mg : Str → Option Value} {base : Heap} {f : Addr} {fd : FuncData} (F : Fun K "_law_name" "_law_name" s_law_name f fd) (b : Binds K fd ["_law_source_here"] []) (hmg : mg "_law_name" = some (.ref f)) {adr : _root_.Fin 7 → Addr} {B0 : Addr} (Er : Errs K mg nm_ adr B0) (m_range : mg "range" = none) (F_law_pick : Fn0 P w K mg base CX0 1 "_law_pick" 2 (sp_law_pick K)) :
    Fn0 P w K mg base CX0 2 "_law_name" 1 (sp_law_name K) := by
  have hsl := sizeLine_eq
  refine ⟨f, fd, ["_law_source_here"], fn_okM (pre := pre_law_name K) (post := post_law_name K) F sc_law_name b (fun i : ((List Int)) => b_law_name i) (fun i G mc vs h => ?_) (fun cdv A outer s H E source_here_ G mc cs vs hr hp => ?_), hmg, F.kp, b, rfl⟩
  · obtain ⟨_, _, h, _⟩ := h
    rw [h]
    rfl
  obtain ⟨a0_, u0_, rfl, rfl, h0_, hpre⟩ := hp
  replace h0_ : Rs rI G source_here_ u0_ := h0_
  show B _ _ _ [some (.ref a0_), none, none, none] G ((a0_, HO.lst u0_) :: cs) _ (b_law_name source_here_)
  unfold b_law_name
  try dsimp only at hpre
  refine b_setV (r := rS) 1 sc_law_name.nd (d_str (l := [97, 98, 99, 100, 101, 102, 103, 104, 105, 106, 107, 108, 109, 110, 111, 112, 113, 114, 115, 116, 117, 118, 119, 120, 121, 122, 48, 49, 50, 51, 52, 53, 54, 55, 56, 57]) (by decide +kernel)) (fun signs_1 esigns_1 v3 Gs2 s2 h4 => ?_)
  cases h4
  have hsg : signs_1.length = 36 := by rw [esigns_1]; rfl
  refine letV_intro (fun r13 er13 => ?_)
  have fr13 := pick_ok (s := source_here_) (n := 26) (by first | assumption | omega) (by omega)
  rw [← er13] at fr13
  obtain ⟨lr13, ar13, br13⟩ := fr13
  refine b_setC 2 sc_law_name.nd ?_
  refine ec_ix ix_str ?_
  refine ec_D (P := rS signs_1) (d_var 1 (P := rS signs_1) rfl rfl) (fun v6 Gs5 s5 h7 => ?_)
  refine ec_callM F_law_pick hr (by decide) ?_
  refine ac_cons ?_
  refine ec_D (P := rV (.ref a0_)) (d_var 0 (P := rV (.ref a0_)) rfl rfl) (fun v_ Gs8 s8 hv_ => ?_)
  cases hv_
  refine ac_cons ?_
  refine ec_D (P := rI 26) d_int (fun v10 Gs9 s9 h11 => ?_)
  refine ac_nil' (fun Gs12 s12 => ?_)
  refine ⟨(source_here_, 26), [(a0_, HO.lst u0_)], cs, (List.Perm.refl _), ⟨_, _, _, rfl, rfl, (Rs.mono (s2.trans (s5.trans (s8.trans (s9.trans s12)))) h0_), (Mono.mono s12 h11), (by exact ⟨by first | assumption | omega, by first | omega | (dsimp only; omega), by first | omega | (dsimp only; omega)⟩)⟩, ?_⟩
  rintro v20 Gs14 mc15 s14 ⟨v16, a17, us18, e_, rfl, h19, h21⟩
  cases e_
  have h22 : Rs rI Gs14 r13.2 us18 := by rw [er13]; exact h19
  have h23 : rI r13.1 Gs14 v20 := by rw [er13]; exact h21
  refine ⟨(a0_, HO.lst us18) :: cs, (List.Perm.refl _), ?_⟩
  refine rc_ixS (z := signs_1) (i := r13.1) (n := (ixg signs_1 r13.1)) (Mono.mono (s8.trans (s9.trans (s12.trans s14))) h7) h23 (by first | omega | (simp; done) | (simp; omega)) (atI_ixg (by first | (constructor <;> omega) | (simp only [List.length_cons, List.length_nil]; constructor <;> omega) | exact ix_mod (by omega) | (simp only [decide_eq_true_eq, decide_eq_false_iff_not] at *; constructor <;> omega) | (simp only [decide_eq_true_eq, decide_eq_false_iff_not, Bool.and_eq_true, Bool.or_eq_true, Bool.or_eq_false_iff, Bool.not_eq_true', Bool.not_eq_false', Bool.not_not, ne_eq, Int.not_lt, Int.not_le] at *; constructor <;> omega))) (fun Gs24 s24 => ?_)
  have h27 : rS [(ixg signs_1 r13.1)] Gs24 (.str (SX.S [(ixg signs_1 r13.1)])) := rfl
  intro _
  refine letV_intro (fun name_here_28 ename_here_28 => ?_)
  have h29 : rS name_here_28 Gs24 (.str (SX.S [(ixg signs_1 r13.1)])) := by rw [ename_here_28]; exact h27
  have hq_ : ((.str (SX.S [(ixg signs_1 r13.1)])) : V) = .str (SX.S name_here_28) := h29
  rw [hq_]
  have hn0 : name_here_28.length = 1 := by rw [ename_here_28]; rfl
  refine letV_intro (fun r35 er35 => ?_)
  have fr35 := pick_ok (s := r13.2) (n := 12) (by first | assumption | omega) (by omega)
  rw [← er35] at fr35
  obtain ⟨lr35, ar35, br35⟩ := fr35
  refine b_forC (Pi := rI) (C := fun _ => True) (xs := (rng 0 r35.1)) (tg_name 3 sc_law_name.nd) rfl PassesOwn.never (fun gt_ hpg_ hgt_ => ?_)
  refine ic_rng1 m_range ?_
  refine ec_callM F_law_pick hr (by decide) ?_
  refine ac_cons ?_
  refine ec_D (P := rV (.ref a0_)) (d_var 0 (P := rV (.ref a0_)) rfl rfl) (fun v_ Gs30 s30 hv_ => ?_)
  cases hv_
  refine ac_cons ?_
  refine ec_D (P := rI 12) d_int (fun v32 Gs31 s31 h33 => ?_)
  refine ac_nil' (fun Gs34 s34 => ?_)
  refine ⟨(r13.2, 12), [(a0_, HO.lst us18)], cs, (List.Perm.refl _), ⟨_, _, _, rfl, rfl, (Rs.mono (s24.trans (s30.trans (s31.trans s34))) h22), (Mono.mono s34 h33), (by exact ⟨by first | assumption | omega, by first | omega | (dsimp only; omega), by first | omega | (dsimp only; omega)⟩)⟩, ?_⟩
  rintro v42 Gs36 mc37 s36 ⟨v38, a39, us40, e_, rfl, h41, h43⟩
  cases e_
  have h44 : Rs rI Gs36 r35.2 us40 := by rw [er35]; exact h41
  have h45 : rI r35.1 Gs36 v42 := by rw [er35]; exact h43
  refine ⟨(a0_, HO.lst us40) :: cs, (List.Perm.refl _), ?_⟩
  refine ⟨_, h45, (by omega), (by omega), rfl, fun _ => ?_⟩
  refine lb_core (f := (st_law_name_1 signs_1)) (s0 := (r35.2, name_here_28)) (xs := (rng 0 r35.1)) (fun n_ (z46 : ((List Int) × (List Nat))) σ_ G_ cs_ => ∃ us49 : List V, ∃ o51 : Option V, σ_ = [some (.ref a0_), some (.str (SX.S signs_1)), some (.str (SX.S z46.2)), o51] ∧ (a0_, HO.lst us49) :: cs = cs_ ∧ Rs rI G_ z46.1 us49 ∧ (z46.1.length = 2) ∧ (z46.2.length ≤ 1 + n_)) hgt_ ?_ ?_ ?_ ?_
  · intro _ s86
    exact ⟨_, _, rfl, rfl, (Rs.mono s86 h44), (by first | assumption | omega | (simp only [List.length_cons, List.length_nil] at *; omega)), by (dsimp only; omega)⟩
  · intro _ _ _ _ _ _
    trivial
  · intro pre_ x52 post_ z46 _ _ _ _ _ hxsz46 hrez46 s53 hNz46 s54 hSz46
    obtain ⟨us49, o51, rfl, rfl, h50, hiz46_0, hbz46⟩ := hNz46
    obtain ⟨v47, h48, rfl⟩ := hSz46
    have hltz46 : pre_.length < (rng 0 r35.1).length := by rw [hxsz46, List.length_append, List.length_cons]; omega
    have hmemz46 : x52 ∈ (rng 0 r35.1) := by rw [hxsz46]; exact List.mem_append_right _ List.mem_cons_self
    try simp only [rng_length, rng_mem, enumL_length] at hltz46 hmemz46
    show B _ _ _ _ _ _ _ (st_law_name_1 signs_1 z46 x52)
    unfold st_law_name_1
    cases h48
    refine letV_intro (fun r67 er67 => ?_)
    have fr67 := pick_ok (s := z46.1) (n := 36) (by first | assumption | omega) (by omega)
    rw [← er67] at fr67
    obtain ⟨lr67, ar67, br67⟩ := fr67
    refine b_setC 2 sc_law_name.nd ?_
    refine ec_bin op_add_str ?_
    refine ec_D (P := rS z46.2) (d_var 2 (P := rS z46.2) rfl rfl) (fun v57 Gs56 s56 h58 => ?_)
    refine ec_ix ix_str ?_
    refine ec_D (P := rS signs_1) (d_var 1 (P := rS signs_1) rfl rfl) (fun v60 Gs59 s59 h61 => ?_)
    refine ec_callM F_law_pick hr (by decide) ?_
    refine ac_cons ?_
    refine ec_D (P := rV (.ref a0_)) (d_var 0 (P := rV (.ref a0_)) rfl rfl) (fun v_ Gs62 s62 hv_ => ?_)
    cases hv_
    refine ac_cons ?_
    refine ec_D (P := rI 36) d_int (fun v64 Gs63 s63 h65 => ?_)
    refine ac_nil' (fun Gs66 s66 => ?_)
    refine ⟨(z46.1, 36), [(a0_, HO.lst us49)], cs, (List.Perm.refl _), ⟨_, _, _, rfl, rfl, (Rs.mono (s54.trans (s56.trans (s59.trans (s62.trans (s63.trans s66))))) h50), (Mono.mono s66 h65), (by exact ⟨by first | assumption | omega, by first | omega | (dsimp only; omega), by first | omega | (dsimp only; omega)⟩)⟩, ?_⟩
    rintro v74 Gs68 mc69 s68 ⟨v70, a71, us72, e_, rfl, h73, h75⟩
    cases e_
    have h76 : Rs rI Gs68 r67.2 us72 := by rw [er67]; exact h73
    have h77 : rI r67.1 Gs68 v74 := by rw [er67]; exact h75
    refine ⟨(a0_, HO.lst us72) :: cs, (List.Perm.refl _), ?_⟩
    refine rc_ixS (z := signs_1) (i := r67.1) (n := (ixg signs_1 r67.1)) (Mono.mono (s62.trans (s63.trans (s66.trans s68))) h61) h77 (by first | omega | (simp; done) | (simp; omega)) (atI_ixg (by first | (constructor <;> omega) | (simp only [List.length_cons, List.length_nil]; constructor <;> omega) | exact ix_mod (by omega) | (simp only [decide_eq_true_eq, decide_eq_false_iff_not] at *; constructor <;> omega) | (simp only [decide_eq_true_eq, decide_eq_false_iff_not, Bool.and_eq_true, Bool.or_eq_true, Bool.or_eq_false_iff, Bool.not_eq_true', Bool.not_eq_false', Bool.not_not, ne_eq, Int.not_lt, Int.not_le] at *; constructor <;> omega))) (fun Gs78 s78 => ?_)
    have h81 : rS [(ixg signs_1 r67.1)] Gs78 (.str (SX.S [(ixg signs_1 r67.1)])) := rfl
    refine rc_cat (z := z46.2) (w := [(ixg signs_1 r67.1)]) (Mono.mono (s59.trans (s62.trans (s63.trans (s66.trans (s68.trans s78))))) h58) h81 (by (simp only [List.length_cons, List.length_nil]; omega)) (fun Gs82 s82 => ?_)
    have h83 : rS (z46.2 ++ [(ixg signs_1 r67.1)]) Gs82 (.str (SX.S (z46.2 ++ [(ixg signs_1 r67.1)]))) := rfl
    intro _
    refine letV_intro (fun name_here_84 ename_here_84 => ?_)
    have h85 : rS name_here_84 Gs82 (.str (SX.S (z46.2 ++ [(ixg signs_1 r67.1)]))) := by rw [ename_here_84]; exact h83
    have hq_ : ((.str (SX.S (z46.2 ++ [(ixg signs_1 r67.1)]))) : V) = .str (SX.S name_here_84) := h85
    rw [hq_]
    have hn1 := congrArg List.length ename_here_84
    rw [List.length_append] at hn1
    simp only [List.length_cons, List.length_nil] at hn1
    exact b_nil (by refine ⟨_, _, rfl, rfl, (Rs.mono (s78.trans s82) h76), (by first | assumption | omega | (simp only [List.length_cons, List.length_nil] at *; omega)), by (dsimp only; omega)⟩)
  · intro n_ z46 _ _ _ hnz46 s87 hNz46 hfz46
    obtain ⟨us49, o51, rfl, rfl, h50, hiz46_0, hbz46⟩ := hNz46
    try simp only [rng_length, enumL_length] at hnz46
    exact b_ret (P := rS z46.2) (d_var 2 (P := rS z46.2) rfl rfl) (fun v_ Gs88 s88 h_ => ⟨[], [(a0_, HO.lst us49)], (List.Perm.refl _), ⟨_, _, rfl, rfl, (Rs.mono s88 h50), h_⟩⟩)
end Ck28

set_option synthInstance.maxSize 10000
namespace Ck28
open PySem L2 PyProof.Rows J
abbrev s_law_two_names : Stmt := PySem.Challenge.pw_corebank_k28_sender.main.body.getD 35 (.Pass ⟨0, 0, 0, 0⟩)
abbrev N_law_two_names : List Str := ["_law_source_here", "_law_me", "_law_other", "_law_spare"]
theorem sc_law_two_names : FnScope ["_law_source_here", "_law_me", "_law_other", "_law_spare"] ["_law_source_here"] (defScope s_law_two_names) := ⟨rfl, rfl, rfl, by decide +kernel, rfl, by decide +kernel, by decide +kernel⟩
theorem ok_law_two_names {P : Program} {w : World} {K : PySem.W.Frag} {mg : Str → Option Value} {base : Heap} {f : Addr} {fd : FuncData} (F : Fun K "_law_two_names" "_law_two_names" s_law_two_names f fd) (b : Binds K fd ["_law_source_here"] []) (hmg : mg "_law_two_names" = some (.ref f)) {adr : _root_.Fin 7 → Addr} {B0 : Addr} (Er : Errs K mg nm_ adr B0) (F_law_name : Fn0 P w K mg base CX0 2 "_law_name" 1 (sp_law_name K)) :
    Fn0 P w K mg base CX0 3 "_law_two_names" 1 (sp_law_two_names K) := by
  have hsl := sizeLine_eq
  refine ⟨f, fd, ["_law_source_here"], fn_okM (pre := pre_law_two_names K) (post := post_law_two_names K) F sc_law_two_names b (fun i : ((List Int)) => b_law_two_names i) (fun i G mc vs h => ?_) (fun cdv A outer s H E source_here_ G mc cs vs hr hp => ?_), hmg, F.kp, b, rfl⟩
  · obtain ⟨_, _, h, _⟩ := h
    rw [h]
    rfl
  obtain ⟨a0_, u0_, rfl, rfl, h0_, hpre⟩ := hp
  replace h0_ : Rs rI G source_here_ u0_ := h0_
  show B _ _ _ [some (.ref a0_), none, none, none] G ((a0_, HO.lst u0_) :: cs) _ (b_law_two_names source_here_)
  unfold b_law_two_names
  try dsimp only at hpre
  refine letV_intro (fun r3 er3 => ?_)
  have fr3 := name_ok (s := source_here_) (by first | assumption | omega)
  rw [← er3] at fr3
  obtain ⟨lr3, ar3⟩ := fr3
  have a1r3 := ar3.1
  have a2r3 := ar3.2.1
  refine b_setC 1 sc_law_two_names.nd ?_
  refine ec_callM F_law_name hr (by decide) ?_
  refine ac_cons ?_
  refine ec_D (P := rV (.ref a0_)) (d_var 0 (P := rV (.ref a0_)) rfl rfl) (fun v_ Gs1 s1 hv_ => ?_)
  cases hv_
  refine ac_nil' (fun Gs2 s2 => ?_)
  refine ⟨(source_here_), [(a0_, HO.lst u0_)], cs, (List.Perm.refl _), ⟨_, _, rfl, rfl, (Rs.mono (s1.trans s2) h0_), (by (try dsimp only); first | assumption | omega | (refine ⟨?_, ?_⟩ <;> omega) | (refine ⟨?_, ?_, ?_⟩ <;> omega) | simp_all)⟩, ?_⟩
  rintro v9 Gs4 mc5 s4 ⟨a6, us7, e_, rfl, h8, h10⟩
  cases e_
  have h11 : Rs rI Gs4 r3.2 us7 := by rw [er3]; exact h8
  have h12 : rS r3.1 Gs4 v9 := by rw [er3]; exact h10
  refine ⟨(a0_, HO.lst us7) :: cs, (List.Perm.refl _), ?_⟩
  intro _
  refine letV_intro (fun me_13 eme_13 => ?_)
  have h14 : rS me_13 Gs4 v9 := by rw [eme_13]; exact h12
  have hq_ : (v9 : V) = .str (SX.S me_13) := h14
  rw [hq_]
  refine letV_intro (fun r17 er17 => ?_)
  have fr17 := name_ok (s := r3.2) (by first | assumption | omega)
  rw [← er17] at fr17
  obtain ⟨lr17, ar17⟩ := fr17
  have a1r17 := ar17.1
  have a2r17 := ar17.2.1
  refine b_setC 2 sc_law_two_names.nd ?_
  refine ec_callM F_law_name hr (by decide) ?_
  refine ac_cons ?_
  refine ec_D (P := rV (.ref a0_)) (d_var 0 (P := rV (.ref a0_)) rfl rfl) (fun v_ Gs15 s15 hv_ => ?_)
  cases hv_
  refine ac_nil' (fun Gs16 s16 => ?_)
  refine ⟨(r3.2), [(a0_, HO.lst us7)], cs, (List.Perm.refl _), ⟨_, _, rfl, rfl, (Rs.mono (s15.trans s16) h11), (by (try dsimp only); first | assumption | omega | (refine ⟨?_, ?_⟩ <;> omega) | (refine ⟨?_, ?_, ?_⟩ <;> omega) | simp_all)⟩, ?_⟩
  rintro v23 Gs18 mc19 s18 ⟨a20, us21, e_, rfl, h22, h24⟩
  cases e_
  have h25 : Rs rI Gs18 r17.2 us21 := by rw [er17]; exact h22
  have h26 : rS r17.1 Gs18 v23 := by rw [er17]; exact h24
  refine ⟨(a0_, HO.lst us21) :: cs, (List.Perm.refl _), ?_⟩
  intro _
  refine letV_intro (fun other_27 eother_27 => ?_)
  have h28 : rS other_27 Gs18 v23 := by rw [eother_27]; exact h26
  have hq_ : (v23 : V) = .str (SX.S other_27) := h28
  rw [hq_]
  refine b_if (S' := ((List Nat))) (fun (z31 : ((List Nat))) σ_ G_ cs_ => ∃ o32 : Option V, σ_ = [some (.ref a0_), some (.str (SX.S me_13)), some (.str (SX.S z31)), o32] ∧ (a0_, HO.lst us21) :: cs = cs_) (t_cmp op_eq (nomark _) (d_var 2 (P := rS other_27) rfl rfl) (d_var 1 (P := rS me_13) rfl rfl) fun _ _ _ _ _ _ hx hy _ q => c_eqS hx hy q) ?_ ?_ ?_
  · intro hc29 Gs30 s30
    have dhc29 := hc29
    try simp only [decide_eq_true_eq, decide_eq_false_iff_not, Bool.and_eq_true, Bool.and_eq_false_imp, Bool.or_eq_true, Bool.or_eq_false_iff, Bool.not_eq_true', Bool.not_eq_false', Bool.not_not, ne_eq, Int.not_lt, Int.not_le] at dhc29
    refine b_setV (r := rS) 2 sc_law_two_names.nd (d_ixL (r := rS) (xs := (([[97], [98]].filter (fun spare_ : (List Nat) => !decide (spare_ = me_13))).map (fun spare_ : (List Nat) => spare_))) (i := 0) (x := (ixg (([[97], [98]].filter (fun spare_ : (List Nat) => !decide (spare_ = me_13))).map (fun spare_ : (List Nat) => spare_)) 0)) (D.imp (P := (rL K rS) (([[97], [98]].filter (fun spare_ : (List Nat) => !decide (spare_ = me_13))).map (fun spare_ : (List Nat) => spare_))) (d_new (n_lcIf (C := fun _ => True) (own := [("_law_spare", 3)]) (xs := [[97], [98]]) (r := rS) (f := (fun spare_ : (List Nat) => spare_)) (q := fun spare_ : (List Nat) => !decide (spare_ = me_13)) rfl sc_law_two_names.nd (blkOk_by (N := N_law_two_names) (sc := defScope s_law_two_names) (by decide +kernel)) (i_listF (r := rS) (d_new (n_lst (r := rS) (xs := [[97], [98]]) (a_cons (P := rS [97]) (d_str (l := [97]) (by decide +kernel)) (a_cons (P := rS [98]) (d_str (l := [98]) (by decide +kernel)) a_nil)) (ls_c (ls_c ls_n))))) (tgb_name 3 sc_law_two_names.nd) (fun _ _ => trivial) (fun _ _ _ ⟨_, _, e⟩ => by subst e; exact wipe1) (fun (spare_ : (List Nat)) hx36 _ _ _ s35 ⟨c0_, ec⟩ hS _ _ _ _ _ => by subst ec; obtain ⟨v33, h34, rfl⟩ := hS; cases h34; have hmhx36 := hx36; (try simp only [rng_mem, rng_length] at hmhx36); exact (t_cmp op_ne (nomark _) (d_var 3 (P := rS spare_) rfl rfl) (d_var 1 (P := rS me_13) rfl rfl) fun _ _ _ _ _ _ hx hy _ q => c_neS hx hy q)) (fun (spare_ : (List Nat)) hx36 hq37 _ _ _ s35 ⟨c0_, ec⟩ hS _ _ _ _ _ => by subst ec; obtain ⟨v33, h34, rfl⟩ := hS; cases h34; have hmhx36 := hx36; (try simp only [rng_mem, rng_length] at hmhx36); exact (d_var 3 (P := rS spare_) rfl rfl)) (by first | omega | (simp only [rng_length, enumL_length, List.length_map]; omega) | (simp; done) | (simp; omega)))) fun _ _ => rdL_of) d_int (atI_ixg (by (have q := (spare_ok me_13).1; refine ⟨?_, ?_⟩ <;> omega)))) (fun other_38 eother_38 v40 Gs39 s39 h41 => ?_)
    cases h41
    exact b_nil (by refine ⟨_, rfl, rfl⟩)
  · intro hc29 Gs30 s30
    have dhc29 := hc29
    try simp only [decide_eq_true_eq, decide_eq_false_iff_not, Bool.and_eq_true, Bool.and_eq_false_imp, Bool.or_eq_true, Bool.or_eq_false_iff, Bool.not_eq_true', Bool.not_eq_false', Bool.not_not, ne_eq, Int.not_lt, Int.not_le] at dhc29
    exact b_nil (by refine ⟨_, rfl, rfl⟩)
  · intro z31 _ _ _ sz31 hNz31 hmz31
    obtain ⟨o32, rfl, rfl⟩ := hNz31
    exact b_ret (P := (rL K rS) [me_13, z31]) (d_new (n_lst (r := rS) (xs := [me_13, z31]) (a_cons (P := rS me_13) (d_var 1 (P := rS me_13) rfl rfl) (a_cons (P := rS z31) (d_var 2 (P := rS z31) rfl rfl) a_nil)) (ls_c (ls_c ls_n)))) (fun v_ Gs42 s42 h_ => ⟨[], [(a0_, HO.lst us21)], (List.Perm.refl _), ⟨_, _, rfl, rfl, (Rs.mono (sz31.trans s42) h25), h_⟩⟩)
end Ck28

set_option synthInstance.maxSize 10000
namespace Ck28
open PySem L2 PyProof.Rows J
abbrev s_law_source : Stmt := PySem.Challenge.pw_corebank_k28_sender.main.body.getD 26 (.Pass ⟨0, 0, 0, 0⟩)
abbrev N_law_source : List Str := ["_law_cell_here", "_law_k"]
theorem sc_law_source : FnScope ["_law_cell_here", "_law_k"] ["_law_cell_here", "_law_k"] (defScope s_law_source) := ⟨rfl, rfl, rfl, by decide +kernel, rfl, by decide +kernel, by decide +kernel⟩
theorem ok_law_source {P : Program} {w : World} {K : PySem.W.Frag} {mg : Str → Option Value} {base : Heap} {f : Addr} {fd : FuncData} (F : Fun K "_law_source" "_law_source" s_law_source f fd) (b : Binds K fd ["_law_cell_here", "_law_k"] []) (hmg : mg "_law_source" = some (.ref f)) {adr : _root_.Fin 7 → Addr} {B0 : Addr} (Er : Errs K mg nm_ adr B0) (m_int : mg "int" = none) :
    Fn0 P w K mg base CX0 1 "_law_source" 2 (sp_law_source K) := by
  have hsl := sizeLine_eq
  refine ⟨f, fd, ["_law_cell_here", "_law_k"], fn_okM (pre := pre_law_source K) (post := post_law_source K) F sc_law_source b (fun i : (Int × Int) => b_law_source i.1 i.2) (fun i G mc vs h => ?_) (fun cdv A outer s H E i G mc cs vs hr hp => ?_), hmg, F.kp, b, rfl⟩
  · obtain ⟨_, _, h, _⟩ := h
    rw [h]
    rfl
  obtain ⟨cell_here_, k_⟩ := i
  obtain ⟨v0_, v1_, rfl, rfl, h0_, h1_⟩ := hp
  cases h0_
  cases h1_
  show B _ _ _ [some (.int cell_here_), some (.int k_)] G (cs) _ (b_law_source cell_here_ k_)
  unfold b_law_source
  refine b_ifx (t_cmp op_ge (nomark _) (d_var 0 (P := rI cell_here_) rfl rfl) (d_pow (z := 1000000000000000000) d_int d_int ⟨by decide, by decide, by decide⟩ (by decide +kernel)) fun _ _ _ _ _ _ hx hy _ q => c_ge hx hy q) ?_ ?_
  · intro hc1 Gs2 s2
    have dhc1 := hc1
    try simp only [decide_eq_true_eq, decide_eq_false_iff_not, Bool.and_eq_true, Bool.and_eq_false_imp, Bool.or_eq_true, Bool.or_eq_false_iff, Bool.not_eq_true', Bool.not_eq_false', Bool.not_not, ne_eq, Int.not_lt, Int.not_le] at dhc1
    exact b_retC (ec_N (n_lst (r := rI) (xs := [(cell_here_ - 1000000000000000000), (k_ + 1)]) (a_cons (P := rI (cell_here_ - 1000000000000000000)) (d_sub (d_var 0 (P := rI cell_here_) rfl rfl) (d_pow (z := 1000000000000000000) d_int d_int ⟨by decide, by decide, by decide⟩ (by decide +kernel))) (a_cons (P := rI (k_ + 1)) (d_add (d_var 1 (P := rI k_) rfl rfl) d_int) a_nil)) (ls_c (ls_c ls_n))) (fun l4 us5 Gs3 s3 h6 _ => ⟨[], [(l4, HO.lst us5)], (List.Perm.refl _), ⟨_, _, _, _, rfl, rfl, rfl, h6⟩⟩))
  · intro hc1 Gs2 s2
    have dhc1 := hc1
    try simp only [decide_eq_true_eq, decide_eq_false_iff_not, Bool.and_eq_true, Bool.and_eq_false_imp, Bool.or_eq_true, Bool.or_eq_false_iff, Bool.not_eq_true', Bool.not_eq_false', Bool.not_not, ne_eq, Int.not_lt, Int.not_le] at dhc1
    exact b_retC (ec_N (n_lst (r := rI) (xs := [0, ((((cell_here_ * 7919) + (k_ * 104729)) + 1) % 2147483647)]) (a_cons (P := rI 0) d_int (a_cons (P := rI ((((cell_here_ * 7919) + (k_ * 104729)) + 1) % 2147483647)) (d_mod (d_int1 m_int (d_add (d_add (d_mul (d_var 0 (P := rI cell_here_) rfl rfl) d_int (.inr ⟨by omega, by omega⟩)) (d_mul (d_var 1 (P := rI k_) rfl rfl) d_int (.inr ⟨by omega, by omega⟩))) d_int)) d_int (by decide)) a_nil)) (ls_c (ls_c ls_n))) (fun l8 us9 Gs7 s7 h10 _ => ⟨[], [(l8, HO.lst us9)], (List.Perm.refl _), ⟨_, _, _, _, rfl, rfl, rfl, h10⟩⟩))
end Ck28

set_option synthInstance.maxSize 10000
namespace Ck28
open PySem L2 PyProof.Rows J
abbrev s_law_cell : Stmt := PySem.Challenge.pw_corebank_k28_sender.main.body.getD 25 (.Pass ⟨0, 0, 0, 0⟩)
abbrev N_law_cell : List Str := ["_law_script", "_law_k"]
theorem sc_law_cell : FnScope ["_law_script", "_law_k"] ["_law_script", "_law_k"] (defScope s_law_cell) := ⟨rfl, rfl, rfl, by decide +kernel, rfl, by decide +kernel, by decide +kernel⟩
theorem ok_law_cell {P : Program} {w : World} {K : PySem.W.Frag} {mg : Str → Option Value} {base : Heap} {f : Addr} {fd : FuncData} (F : Fun K "_law_cell" "_law_cell" s_law_cell f fd) (b : Binds K fd ["_law_script", "_law_k"] []) (hmg : mg "_law_cell" = some (.ref f)) {adr : _root_.Fin 7 → Addr} {B0 : Addr} (Er : Errs K mg nm_ adr B0) (m_len : mg "len" = none) :
    Fn0 P w K mg base CX0 1 "_law_cell" 2 (sp_law_cell K) := by
  have hsl := sizeLine_eq
  refine fn_mk F sc_law_cell b hmg (fun i : ((List Int) × Int) => b_law_cell i.1 i.2) (fun i G vs h => ?_) (fun cdv A outer s H E i G cs vs hr hp => ?_)
  · obtain ⟨v0_, v1_, h, _⟩ := h
    rw [h]
    rfl
  obtain ⟨script_, k_⟩ := i
  obtain ⟨v0_, v1_, rfl, h0_, h1_, hpre⟩ := hp
  cases h1_
  show B _ _ _ [some v0_, some (.int k_)] G cs _ (b_law_cell script_ k_)
  unfold b_law_cell
  try dsimp only at hpre
  refine b_ifx (t_cmp op_lt (nomark _) (d_var 1 (P := rI k_) rfl rfl) (d_lenL (r := rI) m_len (D.imp (P := (rL K rI) script_) (d_var 0 (P := (rL K rI) script_) rfl h0_) fun _ _ => rdL_of)) fun _ _ _ _ _ _ hx hy _ q => c_lt hx hy q) ?_ ?_
  · intro hc1 Gs2 s2
    have dhc1 := hc1
    try simp only [decide_eq_true_eq, decide_eq_false_iff_not, Bool.and_eq_true, Bool.and_eq_false_imp, Bool.or_eq_true, Bool.or_eq_false_iff, Bool.not_eq_true', Bool.not_eq_false', Bool.not_not, ne_eq, Int.not_lt, Int.not_le] at dhc1
    exact b_ret (P := rI (ixg script_ k_)) (d_ixL (r := rI) (xs := script_) (i := k_) (x := (ixg script_ k_)) (D.imp (P := (rL K rI) script_) (d_var 0 (P := (rL K rI) script_) rfl (Mono.mono s2 h0_)) fun _ _ => rdL_of) (d_var 1 (P := rI k_) rfl rfl) (atI_ixg (by (constructor <;> omega)))) (fun _ _ _ h => ⟨⟨[], rfl⟩, h⟩)
  · intro hc1 Gs2 s2
    have dhc1 := hc1
    try simp only [decide_eq_true_eq, decide_eq_false_iff_not, Bool.and_eq_true, Bool.and_eq_false_imp, Bool.or_eq_true, Bool.or_eq_false_iff, Bool.not_eq_true', Bool.not_eq_false', Bool.not_not, ne_eq, Int.not_lt, Int.not_le] at dhc1
    exact b_ret (P := rI 0) d_int (fun _ _ _ h => ⟨⟨[], rfl⟩, h⟩)
end Ck28

set_option synthInstance.maxSize 10000
namespace Ck28
open PySem L2 PyProof.Rows J
abbrev s_law_is_number : Stmt := PySem.Challenge.pw_corebank_k28_sender.main.body.getD 34 (.Pass ⟨0, 0, 0, 0⟩)
abbrev N_law_is_number : List Str := ["_law_actual", "_law_expected"]
theorem sc_law_is_number : FnScope ["_law_actual", "_law_expected"] ["_law_actual", "_law_expected"] (defScope s_law_is_number) := ⟨rfl, rfl, rfl, by decide +kernel, rfl, by decide +kernel, by decide +kernel⟩
theorem ok_law_is_number {P : Program} {w : World} {K : PySem.W.Frag} {mg : Str → Option Value} {base : Heap} {f : Addr} {fd : FuncData} (F : Fun K "_law_is_number" "_law_is_number" s_law_is_number f fd) (b : Binds K fd ["_law_actual", "_law_expected"] []) (hmg : mg "_law_is_number" = some (.ref f)) {adr : _root_.Fin 7 → Addr} {B0 : Addr} (Er : Errs K mg nm_ adr B0) (m_bool : mg "bool" = none) (m_int : mg "int" = none) (m_isinstance : mg "isinstance" = none) :
    Fn0 P w K mg base CX0 1 "_law_is_number" 2 (sp_law_is_number K) := by
  have hsl := sizeLine_eq
  refine fn_mk F sc_law_is_number b hmg (fun i : (Int × Int) => b_law_is_number i.1 i.2) (fun i G vs h => ?_) (fun cdv A outer s H E i G cs vs hr hp => ?_)
  · obtain ⟨v0_, v1_, h, _⟩ := h
    rw [h]
    rfl
  obtain ⟨actual_, expected_⟩ := i
  obtain ⟨v0_, v1_, rfl, h0_, h1_⟩ := hp
  cases h0_
  cases h1_
  show B _ _ _ [some (.int actual_), some (.int expected_)] G cs _ (b_law_is_number actual_ expected_)
  unfold b_law_is_number
  exact b_ret (P := rB ((true) && (((!false)) && ((decide (actual_ = expected_)))))) (d_and (d_isi (h := (inferInstance : HasTy K rI "int")) (u := "int") (k := true) m_isinstance m_int (d_var 0 (P := rI actual_) rfl rfl)) fun hk2 => (d_and (d_not (d_isi (h := (inferInstance : HasTy K rI "int")) (u := "bool") (k := false) m_isinstance m_bool (d_var 0 (P := rI actual_) rfl rfl))) fun hk1 => (d_one (d_cmp op_eq (nomark _) (d_var 0 (P := rI actual_) rfl rfl) (d_var 1 (P := rI expected_) rfl rfl) fun _ _ _ _ _ _ hx hy _ q => c_eqI hx hy q)))) (fun _ _ _ h => ⟨⟨[], rfl⟩, h⟩)
end Ck28

set_option synthInstance.maxSize 10000
namespace Ck28
open PySem L2 PyProof.Rows J
abbrev s_Sender_waiting : Stmt := inClass (PySem.Challenge.pw_corebank_k28_sender.main.body.getD 23 (.Pass ⟨0, 0, 0, 0⟩)) 2
abbrev N_Sender_waiting : List Str := ["self"]
theorem sc_Sender_waiting : FnScope ["self"] ["self"] (defScope s_Sender_waiting) := ⟨rfl, rfl, rfl, by decide +kernel, rfl, by decide +kernel, by decide +kernel⟩
theorem ok_Sender_waiting {P : Program} {w : World} {K : PySem.W.Frag} {mg : Str → Option Value} {base : Heap} {f : Addr} {fd : FuncData} (F : Fun K "waiting" "Sender.waiting" s_Sender_waiting f fd) (b : Binds K fd ["self"] []) (M : Meth K (clA mg "Sender") "waiting" f) {adr : _root_.Fin 7 → Addr} {B0 : Addr} (Er : Errs K mg nm_ adr B0) (K_Sender : ClsK K (clA mg "Sender") nf_Sender) (m_list : mg "list" = none) :
    Mt0 P w K mg base CX0 1 (clA mg "Sender") "waiting" 1 (sp_Sender_waiting K mg) := by
  have hsl := sizeLine_eq
  refine ⟨f, fd, ["self"], fn_okM (pre := pre_Sender_waiting K mg) (post := post_Sender_waiting K mg) F sc_Sender_waiting b (fun i : ((Mo_Sender) × Cells) => b_Sender_waiting i.1) (fun i G mc vs h => ?_) (fun cdv A outer s H E i G mc cs vs hr hp => ?_), M, b, rfl⟩
  · obtain ⟨_, _, _, _, h, _⟩ := h
    rw [h]
    rfl
  obtain ⟨self_, ro_⟩ := i
  unfold pre_Sender_waiting at hp
  dsimp only at hp
  obtain ⟨a0_, dx0_, l0_, u0_, rfl, rfl, rfl, h0_⟩ := hp
  replace h0_ : Rs rS G self_.2.2.2.2 u0_ := h0_
  show B _ _ _ [some (.ref a0_)] G ((a0_, HO.ins (clA mg "Sender") dx0_ (nf_Sender.zip [.str (SX.S self_.1), .str (SX.S self_.2.1), .int self_.2.2.1, .int self_.2.2.2.1, .ref l0_])) :: (dx0_, HO.own a0_) :: (l0_, HO.lst u0_) :: cs) _ (b_Sender_waiting self_)
  unfold b_Sender_waiting
  exact b_retC (ec_N (n_listL (r := rS) m_list (d_fld 4 (P := rdL K _ rS self_.2.2.2.2) K_Sender (d_var 0 (P := rV (.ref a0_)) rfl rfl) List.mem_cons_self (rdL_cell (List.mem_cons_of_mem _ (List.mem_cons_of_mem _ List.mem_cons_self)) h0_))) (fun l2 us3 Gs1 s1 h4 _ => ⟨[], [(l2, HO.lst us3), (a0_, HO.ins (clA mg "Sender") dx0_ (nf_Sender.zip [.str (SX.S self_.1), .str (SX.S self_.2.1), .int self_.2.2.1, .int self_.2.2.2.1, .ref l0_])), (dx0_, HO.own a0_), (l0_, HO.lst u0_)], (List.Perm.refl _), ⟨_, _, _, rfl, rfl, rfl, h4⟩⟩))
end Ck28

set_option synthInstance.maxSize 10000
namespace Ck28
open PySem L2 PyProof.Rows J
abbrev s_Sender_sent : Stmt := inClass (PySem.Challenge.pw_corebank_k28_sender.main.body.getD 23 (.Pass ⟨0, 0, 0, 0⟩)) 4
abbrev N_Sender_sent : List Str := ["self"]
theorem sc_Sender_sent : FnScope ["self"] ["self"] (defScope s_Sender_sent) := ⟨rfl, rfl, rfl, by decide +kernel, rfl, by decide +kernel, by decide +kernel⟩
theorem ok_Sender_sent {P : Program} {w : World} {K : PySem.W.Frag} {mg : Str → Option Value} {base : Heap} {f : Addr} {fd : FuncData} (F : Fun K "sent" "Sender.sent" s_Sender_sent f fd) (b : Binds K fd ["self"] []) (M : Meth K (clA mg "Sender") "sent" f) {adr : _root_.Fin 7 → Addr} {B0 : Addr} (Er : Errs K mg nm_ adr B0) (K_Sender : ClsK K (clA mg "Sender") nf_Sender) :
    Mt0 P w K mg base CX0 1 (clA mg "Sender") "sent" 1 (sp_Sender_sent K mg) := by
  have hsl := sizeLine_eq
  refine ⟨f, fd, ["self"], fn_okR (pre := pre_Sender_sent K mg) (r := fun _ o => rI o) F sc_Sender_sent (fun i : (Mo_Sender) => b_Sender_sent i) (fun i G mc vs h => ?_) (fun cdv A outer s H E self_ G mc cs vs hr hp => ?_), M, b, rfl⟩
  · obtain ⟨_, _, _, _, h, _⟩ := h
    rw [h]
    rfl
  obtain ⟨a0_, dx0_, l0_, u0_, rfl, rfl, h0_⟩ := hp
  replace h0_ : Rs rS G self_.2.2.2.2 u0_ := h0_
  show B _ _ _ [some (.ref a0_)] G ((a0_, HO.ins (clA mg "Sender") dx0_ (nf_Sender.zip [.str (SX.S self_.1), .str (SX.S self_.2.1), .int self_.2.2.1, .int self_.2.2.2.1, .ref l0_])) :: (dx0_, HO.own a0_) :: (l0_, HO.lst u0_) :: cs) _ (b_Sender_sent self_)
  unfold b_Sender_sent
  exact b_ret (P := rI self_.2.2.1) (d_fld 2 (P := rI self_.2.2.1) K_Sender (d_var 0 (P := rV (.ref a0_)) rfl rfl) List.mem_cons_self rfl) (fun _ _ _ h => ⟨⟨[], rfl⟩, h⟩)
end Ck28

set_option synthInstance.maxSize 10000
namespace Ck28
open PySem L2 PyProof.Rows J
abbrev s_Sender_acknowledged : Stmt := inClass (PySem.Challenge.pw_corebank_k28_sender.main.body.getD 23 (.Pass ⟨0, 0, 0, 0⟩)) 5
abbrev N_Sender_acknowledged : List Str := ["self"]
theorem sc_Sender_acknowledged : FnScope ["self"] ["self"] (defScope s_Sender_acknowledged) := ⟨rfl, rfl, rfl, by decide +kernel, rfl, by decide +kernel, by decide +kernel⟩
theorem ok_Sender_acknowledged {P : Program} {w : World} {K : PySem.W.Frag} {mg : Str → Option Value} {base : Heap} {f : Addr} {fd : FuncData} (F : Fun K "acknowledged" "Sender.acknowledged" s_Sender_acknowledged f fd) (b : Binds K fd ["self"] []) (M : Meth K (clA mg "Sender") "acknowledged" f) {adr : _root_.Fin 7 → Addr} {B0 : Addr} (Er : Errs K mg nm_ adr B0) (K_Sender : ClsK K (clA mg "Sender") nf_Sender) :
    Mt0 P w K mg base CX0 1 (clA mg "Sender") "acknowledged" 1 (sp_Sender_acknowledged K mg) := by
  have hsl := sizeLine_eq
  refine ⟨f, fd, ["self"], fn_okR (pre := pre_Sender_acknowledged K mg) (r := fun _ o => rI o) F sc_Sender_acknowledged (fun i : (Mo_Sender) => b_Sender_acknowledged i) (fun i G mc vs h => ?_) (fun cdv A outer s H E self_ G mc cs vs hr hp => ?_), M, b, rfl⟩
  · obtain ⟨_, _, _, _, h, _⟩ := h
    rw [h]
    rfl
  obtain ⟨a0_, dx0_, l0_, u0_, rfl, rfl, h0_⟩ := hp
  replace h0_ : Rs rS G self_.2.2.2.2 u0_ := h0_
  show B _ _ _ [some (.ref a0_)] G ((a0_, HO.ins (clA mg "Sender") dx0_ (nf_Sender.zip [.str (SX.S self_.1), .str (SX.S self_.2.1), .int self_.2.2.1, .int self_.2.2.2.1, .ref l0_])) :: (dx0_, HO.own a0_) :: (l0_, HO.lst u0_) :: cs) _ (b_Sender_acknowledged self_)
  unfold b_Sender_acknowledged
  exact b_ret (P := rI self_.2.2.2.1) (d_fld 3 (P := rI self_.2.2.2.1) K_Sender (d_var 0 (P := rV (.ref a0_)) rfl rfl) List.mem_cons_self rfl) (fun _ _ _ h => ⟨⟨[], rfl⟩, h⟩)
end Ck28

set_option synthInstance.maxSize 10000
namespace Ck28
open PySem L2 PyProof.Rows J
abbrev s_law_agrees : Stmt := PySem.Challenge.pw_corebank_k28_sender.main.body.getD 40 (.Pass ⟨0, 0, 0, 0⟩)
abbrev N_law_agrees : List Str := ["_law_end", "_law_sent", "_law_dropped", "_law_waits"]
theorem sc_law_agrees : FnScope ["_law_end", "_law_sent", "_law_dropped", "_law_waits"] ["_law_end", "_law_sent", "_law_dropped"] (defScope s_law_agrees) := ⟨rfl, rfl, rfl, by decide +kernel, rfl, by decide +kernel, by decide +kernel⟩
theorem ok_law_agrees {P : Program} {w : World} {K : PySem.W.Frag} {mg : Str → Option Value} {base : Heap} {f : Addr} {fd : FuncData} (F : Fun K "_law_agrees" "_law_agrees" s_law_agrees f fd) (b : Binds K fd ["_law_end", "_law_sent", "_law_dropped"] []) (hmg : mg "_law_agrees" = some (.ref f)) {adr : _root_.Fin 7 → Addr} {B0 : Addr} (Er : Errs K mg nm_ adr B0) (K_Sender : ClsK K (clA mg "Sender") nf_Sender) (m_isinstance : mg "isinstance" = none) (m_len : mg "len" = none) (m_list : mg "list" = none) (F_Sender_acknowledged : Mt0 P w K mg base CX0 1 (clA mg "Sender") "acknowledged" 1 (sp_Sender_acknowledged K mg)) (F_Sender_sent : Mt0 P w K mg base CX0 1 (clA mg "Sender") "sent" 1 (sp_Sender_sent K mg)) (F_Sender_waiting : Mt0 P w K mg base CX0 1 (clA mg "Sender") "waiting" 1 (sp_Sender_waiting K mg)) (F_law_is_number : Fn0 P w K mg base CX0 1 "_law_is_number" 2 (sp_law_is_number K)) :
    Fn0 P w K mg base CX0 2 "_law_agrees" 3 (sp_law_agrees K mg) := by
  have hsl := sizeLine_eq
  refine ⟨f, fd, ["_law_end", "_law_sent", "_law_dropped"], fn_okR (pre := pre_law_agrees K mg) (r := fun _ o => rB o) F sc_law_agrees (fun i : (Mo_Sender × (List (List Nat)) × Int) => b_law_agrees i.1 i.2.1 i.2.2) (fun i G mc vs h => ?_) (fun cdv A outer s H E i G mc cs vs hr hp => ?_), hmg, F.kp, b, rfl⟩
  · obtain ⟨_, _, _, _, _, _, _, h, _⟩ := h
    rw [h]
    rfl
  obtain ⟨end_, sent_, dropped_⟩ := i
  obtain ⟨v2_, a0_, dx0_, l0_, u0_, a1_, u1_, rfl, rfl, h0_, h1_, h2_, hpre⟩ := hp
  replace h0_ : Rs rS G end_.2.2.2.2 u0_ := h0_
  replace h1_ : Rs rS G sent_ u1_ := h1_
  cases h2_
  show B _ _ _ [some (.ref a0_), some (.ref a1_), some (.int dropped_), none] G ((a0_, HO.ins (clA mg "Sender") dx0_ (nf_Sender.zip [.str (SX.S end_.1), .str (SX.S end_.2.1), .int end_.2.2.1, .int end_.2.2.2.1, .ref l0_])) :: (dx0_, HO.own a0_) :: (l0_, HO.lst u0_) :: (a1_, HO.lst u1_) :: cs) _ (b_law_agrees end_ sent_ dropped_)
  unfold b_law_agrees
  try dsimp only at hpre
  refine letV_intro (fun r2 er2 => ?_)
  try have wr2 : r2.length ≤ 2000 := by rw [er2]; exact (Snd.names (by assumption)).2.2
  refine b_setC 3 sc_law_agrees.nd ?_
  refine ec_methM0 F_Sender_waiting K_Sender.cl hr (by decide) (d_var 0 (P := rV (.ref a0_)) rfl rfl) List.mem_cons_self (lookup_zip_no (by decide +kernel)) ?_
  intro Gs1 s1
  refine ⟨((end_), [(a0_, HO.ins (clA mg "Sender") dx0_ (nf_Sender.zip [.str (SX.S end_.1), .str (SX.S end_.2.1), .int end_.2.2.1, .int end_.2.2.2.1, .ref l0_])), (dx0_, HO.own a0_), (l0_, HO.lst u0_)]), [(a0_, HO.ins (clA mg "Sender") dx0_ (nf_Sender.zip [.str (SX.S end_.1), .str (SX.S end_.2.1), .int end_.2.2.1, .int end_.2.2.2.1, .ref l0_])), (dx0_, HO.own a0_), (l0_, HO.lst u0_)], (a1_, HO.lst u1_) :: cs, (List.Perm.refl _), ⟨_, _, _, _, rfl, rfl, rfl, (Rs.mono s1 h0_)⟩, ?_⟩
  rintro _ Gs3 mc4 s3 ⟨a5, l7, us8, e_, rfl, rfl, h9⟩
  cases e_
  have h10 : Rs rS Gs3 r2 us8 := by rw [er2]; exact h9
  refine ⟨(l7, HO.lst us8) :: (a0_, HO.ins (clA mg "Sender") dx0_ (nf_Sender.zip [.str (SX.S end_.1), .str (SX.S end_.2.1), .int end_.2.2.1, .int end_.2.2.2.1, .ref l0_])) :: (dx0_, HO.own a0_) :: (l0_, HO.lst u0_) :: (a1_, HO.lst u1_) :: cs, (List.Perm.refl _), ?_⟩
  intro _
  refine letV_intro (fun waits_11 ewaits_11 => ?_)
  have h12 : Rs rS Gs3 waits_11 us8 := by rw [ewaits_11]; exact h10
  have hzs13 := h12
  refine b_freeze 0 rfl (fun s13 h14 => ?_)
  have kh14 : (rL K rS) waits_11 _ (.ref l7) := ⟨_, _, rfl, SqL.of h14, Rs.mono s13 hzs13⟩
  refine b_ifx (t_w (w_or (t_not (t_val (d_isi (h := (inferInstance : HasTy K (rL K rS) "list")) (u := "list") (k := true) m_isinstance m_list (d_var 3 (P := (rL K rS) waits_11) rfl kh14)))) fun hk17 => (w_or1 (t_neD (K := K) (r := (rL K rS)) hr (d_var 3 (P := (rL K rS) waits_11) rfl kh14) (d_new (n_slL (r := rS) (d_var 1 (P := rdL K _ rS sent_) rfl (rdL_cell (List.mem_cons_of_mem _ (List.mem_cons_of_mem _ (List.mem_cons_of_mem _ List.mem_cons_self))) (Rs.mono (s1.trans (s3.trans s13)) h1_))) (do_some (d_var 2 (P := rI dropped_) rfl rfl)) do_none)) (by first | (rw [ewaits_11, er2]; exact fun f hf c hc => Nat.lt_trans (hpre.1 f hf c hc) (by decide)) | exact fun f hf c hc => Nat.lt_trans (hpre.2 f (cutL_mem hf) c hc) (by decide)) (by first | (rw [ewaits_11, er2]; exact fun f hf c hc => Nat.lt_trans (hpre.1 f hf c hc) (by decide)) | exact fun f hf c hc => Nat.lt_trans (hpre.2 f (cutL_mem hf) c hc) (by decide)))))) ?_ ?_
  · intro hc15 Gs16 s16
    have dhc15 := hc15
    try simp only [decide_eq_true_eq, decide_eq_false_iff_not, Bool.and_eq_true, Bool.and_eq_false_imp, Bool.or_eq_true, Bool.or_eq_false_iff, Bool.not_eq_true', Bool.not_eq_false', Bool.not_not, ne_eq, Int.not_lt, Int.not_le] at dhc15
    exact b_ret (P := rB false) d_bl (fun _ _ _ h => ⟨⟨[], rfl⟩, h⟩)
  · intro hc15 Gs16 s16
    have dhc15 := hc15
    try simp only [decide_eq_true_eq, decide_eq_false_iff_not, Bool.and_eq_true, Bool.and_eq_false_imp, Bool.or_eq_true, Bool.or_eq_false_iff, Bool.not_eq_true', Bool.not_eq_false', Bool.not_not, ne_eq, Int.not_lt, Int.not_le] at dhc15
    exact b_ret (P := rB (((m_law_is_number (m_Sender_sent end_) (sent_.length : Int))) && ((m_law_is_number (m_Sender_acknowledged end_) dropped_)))) (d_and (d_callQ (P := rB (m_law_is_number (m_Sender_sent end_) (sent_.length : Int))) ((m_Sender_sent end_), (sent_.length : Int)) F_law_is_number hr (by decide) (a_cons (P := rI (m_Sender_sent end_)) (d_methR0 (P := rI (m_Sender_sent end_)) (end_) F_Sender_sent K_Sender.cl hr (by decide) (d_var 0 (P := rV (.ref a0_)) rfl rfl) List.mem_cons_self (lookup_zip_no (by decide +kernel)) (fun _ s_ => by exact ⟨[(a0_, HO.ins (clA mg "Sender") dx0_ (nf_Sender.zip [.str (SX.S end_.1), .str (SX.S end_.2.1), .int end_.2.2.1, .int end_.2.2.2.1, .ref l0_])), (dx0_, HO.own a0_), (l0_, HO.lst u0_)], (a1_, HO.lst u1_) :: cs, (List.Perm.refl _), ⟨_, _, _, _, rfl, rfl, (Rs.mono (s13.trans (s16.trans s_)) h0_)⟩⟩) fun _ _ h => h) (a_cons (P := rI (sent_.length : Int)) (d_lenL (r := rS) m_len (d_var 1 (P := rdL K _ rS sent_) rfl (rdL_cell (List.mem_cons_of_mem _ (List.mem_cons_of_mem _ (List.mem_cons_of_mem _ List.mem_cons_self))) (Rs.mono (s1.trans (s3.trans (s13.trans s16))) h1_)))) a_nil)) (fun _ _ _ h => by obtain ⟨v0, w0, rfl, h0, v1, w1, rfl, h1, rfl⟩ := h; exact ⟨v0, v1, rfl, h0, h1⟩) fun _ _ h => h) fun hk18 => (d_one (d_callQ (P := rB (m_law_is_number (m_Sender_acknowledged end_) dropped_)) ((m_Sender_acknowledged end_), dropped_) F_law_is_number hr (by decide) (a_cons (P := rI (m_Sender_acknowledged end_)) (d_methR0 (P := rI (m_Sender_acknowledged end_)) (end_) F_Sender_acknowledged K_Sender.cl hr (by decide) (d_var 0 (P := rV (.ref a0_)) rfl rfl) List.mem_cons_self (lookup_zip_no (by decide +kernel)) (fun _ s_ => by exact ⟨[(a0_, HO.ins (clA mg "Sender") dx0_ (nf_Sender.zip [.str (SX.S end_.1), .str (SX.S end_.2.1), .int end_.2.2.1, .int end_.2.2.2.1, .ref l0_])), (dx0_, HO.own a0_), (l0_, HO.lst u0_)], (a1_, HO.lst u1_) :: cs, (List.Perm.refl _), ⟨_, _, _, _, rfl, rfl, (Rs.mono (s13.trans (s16.trans s_)) h0_)⟩⟩) fun _ _ h => h) (a_cons (P := rI dropped_) (d_var 2 (P := rI dropped_) rfl rfl) a_nil)) (fun _ _ _ h => by obtain ⟨v0, w0, rfl, h0, v1, w1, rfl, h1, rfl⟩ := h; exact ⟨v0, v1, rfl, h0, h1⟩) fun _ _ h => h))) (fun _ _ _ h => ⟨⟨[], rfl⟩, h⟩)
end Ck28

set_option synthInstance.maxSize 10000
namespace Ck28
open PySem L2 PyProof.Rows J
abbrev s_law_kind : Stmt := PySem.Challenge.pw_corebank_k28_sender.main.body.getD 36 (.Pass ⟨0, 0, 0, 0⟩)
abbrev N_law_kind : List Str := ["_law_source_here", "_law_kind_here"]
theorem sc_law_kind : FnScope ["_law_source_here", "_law_kind_here"] ["_law_source_here"] (defScope s_law_kind) := ⟨rfl, rfl, rfl, by decide +kernel, rfl, by decide +kernel, by decide +kernel⟩
theorem ok_law_kind {P : Program} {w : World} {K : PySem.W.Frag} {mg : Str → Option Value} {base : Heap} {f : Addr} {fd : FuncData} (F : Fun K "_law_kind" "_law_kind" s_law_kind f fd) (b : Binds K fd ["_law_source_here"] []) (hmg : mg "_law_kind" = some (.ref f)) {adr : _root_.Fin 7 → Addr} {B0 : Addr} (Er : Errs K mg nm_ adr B0) (F_law_name : Fn0 P w K mg base CX0 2 "_law_name" 1 (sp_law_name K)) (F_law_pick : Fn0 P w K mg base CX0 1 "_law_pick" 2 (sp_law_pick K)) :
    Fn0 P w K mg base CX0 3 "_law_kind" 1 (sp_law_kind K) := by
  have hsl := sizeLine_eq
  refine ⟨f, fd, ["_law_source_here"], fn_okM (pre := pre_law_kind K) (post := post_law_kind K) F sc_law_kind b (fun i : ((List Int)) => b_law_kind i) (fun i G mc vs h => ?_) (fun cdv A outer s H E source_here_ G mc cs vs hr hp => ?_), hmg, F.kp, b, rfl⟩
  · obtain ⟨_, _, h, _⟩ := h
    rw [h]
    rfl
  obtain ⟨a0_, u0_, rfl, rfl, h0_, hpre⟩ := hp
  replace h0_ : Rs rI G source_here_ u0_ := h0_
  show B _ _ _ [some (.ref a0_), none] G ((a0_, HO.lst u0_) :: cs) _ (b_law_kind source_here_)
  unfold b_law_kind
  try dsimp only at hpre
  refine letV_intro (fun r15 er15 => ?_)
  have fr15 := name_ok (s := source_here_) (by first | assumption | omega)
  rw [← er15] at fr15
  obtain ⟨lr15, ar15⟩ := fr15
  have a1r15 := ar15.1
  have a2r15 := ar15.2.1
  refine letV_intro (fun r35 er35 => ?_)
  have fr35 := pick_ok (s := r15.2) (n := 5) (by first | assumption | omega) (by omega)
  rw [← er35] at fr35
  obtain ⟨lr35, ar35, br35⟩ := fr35
  refine b_setC 1 sc_law_kind.nd ?_
  refine ec_ix ix_list ?_
  refine ec_lst ?_
  refine ac_cons ?_
  refine ec_D (P := rS [112, 97, 121]) (d_str (l := [112, 97, 121]) (by decide +kernel)) (fun v2 Gs1 s1 h3 => ?_)
  refine ac_cons ?_
  refine ec_D (P := rS [97, 99, 107, 115]) (d_str (l := [97, 99, 107, 115]) (by decide +kernel)) (fun v5 Gs4 s4 h6 => ?_)
  refine ac_cons ?_
  refine ec_D (P := rS [97, 99]) (d_str (l := [97, 99]) (by decide +kernel)) (fun v8 Gs7 s7 h9 => ?_)
  refine ac_cons ?_
  refine ec_D (P := rS [97]) (d_str (l := [97]) (by decide +kernel)) (fun v11 Gs10 s10 h12 => ?_)
  refine ac_cons ?_
  refine ec_callM F_law_name hr (by decide) ?_
  refine ac_cons ?_
  refine ec_D (P := rV (.ref a0_)) (d_var 0 (P := rV (.ref a0_)) rfl rfl) (fun v_ Gs13 s13 hv_ => ?_)
  cases hv_
  refine ac_nil' (fun Gs14 s14 => ?_)
  refine ⟨(source_here_), [(a0_, HO.lst u0_)], cs, (List.Perm.refl _), ⟨_, _, rfl, rfl, (Rs.mono (s1.trans (s4.trans (s7.trans (s10.trans (s13.trans s14))))) h0_), (by (try dsimp only); first | assumption | omega | (refine ⟨?_, ?_⟩ <;> omega) | (refine ⟨?_, ?_, ?_⟩ <;> omega) | simp_all)⟩, ?_⟩
  rintro v21 Gs16 mc17 s16 ⟨a18, us19, e_, rfl, h20, h22⟩
  cases e_
  have h23 : Rs rI Gs16 r15.2 us19 := by rw [er15]; exact h20
  have h24 : rS r15.1 Gs16 v21 := by rw [er15]; exact h22
  refine ⟨(a0_, HO.lst us19) :: cs, (List.Perm.refl _), ?_⟩
  refine ac_nil' (fun Gs25 s25 => ⟨Nat.le_of_ble_eq_true rfl, fun l27 Gs26 s26 hl28 => ?_⟩)
  have h29 : (rL K rS) [[112, 97, 121], [97, 99, 107, 115], [97, 99], [97], r15.1] Gs26 (.ref l27) := ⟨l27, _, rfl, hl28, (.cons (Mono.mono (s4.trans (s7.trans (s10.trans (s13.trans (s14.trans (s16.trans (s25.trans s26))))))) h3) (.cons (Mono.mono (s7.trans (s10.trans (s13.trans (s14.trans (s16.trans (s25.trans s26)))))) h6) (.cons (Mono.mono (s10.trans (s13.trans (s14.trans (s16.trans (s25.trans s26))))) h9) (.cons (Mono.mono (s13.trans (s14.trans (s16.trans (s25.trans s26)))) h12) (.cons (Mono.mono (s25.trans s26) h24) .nil)))))⟩
  refine ec_callM F_law_pick hr (by decide) ?_
  refine ac_cons ?_
  refine ec_D (P := rV (.ref a0_)) (d_var 0 (P := rV (.ref a0_)) rfl rfl) (fun v_ Gs30 s30 hv_ => ?_)
  cases hv_
  refine ac_cons ?_
  refine ec_D (P := rI 5) d_int (fun v32 Gs31 s31 h33 => ?_)
  refine ac_nil' (fun Gs34 s34 => ?_)
  refine ⟨(r15.2, 5), [(a0_, HO.lst us19)], cs, (List.Perm.refl _), ⟨_, _, _, rfl, rfl, (Rs.mono (s25.trans (s26.trans (s30.trans (s31.trans s34)))) h23), (Mono.mono s34 h33), (by exact ⟨by first | assumption | omega, by first | omega | (dsimp only; omega), by first | omega | (dsimp only; omega)⟩)⟩, ?_⟩
  rintro v42 Gs36 mc37 s36 ⟨v38, a39, us40, e_, rfl, h41, h43⟩
  cases e_
  have h44 : Rs rI Gs36 r35.2 us40 := by rw [er35]; exact h41
  have h45 : rI r35.1 Gs36 v42 := by rw [er35]; exact h43
  refine ⟨(a0_, HO.lst us40) :: cs, (List.Perm.refl _), ?_⟩
  refine rc_ixL (r := rS) (xs := [[112, 97, 121], [97, 99, 107, 115], [97, 99], [97], r15.1]) (i := r35.1) (u := (ixg [[112, 97, 121], [97, 99, 107, 115], [97, 99], [97], r15.1] r35.1)) (rdL_of (Mono.mono (s30.trans (s31.trans (s34.trans s36))) h29)) h45 (atI_ixg (by first | (constructor <;> omega) | (simp only [List.length_cons, List.length_nil]; constructor <;> omega) | exact ix_mod (by omega) | (simp only [decide_eq_true_eq, decide_eq_false_iff_not] at *; constructor <;> omega) | (simp only [decide_eq_true_eq, decide_eq_false_iff_not, Bool.and_eq_true, Bool.or_eq_true, Bool.or_eq_false_iff, Bool.not_eq_true', Bool.not_eq_false', Bool.not_not, ne_eq, Int.not_lt, Int.not_le] at *; constructor <;> omega))) (fun v47 Gs46 s46 h48 => ?_)
  intro _
  refine letV_intro (fun kind_here_49 ekind_here_49 => ?_)
  have h50 : rS kind_here_49 Gs46 v47 := by rw [ekind_here_49]; exact h48
  have hq_ : (v47 : V) = .str (SX.S kind_here_49) := h50
  rw [hq_]
  refine b_ifx (t_cmp op_eq (nomark _) (d_var 1 (P := rS kind_here_49) rfl rfl) (d_str (l := [97, 99, 107]) (by decide +kernel)) fun _ _ _ _ _ _ hx hy _ q => c_eqS hx hy q) ?_ ?_
  · intro hc51 Gs52 s52
    have dhc51 := hc51
    try simp only [decide_eq_true_eq, decide_eq_false_iff_not, Bool.and_eq_true, Bool.and_eq_false_imp, Bool.or_eq_true, Bool.or_eq_false_iff, Bool.not_eq_true', Bool.not_eq_false', Bool.not_not, ne_eq, Int.not_lt, Int.not_le] at dhc51
    exact b_ret (P := rS [112, 97, 121]) (d_str (l := [112, 97, 121]) (by decide +kernel)) (fun v_ Gs53 s53 h_ => ⟨[], [(a0_, HO.lst us40)], (List.Perm.refl _), ⟨_, _, rfl, rfl, (Rs.mono (s46.trans (s52.trans s53)) h44), h_⟩⟩)
  · intro hc51 Gs52 s52
    have dhc51 := hc51
    try simp only [decide_eq_true_eq, decide_eq_false_iff_not, Bool.and_eq_true, Bool.and_eq_false_imp, Bool.or_eq_true, Bool.or_eq_false_iff, Bool.not_eq_true', Bool.not_eq_false', Bool.not_not, ne_eq, Int.not_lt, Int.not_le] at dhc51
    exact b_ret (P := rS kind_here_49) (d_var 1 (P := rS kind_here_49) rfl rfl) (fun v_ Gs54 s54 h_ => ⟨[], [(a0_, HO.lst us40)], (List.Perm.refl _), ⟨_, _, rfl, rfl, (Rs.mono (s46.trans (s52.trans s54)) h44), h_⟩⟩)
end Ck28

set_option synthInstance.maxSize 10000
namespace Ck28
open PySem L2 PyProof.Rows J
abbrev s_law_text : Stmt := PySem.Challenge.pw_corebank_k28_sender.main.body.getD 29 (.Pass ⟨0, 0, 0, 0⟩)
abbrev N_law_text : List Str := ["_law_source_here", "_law_most", "_law_signs", "_law_size", "_law_k"]
theorem sc_law_text : FnScope ["_law_source_here", "_law_most", "_law_signs", "_law_size", "_law_k"] ["_law_source_here", "_law_most"] (defScope s_law_text) := ⟨rfl, rfl, rfl, by decide +kernel, rfl, by decide +kernel, by decide +kernel⟩
theorem ok_law_text {P : Program} {w : World} {K : PySem.W.Frag} {mg : Str → Option Value} {base : Heap} {f : Addr} {fd : FuncData} (F : Fun K "_law_text" "_law_text" s_law_text f fd) (b : Binds K fd ["_law_source_here", "_law_most"] []) (hmg : mg "_law_text" = some (.ref f)) {adr : _root_.Fin 7 → Addr} {B0 : Addr} (Er : Errs K mg nm_ adr B0) (m_len : mg "len" = none) (m_range : mg "range" = none) (F_law_pick : Fn0 P w K mg base CX0 1 "_law_pick" 2 (sp_law_pick K)) :
    Fn0 P w K mg base CX0 2 "_law_text" 2 (sp_law_text K) := by
  have hsl := sizeLine_eq
  refine ⟨f, fd, ["_law_source_here", "_law_most"], fn_okM (pre := pre_law_text K) (post := post_law_text K) F sc_law_text b (fun i : ((List Int) × Int) => b_law_text i.1 i.2) (fun i G mc vs h => ?_) (fun cdv A outer s H E i G mc cs vs hr hp => ?_), hmg, F.kp, b, rfl⟩
  · obtain ⟨_, _, _, h, _⟩ := h
    rw [h]
    rfl
  obtain ⟨source_here_, most_⟩ := i
  obtain ⟨v1_, a0_, u0_, rfl, rfl, h0_, h1_, hpre⟩ := hp
  replace h0_ : Rs rI G source_here_ u0_ := h0_
  cases h1_
  show B _ _ _ [some (.ref a0_), some (.int most_), none, none, none] G ((a0_, HO.lst u0_) :: cs) _ (b_law_text source_here_ most_)
  unfold b_law_text
  try dsimp only at hpre
  have hl := hpre.1
  have hm1 := hpre.2.1
  have hm2 := hpre.2.2
  refine b_setV (r := rS) 2 sc_law_text.nd (d_str (l := [32, 33, 34, 35, 36, 38, 39, 40, 41, 42, 43, 44, 45, 46, 47, 48, 49, 50, 51, 52, 53, 54, 55, 56, 57, 58, 59, 60, 61, 62, 63, 64, 65, 66, 67, 68, 69, 70, 71, 72, 73, 74, 75, 76, 77, 78, 79, 80, 81, 82, 83, 84, 85, 86, 87, 88, 89, 90, 91, 92, 93, 94, 95, 96]) (by decide +kernel)) (fun signs_1 esigns_1 v3 Gs2 s2 h4 => ?_)
  cases h4
  have hsg : signs_1.length = 64 := by rw [esigns_1]; rfl
  refine b_setV (r := rS) 2 sc_law_text.nd (d_cat (d_var 2 (P := rS signs_1) rfl rfl) (d_str (l := [97, 98, 99, 100, 101, 102, 103, 104, 105, 106, 107, 108, 109, 110, 111, 112, 113, 114, 115, 116, 117, 118, 119, 120, 121, 122, 123, 125, 126]) (by decide +kernel)) (by (simp only [List.length_cons, List.length_nil]; omega))) (fun signs_5 esigns_5 v7 Gs6 s6 h8 => ?_)
  cases h8
  have hsg2 : signs_5.length = 93 := by rw [esigns_5, List.length_append, hsg]; rfl
  have hsf : signs_5 = fsg := by rw [esigns_5, esigns_1]; rfl
  refine letV_intro (fun r14 er14 => ?_)
  have fr14 := pick_ok (s := source_here_) (n := 5) (by first | assumption | omega) (by omega)
  rw [← er14] at fr14
  obtain ⟨lr14, ar14, br14⟩ := fr14
  refine b_setC 3 sc_law_text.nd ?_
  refine ec_callM F_law_pick hr (by decide) ?_
  refine ac_cons ?_
  refine ec_D (P := rV (.ref a0_)) (d_var 0 (P := rV (.ref a0_)) rfl rfl) (fun v_ Gs9 s9 hv_ => ?_)
  cases hv_
  refine ac_cons ?_
  refine ec_D (P := rI 5) d_int (fun v11 Gs10 s10 h12 => ?_)
  refine ac_nil' (fun Gs13 s13 => ?_)
  refine ⟨(source_here_, 5), [(a0_, HO.lst u0_)], cs, (List.Perm.refl _), ⟨_, _, _, rfl, rfl, (Rs.mono (s2.trans (s6.trans (s9.trans (s10.trans s13)))) h0_), (Mono.mono s13 h12), (by exact ⟨by first | assumption | omega, by first | omega | (dsimp only; omega), by first | omega | (dsimp only; omega)⟩)⟩, ?_⟩
  rintro v21 Gs15 mc16 s15 ⟨v17, a18, us19, e_, rfl, h20, h22⟩
  cases e_
  have h23 : Rs rI Gs15 r14.2 us19 := by rw [er14]; exact h20
  have h24 : rI r14.1 Gs15 v21 := by rw [er14]; exact h22
  refine ⟨(a0_, HO.lst us19) :: cs, (List.Perm.refl _), ?_⟩
  intro _
  refine letV_intro (fun size_25 esize_25 => ?_)
  have h26 : rI size_25 Gs15 v21 := by rw [esize_25]; exact h24
  have hq_ : (v21 : V) = .int size_25 := h26
  rw [hq_]
  refine b_if (S' := (Int × (List Int))) (fun (z29 : (Int × (List Int))) σ_ G_ cs_ => ∃ us30 : List V, ∃ o32 : Option V, σ_ = [some (.ref a0_), some (.int most_), some (.str (SX.S signs_5)), some (.int z29.1), o32] ∧ (a0_, HO.lst us30) :: cs = cs_ ∧ Rs rI G_ z29.2 us30 ∧ (z29.2.length = 2)) (t_cmp op_eq (nomark _) (d_var 3 (P := rI size_25) rfl rfl) d_int fun _ _ _ _ _ _ hx hy _ q => c_eqI hx hy q) ?_ ?_ ?_
  · intro hc27 Gs28 s28
    have dhc27 := hc27
    try simp only [decide_eq_true_eq, decide_eq_false_iff_not, Bool.and_eq_true, Bool.and_eq_false_imp, Bool.or_eq_true, Bool.or_eq_false_iff, Bool.not_eq_true', Bool.not_eq_false', Bool.not_not, ne_eq, Int.not_lt, Int.not_le] at dhc27
    refine letV_intro (fun r38 er38 => ?_)
    have fr38 := pick_ok (s := r14.2) (n := (most_ + 1)) (by first | assumption | omega) (by omega)
    rw [← er38] at fr38
    obtain ⟨lr38, ar38, br38⟩ := fr38
    refine b_setC 3 sc_law_text.nd ?_
    refine ec_callM F_law_pick hr (by decide) ?_
    refine ac_cons ?_
    refine ec_D (P := rV (.ref a0_)) (d_var 0 (P := rV (.ref a0_)) rfl rfl) (fun v_ Gs33 s33 hv_ => ?_)
    cases hv_
    refine ac_cons ?_
    refine ec_D (P := rI (most_ + 1)) (d_add (d_var 1 (P := rI most_) rfl rfl) d_int) (fun v35 Gs34 s34 h36 => ?_)
    refine ac_nil' (fun Gs37 s37 => ?_)
    refine ⟨(r14.2, (most_ + 1)), [(a0_, HO.lst us19)], cs, (List.Perm.refl _), ⟨_, _, _, rfl, rfl, (Rs.mono (s28.trans (s33.trans (s34.trans s37))) h23), (Mono.mono s37 h36), (by exact ⟨by first | assumption | omega, by first | omega | (dsimp only; omega), by first | omega | (dsimp only; omega)⟩)⟩, ?_⟩
    rintro v45 Gs39 mc40 s39 ⟨v41, a42, us43, e_, rfl, h44, h46⟩
    cases e_
    have h47 : Rs rI Gs39 r38.2 us43 := by rw [er38]; exact h44
    have h48 : rI r38.1 Gs39 v45 := by rw [er38]; exact h46
    refine ⟨(a0_, HO.lst us43) :: cs, (List.Perm.refl _), ?_⟩
    intro _
    refine letV_intro (fun size_49 esize_49 => ?_)
    have h50 : rI size_49 Gs39 v45 := by rw [esize_49]; exact h48
    have hq_ : (v45 : V) = .int size_49 := h50
    rw [hq_]
    exact b_nil (by refine ⟨_, _, rfl, rfl, h47, (by first | assumption | omega | (simp only [List.length_cons, List.length_nil] at *; omega))⟩)
  · intro hc27 Gs28 s28
    have dhc27 := hc27
    try simp only [decide_eq_true_eq, decide_eq_false_iff_not, Bool.and_eq_true, Bool.and_eq_false_imp, Bool.or_eq_true, Bool.or_eq_false_iff, Bool.not_eq_true', Bool.not_eq_false', Bool.not_not, ne_eq, Int.not_lt, Int.not_le] at dhc27
    exact b_nil (by refine ⟨_, _, rfl, rfl, (Rs.mono s28 h23), (by first | assumption | omega | (simp only [List.length_cons, List.length_nil] at *; omega))⟩)
  · intro z29 _ _ _ sz29 hNz29 hmz29
    obtain ⟨us30, o32, rfl, rfl, h31, hiz29_1⟩ := hNz29
    have hjz29 : 0 ≤ z29.1 ∧ z29.1 ≤ 100 := by (try unfold letV at hmz29); (try split at hmz29) <;> cases hmz29 <;> ((have q := pick_ok (n := most_ + 1) lr14 (by omega); dsimp only; omega))
    refine letV_intro (fun r85 er85 => ?_)
    have hlc : r85.2.length = 2 ∧ ∀ w ∈ r85.1, w.length = 1 ∧ ∀ c ∈ w, Fld c := by rw [er85, hsf]; exact map_text (by assumption)
    have hll : r85.1.length ≤ 100 := by rw [er85, mapS_length, rng_length]; omega
    refine b_retC ?_
    refine ec_join (d_str (l := []) (by decide +kernel)) ?_
    refine ec_lc (own := [("_law_k", 4)]) (xs := (rng 0 z29.1)) (r := rS) (f := (lc_law_text_1 signs_5)) (s0 := (z29.2)) (C := fun _ => True) (fun (z53 : ((List Int))) G_ cs_ => ∃ us56 : List V, cs_ = (a0_, HO.lst us56) :: cs ∧ Rs rI G_ z53 us56 ∧ (z53.length = 2)) rfl sc_law_text.nd (blkOk_by (N := N_law_text) (sc := defScope s_law_text) (by decide +kernel)) (i_rng1 m_range (d_var 3 (P := rI z29.1) rfl rfl) (by omega) (by omega)) (tgb_name 4 sc_law_text.nd) (fun _ s_ => ⟨us30, rfl, (Rs.mono s_ h31), (by first | assumption | omega | (simp only [List.length_cons, List.length_nil] at *; omega))⟩) (fun _ _ _ _ _ _ => trivial) (by rintro _ _ _ ⟨_, _, e⟩; subst e; exact wipe1) ?_ (by (rw [rng_length]; omega)) ?_
    · intro pre_ x54 post_ hxs_ z53 _ _ _ _ _ c55 s58 hNz53 s59 hSz53 _ _ _ _ _
      obtain ⟨us56, rfl, h57, hiz53_0⟩ := hNz53
      obtain ⟨v51, h52, rfl⟩ := hSz53
      have hltz53 : pre_.length < (rng 0 z29.1).length := by rw [hxs_, List.length_append, List.length_cons]; omega
      have hmemz53 : x54 ∈ (rng 0 z29.1) := by rw [hxs_]; exact List.mem_append_right _ List.mem_cons_self
      try simp only [rng_length, rng_mem, enumL_length] at hltz53 hmemz53
      cases h52
      obtain ⟨r69, er69⟩ : ∃ z_, z_ = (m_law_pick z53 (signs_5.length : Int)) := ⟨_, rfl⟩
      have fr69 := pick_ok (s := z53) (n := (signs_5.length : Int)) (by first | assumption | omega) (by omega)
      rw [← er69] at fr69
      obtain ⟨lr69, ar69, br69⟩ := fr69
      refine ec_ix ix_str ?_
      refine ec_D (P := rS signs_5) (d_var 2 (P := rS signs_5) rfl rfl) (fun v62 Gs61 s61 h63 => ?_)
      refine ec_callM F_law_pick hr (by decide) ?_
      refine ac_cons ?_
      refine ec_D (P := rV (.ref a0_)) (d_var 0 (P := rV (.ref a0_)) rfl rfl) (fun v_ Gs64 s64 hv_ => ?_)
      cases hv_
      refine ac_cons ?_
      refine ec_D (P := rI (signs_5.length : Int)) (d_lenS m_len (d_var 2 (P := rS signs_5) rfl rfl) (by first | omega | (simp; done) | (simp; omega))) (fun v66 Gs65 s65 h67 => ?_)
      refine ac_nil' (fun Gs68 s68 => ?_)
      refine ⟨(z53, (signs_5.length : Int)), [(a0_, HO.lst us56)], c55 :: cs, (perm_to (k := 1) rfl (List.Perm.refl _)), ⟨_, _, _, rfl, rfl, (Rs.mono (s59.trans (s61.trans (s64.trans (s65.trans s68)))) h57), (Mono.mono s68 h67), (by exact ⟨by first | assumption | omega, by first | omega | (dsimp only; omega), by first | omega | (dsimp only; omega)⟩)⟩, ?_⟩
      rintro v76 Gs70 mc71 s70 ⟨v72, a73, us74, e_, rfl, h75, h77⟩
      cases e_
      have h78 : Rs rI Gs70 r69.2 us74 := by rw [er69]; exact h75
      have h79 : rI r69.1 Gs70 v76 := by rw [er69]; exact h77
      refine ⟨c55 :: (a0_, HO.lst us74) :: cs, (perm_to (k := 1) rfl (List.Perm.refl _)), ?_⟩
      refine rc_ixS (z := signs_5) (i := r69.1) (n := (ixg signs_5 r69.1)) (Mono.mono (s64.trans (s65.trans (s68.trans s70))) h63) h79 (by first | omega | (simp; done) | (simp; omega)) (atI_ixg (by first | (constructor <;> omega) | (simp only [List.length_cons, List.length_nil]; constructor <;> omega) | exact ix_mod (by omega) | (simp only [decide_eq_true_eq, decide_eq_false_iff_not] at *; constructor <;> omega) | (simp only [decide_eq_true_eq, decide_eq_false_iff_not, Bool.and_eq_true, Bool.or_eq_true, Bool.or_eq_false_iff, Bool.not_eq_true', Bool.not_eq_false', Bool.not_not, ne_eq, Int.not_lt, Int.not_le] at *; constructor <;> omega))) (fun Gs80 s80 => ?_)
      have h83 : rS [(ixg signs_5 r69.1)] Gs80 (.str (SX.S [(ixg signs_5 r69.1)])) := rfl
      have ef84 : lc_law_text_1 signs_5 z53 x54 = ([(ixg signs_5 r69.1)], (r69.2)) := by unfold lc_law_text_1; (try simp only [letV]); subst er69; (try rfl)
      exact ⟨_, List.Perm.refl _, by rw [ef84]; exact h83, by rw [ef84]; exact ⟨us74, rfl, (Rs.mono s80 h78), (by first | assumption | omega | (simp only [List.length_cons, List.length_nil] at *; omega))⟩⟩
    · rintro l86 us87 Gs88 _ s88 h89 ⟨us91, rfl, h92, hil86_0⟩
      have h90 : Rs rS Gs88 r85.1 us87 := by rw [er85]; exact h89
      have h93 : Rs rI Gs88 r85.2 us91 := by rw [er85]; exact h92
      have hjl86_0 : r85.2.length = 2 := by rw [er85]; exact hil86_0
      refine ⟨r85.1, (rdL_cell List.mem_cons_self h90), (by (have q := sum_le (ws := r85.1) (n := 1) (fun w hw => Nat.le_of_eq (hlc.2 w hw).1); simp only [List.length_nil, Nat.mul_zero]; omega)), fun Gs94 s94 => ?_⟩
      have h95 : rS (joiL ([] : List Nat) r85.1) Gs94 (.str (SX.S (joiL ([] : List Nat) r85.1))) := rfl
      exact fun _ => ⟨[(l86, HO.lst us87)], [(a0_, HO.lst us91)], (List.Perm.refl _), ⟨_, _, _, rfl, rfl, (Rs.mono s94 h93), h95⟩⟩
end Ck28

set_option synthInstance.maxSize 10000
namespace Ck28
open PySem L2 PyProof.Rows J
abbrev s_law_check : Stmt := PySem.Challenge.pw_corebank_k28_sender.main.body.getD 30 (.Pass ⟨0, 0, 0, 0⟩)
abbrev N_law_check : List Str := ["_law_body", "_law_total", "_law_k", "_law_digits"]
theorem sc_law_check : FnScope ["_law_body", "_law_total", "_law_k", "_law_digits"] ["_law_body"] (defScope s_law_check) := ⟨rfl, rfl, rfl, by decide +kernel, rfl, by decide +kernel, by decide +kernel⟩
theorem ok_law_check {P : Program} {w : World} {K : PySem.W.Frag} {mg : Str → Option Value} {base : Heap} {f : Addr} {fd : FuncData} (F : Fun K "_law_check" "_law_check" s_law_check f fd) (b : Binds K fd ["_law_body"] []) (hmg : mg "_law_check" = some (.ref f)) {adr : _root_.Fin 7 → Addr} {B0 : Addr} (Er : Errs K mg nm_ adr B0) (m_int : mg "int" = none) (m_len : mg "len" = none) (m_ord : mg "ord" = none) (m_range : mg "range" = none) (m_str : mg "str" = none) :
    Fn0 P w K mg base CX0 1 "_law_check" 1 (sp_law_check K) := by
  have hsl := sizeLine_eq
  refine fn_mk F sc_law_check b hmg (fun i : ((List Nat)) => b_law_check i) (fun i G vs h => ?_) (fun cdv A outer s H E body_ G cs vs hr hp => ?_)
  · obtain ⟨v0_, h, _⟩ := h
    rw [h]
    rfl
  obtain ⟨v0_, rfl, h0_, hpre⟩ := hp
  cases h0_
  show B _ _ _ [some (.str (SX.S body_)), none, none, none] G cs _ (b_law_check body_)
  unfold b_law_check
  try dsimp only at hpre
  refine b_setV (r := rI) 1 sc_law_check.nd d_int (fun total_1 etotal_1 v3 Gs2 s2 h4 => ?_)
  cases h4
  refine b_for (f := (st_law_check_1 body_)) (s0 := (total_1)) (xs := (rng 0 (body_.length : Int))) (fun n_ (z5 : (Int)) σ_ G_ cs_ => ∃ o8 : Option V, ∃ o9 : Option V, σ_ = [some (.str (SX.S body_)), some (.int z5), o8, o9] ∧ cs = cs_) (i_rng1 m_range (d_lenS m_len (d_var 0 (P := rS body_) rfl rfl) (by first | omega | (simp; done) | (simp; omega))) (by omega) (by omega)) (tg_name 2 sc_law_check.nd) rfl PassesOwn.never ?_ ?_ ?_ ?_
  · intro _ s18
    exact ⟨_, _, rfl, rfl⟩
  · intro _ _ _ _ _ _
    trivial
  · intro pre_ x10 post_ z5 _ _ _ _ _ hxsz5 hrez5 s11 hNz5 s12 hSz5
    obtain ⟨o8, o9, rfl, rfl⟩ := hNz5
    obtain ⟨v6, h7, rfl⟩ := hSz5
    have hltz5 : pre_.length < (rng 0 (body_.length : Int)).length := by rw [hxsz5, List.length_append, List.length_cons]; omega
    have hmemz5 : x10 ∈ (rng 0 (body_.length : Int)) := by rw [hxsz5]; exact List.mem_append_right _ List.mem_cons_self
    try simp only [rng_length, rng_mem, enumL_length] at hltz5 hmemz5
    show B _ _ _ _ _ _ _ (st_law_check_1 body_ z5 x10)
    unfold st_law_check_1
    cases h7
    refine b_setV (r := rI) 1 sc_law_check.nd (d_add (d_var 1 (P := rI z5) rfl rfl) (d_mul (d_add (d_var 2 (P := rI x10) rfl rfl) d_int) (d_ord m_ord (d_ixS (d_var 0 (P := rS body_) rfl rfl) (d_var 2 (P := rI x10) rfl rfl) (by first | omega | (simp; done) | (simp; omega)) (atI_ixg (by first | (constructor <;> omega) | (simp only [List.length_cons, List.length_nil]; constructor <;> omega) | exact ix_mod (by omega) | (simp only [decide_eq_true_eq, decide_eq_false_iff_not] at *; constructor <;> omega) | (simp only [decide_eq_true_eq, decide_eq_false_iff_not, Bool.and_eq_true, Bool.or_eq_true, Bool.or_eq_false_iff, Bool.not_eq_true', Bool.not_eq_false', Bool.not_not, ne_eq, Int.not_lt, Int.not_le] at *; constructor <;> omega))))) (by exact .inl ⟨by omega, by omega⟩))) (fun total_14 etotal_14 v16 Gs15 s15 h17 => ?_)
    cases h17
    exact b_nil (by refine ⟨_, _, rfl, rfl⟩)
  · intro n_ z5 _ _ _ hnz5 s19 hNz5 hfz5
    obtain ⟨o8, o9, rfl, rfl⟩ := hNz5
    try simp only [rng_length, enumL_length] at hnz5
    refine b_setV (r := rS) 3 sc_law_check.nd (d_strI m_str (d_mod (d_int1 m_int (d_var 1 (P := rI z5) rfl rfl)) d_int (by decide)) (by first | omega | (split <;> omega)) (by first | omega | (split <;> omega))) (fun digits_20 edigits_20 v22 Gs21 s21 h23 => ?_)
    cases h23
    have hdl : digits_20.length ≤ 13 := by rw [edigits_20]; exact decL_len (by omega) (by omega)
    exact b_ret (P := rS ((repS [48] (4 - (digits_20.length : Int))) ++ digits_20)) (d_cat (d_repS (d_str (l := [48]) (by decide +kernel)) (d_sub d_int (d_lenS m_len (d_var 3 (P := rS digits_20) rfl rfl) (by first | omega | (simp; done) | (simp; omega)))) (by constructor <;> omega) (by (simp only [List.length_cons, List.length_nil]; omega))) (d_var 3 (P := rS digits_20) rfl rfl) (by (have q := rep_le (d := digits_20); omega))) (fun _ _ _ h => ⟨⟨[], rfl⟩, h⟩)
end Ck28

set_option synthInstance.maxSize 10000
namespace Ck28
open PySem L2 PyProof.Rows J
abbrev s_law_written : Stmt := PySem.Challenge.pw_corebank_k28_sender.main.body.getD 31 (.Pass ⟨0, 0, 0, 0⟩)
abbrev N_law_written : List Str := ["_law_kind_here", "_law_sender", "_law_receiver", "_law_digits", "_law_fields", "_law_body"]
theorem sc_law_written : FnScope ["_law_kind_here", "_law_sender", "_law_receiver", "_law_digits", "_law_fields", "_law_body"] ["_law_kind_here", "_law_sender", "_law_receiver", "_law_digits", "_law_fields"] (defScope s_law_written) := ⟨rfl, rfl, rfl, by decide +kernel, rfl, by decide +kernel, by decide +kernel⟩
theorem ok_law_written {P : Program} {w : World} {K : PySem.W.Frag} {mg : Str → Option Value} {base : Heap} {f : Addr} {fd : FuncData} (F : Fun K "_law_written" "_law_written" s_law_written f fd) (b : Binds K fd ["_law_kind_here", "_law_sender", "_law_receiver", "_law_digits", "_law_fields"] []) (hmg : mg "_law_written" = some (.ref f)) {adr : _root_.Fin 7 → Addr} {B0 : Addr} (Er : Errs K mg nm_ adr B0) (F_law_check : Fn0 P w K mg base CX0 1 "_law_check" 1 (sp_law_check K)) :
    Fn0 P w K mg base CX0 2 "_law_written" 5 (sp_law_written K) := by
  have hsl := sizeLine_eq
  refine fn_mk F sc_law_written b hmg (fun i : ((List Nat) × (List Nat) × (List Nat) × (List Nat) × (List (List Nat))) => b_law_written i.1 i.2.1 i.2.2.1 i.2.2.2.1 i.2.2.2.2) (fun i G vs h => ?_) (fun cdv A outer s H E i G cs vs hr hp => ?_)
  · obtain ⟨v0_, v1_, v2_, v3_, v4_, h, _⟩ := h
    rw [h]
    rfl
  obtain ⟨kind_here_, sender_, receiver_, digits_, fields_⟩ := i
  obtain ⟨v0_, v1_, v2_, v3_, v4_, rfl, h0_, h1_, h2_, h3_, h4_, hpre⟩ := hp
  cases h0_
  cases h1_
  cases h2_
  cases h3_
  show B _ _ _ [some (.str (SX.S kind_here_)), some (.str (SX.S sender_)), some (.str (SX.S receiver_)), some (.str (SX.S digits_)), some v4_, none] G cs _ (b_law_written kind_here_ sender_ receiver_ digits_ fields_)
  unfold b_law_written
  try dsimp only at hpre
  refine b_setV (r := rS) 5 sc_law_written.nd (d_cat (d_join (d_str (l := [124]) (by decide +kernel)) (D.imp (P := (rL K rS) ([kind_here_, sender_, receiver_, digits_] ++ fields_)) (d_new (n_cat (r := rS) (D.imp (P := (rL K rS) [kind_here_, sender_, receiver_, digits_]) (d_new (n_lst (r := rS) (xs := [kind_here_, sender_, receiver_, digits_]) (a_cons (P := rS kind_here_) (d_var 0 (P := rS kind_here_) rfl rfl) (a_cons (P := rS sender_) (d_var 1 (P := rS sender_) rfl rfl) (a_cons (P := rS receiver_) (d_var 2 (P := rS receiver_) rfl rfl) (a_cons (P := rS digits_) (d_var 3 (P := rS digits_) rfl rfl) a_nil)))) (ls_c (ls_c (ls_c (ls_c ls_n)))))) fun _ _ => rdL_of) (D.imp (P := (rL K rS) fields_) (d_var 4 (P := (rL K rS) fields_) rfl h4_) fun _ _ => rdL_of) (by (have q := hpre.2.2.2.2.1; simp only [List.length_cons, List.length_nil]; omega)))) fun _ _ => rdL_of) (by exact wbody_sum hpre)) (d_str (l := [124]) (by decide +kernel)) (by first | (have q := wbody_le0 hpre; simp only [List.length_cons, List.length_nil]; omega) | (have q := lcheck_le body_1; omega))) (fun body_1 ebody_1 v3 Gs2 s2 h4 => ?_)
  cases h4
  have hbl := wbody_le hpre
  rw [← ebody_1] at hbl
  exact b_ret (P := rS (body_1 ++ (m_law_check body_1))) (d_cat (d_var 5 (P := rS body_1) rfl rfl) (d_callQ (P := rS (m_law_check body_1)) (body_1) F_law_check hr (by decide) (a_cons (P := rS body_1) (d_var 5 (P := rS body_1) rfl rfl) a_nil) (fun _ _ _ h => by obtain ⟨v0, w0, rfl, h0, rfl⟩ := h; exact ⟨v0, rfl, h0, (by ((try dsimp only); omega))⟩) fun _ _ h => h) (by first | (have q := wbody_le0 hpre; simp only [List.length_cons, List.length_nil]; omega) | (have q := lcheck_le body_1; omega))) (fun _ _ _ h => ⟨⟨[], rfl⟩, h⟩)
end Ck28

set_option synthInstance.maxSize 10000
namespace Ck28
open PySem L2 PyProof.Rows J
abbrev s_check_number : Stmt := PySem.Challenge.pw_corebank_k28_sender.main.body.getD 18 (.Pass ⟨0, 0, 0, 0⟩)
abbrev N_check_number : List Str := ["body", "total", "at", "sign"]
theorem sc_check_number : FnScope ["body", "total", "at", "sign"] ["body"] (defScope s_check_number) := ⟨rfl, rfl, rfl, by decide +kernel, rfl, by decide +kernel, by decide +kernel⟩
theorem ok_check_number {P : Program} {w : World} {K : PySem.W.Frag} {mg : Str → Option Value} {base : Heap} {f : Addr} {fd : FuncData} (F : Fun K "check_number" "check_number" s_check_number f fd) (b : Binds K fd ["body"] []) (hmg : mg "check_number" = some (.ref f)) {adr : _root_.Fin 7 → Addr} {B0 : Addr} (Er : Errs K mg nm_ adr B0) (c_MODULUS : GlobR mg "MODULUS" (rI 9973)) (m_enumerate : mg "enumerate" = none) (m_ord : mg "ord" = none) (m_str : mg "str" = none) :
    Fn0 P w K mg base CX0 1 "check_number" 1 (sp_check_number K) := by
  have hsl := sizeLine_eq
  refine fn_mk F sc_check_number b hmg (fun i : ((List Nat)) => b_check_number i) (fun i G vs h => ?_) (fun cdv A outer s H E body_ G cs vs hr hp => ?_)
  · obtain ⟨v0_, h, _⟩ := h
    rw [h]
    rfl
  obtain ⟨v0_, rfl, h0_, hpre⟩ := hp
  cases h0_
  show B _ _ _ [some (.str (SX.S body_)), none, none, none] G cs _ (b_check_number body_)
  unfold b_check_number
  try dsimp only at hpre
  refine b_setV (r := rI) 1 sc_check_number.nd d_int (fun total_1 etotal_1 v3 Gs2 s2 h4 => ?_)
  cases h4
  refine b_for (f := (st_check_number_1)) (s0 := (total_1)) (xs := (enumL body_)) (fun n_ (z5 : (Int)) σ_ G_ cs_ => ∃ o10 : Option V, ∃ o11 : Option V, σ_ = [some (.str (SX.S body_)), some (.int z5), o10, o11] ∧ cs = cs_) (i_enumS m_enumerate (d_var 0 (P := rS body_) rfl rfl)) (tg_tup rfl (tgs_c (tg_name 2 sc_check_number.nd) (tgs_1 (tg_name 3 sc_check_number.nd)))) rfl PassesOwn.never ?_ ?_ ?_ ?_
  · intro _ s18
    exact ⟨_, _, rfl, rfl⟩
  · intro _ _ _ _ _ _
    trivial
  · intro pre_ x12 post_ z5 _ _ _ _ _ hxsz5 hrez5 s13 hNz5 s14 hSz5
    obtain ⟨o10, o11, rfl, rfl⟩ := hNz5
    obtain ⟨_, ⟨v8, h9, rfl⟩, ⟨v6, h7, rfl⟩⟩ := hSz5
    have hltz5 : pre_.length < (enumL body_).length := by rw [hxsz5, List.length_append, List.length_cons]; omega
    have hmemz5 : x12 ∈ (enumL body_) := by rw [hxsz5]; exact List.mem_append_right _ List.mem_cons_self
    try simp only [rng_length, rng_mem, enumL_length] at hltz5 hmemz5
    show B _ _ _ _ _ _ _ (st_check_number_1 z5 x12)
    unfold st_check_number_1
    cases h9
    cases h7
    have hq := enum_at hmemz5
    refine b_augAddV 1 sc_check_number.nd rfl (d_mul (d_add (d_var 2 (P := rI x12.1) rfl rfl) d_int) (d_ord m_ord (d_var 3 (P := rC x12.2) rfl rfl)) (by exact .inl ⟨by omega, by omega⟩)) (fun total_17 etotal_17 Gs16 s16 => ?_)
    exact b_nil (by refine ⟨_, _, rfl, rfl⟩)
  · intro n_ z5 _ _ _ hnz5 s19 hNz5 hfz5
    obtain ⟨o10, o11, rfl, rfl⟩ := hNz5
    try simp only [rng_length, enumL_length] at hnz5
    exact b_ret (P := rS (zfL (decL (z5 % 9973)) 4)) (d_zfill (d_strI m_str (d_mod (d_var 1 (P := rI z5) rfl rfl) (d_globR c_MODULUS) (by decide)) (by first | omega | (split <;> omega)) (by first | omega | (split <;> omega))) d_int (by decide)) (fun _ _ _ h => ⟨⟨[], rfl⟩, h⟩)
end Ck28

set_option synthInstance.maxSize 10000
namespace Ck28
open PySem L2 PyProof.Rows J
abbrev s_is_name : Stmt := PySem.Challenge.pw_corebank_k28_sender.main.body.getD 12 (.Pass ⟨0, 0, 0, 0⟩)
abbrev N_is_name : List Str := ["text", "sign"]
theorem sc_is_name : FnScope ["text", "sign"] ["text"] (defScope s_is_name) := ⟨rfl, rfl, rfl, by decide +kernel, rfl, by decide +kernel, by decide +kernel⟩
theorem ok_is_name {P : Program} {w : World} {K : PySem.W.Frag} {mg : Str → Option Value} {base : Heap} {f : Addr} {fd : FuncData} (F : Fun K "is_name" "is_name" s_is_name f fd) (b : Binds K fd ["text"] []) (hmg : mg "is_name" = some (.ref f)) {adr : _root_.Fin 7 → Addr} {B0 : Addr} (Er : Errs K mg nm_ adr B0) (m_all : mg "all" = none) (c_DIGITS : GlobR mg "DIGITS" (rS k_DIGITS)) (c_LETTERS : GlobR mg "LETTERS" (rS k_LETTERS)) (m_len : mg "len" = none) :
    Fn0 P w K mg base CX0 1 "is_name" 1 (sp_is_name K) := by
  have hsl := sizeLine_eq
  refine fn_mk F sc_is_name b hmg (fun i : ((List Nat)) => b_is_name i) (fun i G vs h => ?_) (fun cdv A outer s H E text_ G cs vs hr hp => ?_)
  · obtain ⟨v0_, h, _⟩ := h
    rw [h]
    rfl
  obtain ⟨v0_, rfl, h0_, hpre⟩ := hp
  cases h0_
  show B _ _ _ [some (.str (SX.S text_)), none] G cs _ (b_is_name text_)
  unfold b_is_name
  try dsimp only at hpre
  refine b_ifx (t_w (w_or (t_not (t_chain op_le op_le d_int (d_lenS m_len (d_var 0 (P := rS text_) rfl rfl) (by first | omega | (simp; done) | (simp; omega))) d_int (fun _ _ _ _ _ _ hx hy _ q => c_le hx hy q) (fun _ _ _ _ _ _ hx hy _ q => c_le hx hy q))) fun hk3 => (w_or1 (t_cmp op_notIn_sign (by rfl) (d_ixS (d_var 0 (P := rS text_) rfl rfl) d_int (by first | omega | (simp; done) | (simp; omega)) (atI_ixg (by first | (constructor <;> omega) | (simp only [List.length_cons, List.length_nil]; constructor <;> omega) | exact ix_mod (by omega) | (simp only [decide_eq_true_eq, decide_eq_false_iff_not] at *; constructor <;> omega) | (simp only [decide_eq_true_eq, decide_eq_false_iff_not, Bool.and_eq_true, Bool.or_eq_true, Bool.or_eq_false_iff, Bool.not_eq_true', Bool.not_eq_false', Bool.not_not, ne_eq, Int.not_lt, Int.not_le] at *; constructor <;> omega)))) (d_globR c_LETTERS) fun _ _ _ _ _ _ hx hy _ q => c_ninS hx hy q)))) ?_ ?_
  · intro hc1 Gs2 s2
    have dhc1 := hc1
    try simp only [decide_eq_true_eq, decide_eq_false_iff_not, Bool.and_eq_true, Bool.and_eq_false_imp, Bool.or_eq_true, Bool.or_eq_false_iff, Bool.not_eq_true', Bool.not_eq_false', Bool.not_not, ne_eq, Int.not_lt, Int.not_le] at dhc1
    exact b_ret (P := rB false) d_bl (fun _ _ _ h => ⟨⟨[], rfl⟩, h⟩)
  · intro hc1 Gs2 s2
    have dhc1 := hc1
    try simp only [decide_eq_true_eq, decide_eq_false_iff_not, Bool.and_eq_true, Bool.and_eq_false_imp, Bool.or_eq_true, Bool.or_eq_false_iff, Bool.not_eq_true', Bool.not_eq_false', Bool.not_not, ne_eq, Int.not_lt, Int.not_le] at dhc1
    exact b_ret (P := rB ((text_.map (fun sign_ : Nat => (((decide (sign_ ∈ k_LETTERS))) || ((decide (sign_ ∈ k_DIGITS)))))).all id)) (d_all rfl m_all (D.imp (P := (rL K rB) (text_.map (fun sign_ : Nat => (((decide (sign_ ∈ k_LETTERS))) || ((decide (sign_ ∈ k_DIGITS))))))) (d_new (n_lc (C := fun _ => True) (own := [("sign", 1)]) (xs := text_) (r := rB) (f := (fun sign_ : Nat => (((decide (sign_ ∈ k_LETTERS))) || ((decide (sign_ ∈ k_DIGITS)))))) rfl sc_is_name.nd (blkOk_by (N := N_is_name) (sc := defScope s_is_name) (by decide +kernel)) (i_str (d_var 0 (P := rS text_) rfl rfl)) (tgb_name 1 sc_is_name.nd) (fun _ _ => trivial) (fun _ _ _ ⟨_, _, e⟩ => by subst e; exact wipe1) (fun (sign_ : Nat) hx7 _ _ _ s6 ⟨c0_, ec⟩ hS _ _ _ _ _ => by subst ec; obtain ⟨v4, h5, rfl⟩ := hS; cases h5; have hmhx7 := hx7; (try simp only [rng_mem, rng_length] at hmhx7); exact (d_or (d_cmp op_in_sign (by rfl) (d_var 1 (P := rC sign_) rfl rfl) (d_globR c_LETTERS) fun _ _ _ _ _ _ hx hy _ q => c_inS hx hy q) fun hk8 => (d_one (d_cmp op_in_sign (by rfl) (d_var 1 (P := rC sign_) rfl rfl) (d_globR c_DIGITS) fun _ _ _ _ _ _ hx hy _ q => c_inS hx hy q)))) (by first | omega | (simp only [rng_length, enumL_length, List.length_map]; omega) | (simp; done) | (simp; omega)))) fun _ _ => rdL_of)) (fun _ _ _ h => ⟨⟨[], rfl⟩, h⟩)
end Ck28

set_option synthInstance.maxSize 10000
namespace Ck28
open PySem L2 PyProof.Rows J
abbrev s_is_field : Stmt := PySem.Challenge.pw_corebank_k28_sender.main.body.getD 19 (.Pass ⟨0, 0, 0, 0⟩)
abbrev N_is_field : List Str := ["text"]
theorem sc_is_field : FnScope ["text"] ["text"] (defScope s_is_field) := ⟨rfl, rfl, rfl, by decide +kernel, rfl, by decide +kernel, by decide +kernel⟩
theorem ok_is_field {P : Program} {w : World} {K : PySem.W.Frag} {mg : Str → Option Value} {base : Heap} {f : Addr} {fd : FuncData} (F : Fun K "is_field" "is_field" s_is_field f fd) (b : Binds K fd ["text"] []) (hmg : mg "is_field" = some (.ref f)) {adr : _root_.Fin 7 → Addr} {B0 : Addr} (Er : Errs K mg nm_ adr B0) (c_MOST_SIGNS : GlobR mg "MOST_SIGNS" (rI 40)) (m_len : mg "len" = none) :
    Fn0 P w K mg base CX0 1 "is_field" 1 (sp_is_field K) := by
  have hsl := sizeLine_eq
  refine fn_mk F sc_is_field b hmg (fun i : ((List Nat)) => b_is_field i) (fun i G vs h => ?_) (fun cdv A outer s H E text_ G cs vs hr hp => ?_)
  · obtain ⟨v0_, h, _⟩ := h
    rw [h]
    rfl
  obtain ⟨v0_, rfl, h0_, hpre⟩ := hp
  cases h0_
  show B _ _ _ [some (.str (SX.S text_))] G cs _ (b_is_field text_)
  unfold b_is_field
  try dsimp only at hpre
  exact b_ret (P := rB (((decide ((text_.length : Int) ≤ 40))) && ((!decide (124 ∈ text_))))) (d_and (d_cmp op_le (nomark _) (d_lenS m_len (d_var 0 (P := rS text_) rfl rfl) (by first | omega | (simp; done) | (simp; omega))) (d_globR c_MOST_SIGNS) fun _ _ _ _ _ _ hx hy _ q => c_le hx hy q) fun hk1 => (d_one (d_cmp op_notIn_sign (by rfl) (d_str (l := [124]) (by decide +kernel)) (d_var 0 (P := rS text_) rfl rfl) fun _ _ _ _ _ _ hx hy _ q => c_ninS hx hy q))) (fun _ _ _ h => ⟨⟨[], rfl⟩, h⟩)
end Ck28

set_option synthInstance.maxSize 10000
namespace Ck28
open PySem L2 PyProof.Rows J
abbrev s_write_letter : Stmt := PySem.Challenge.pw_corebank_k28_sender.main.body.getD 20 (.Pass ⟨0, 0, 0, 0⟩)
abbrev N_write_letter : List Str := ["letter", "kind", "sender", "receiver", "number", "fields", "name", "field", "body"]
theorem sc_write_letter : FnScope ["letter", "kind", "sender", "receiver", "number", "fields", "name", "field", "body"] ["letter"] (defScope s_write_letter) := ⟨rfl, rfl, rfl, by decide +kernel, rfl, by decide +kernel, by decide +kernel⟩
theorem ok_write_letter {P : Program} {w : World} {K : PySem.W.Frag} {mg : Str → Option Value} {base : Heap} {f : Addr} {fd : FuncData} (F : Fun K "write_letter" "write_letter" s_write_letter f fd) (b : Binds K fd ["letter"] []) (hmg : mg "write_letter" = some (.ref f)) {adr : _root_.Fin 7 → Addr} {B0 : Addr} (Er : Errs K mg nm_ adr B0) (c_MOST_FIELDS : GlobR mg "MOST_FIELDS" (rI 8)) (c_MOST_NUMBER : GlobR mg "MOST_NUMBER" (rI 999999)) (m_len : mg "len" = none) (m_str : mg "str" = none) (F_check_number : Fn0 P w K mg base CX0 1 "check_number" 1 (sp_check_number K)) (F_is_field : Fn0 P w K mg base CX0 1 "is_field" 1 (sp_is_field K)) (F_is_name : Fn0 P w K mg base CX0 1 "is_name" 1 (sp_is_name K)) :
    Fn0 P w K mg base (L2.CX P w) 2 "write_letter" 1 (sp_write_letter K adr) := by
  have hsl := sizeLine_eq
  refine fn_mkE (cE := cE adr) F sc_write_letter b hmg (fun i : (((List Nat) × (List Nat) × (List Nat) × Int × (List (List Nat)))) => b_write_letter i) (fun i G vs h => ?_) (fun cdv A outer s H E letter_ G cs vs hr hp => ?_)
  · obtain ⟨v0_, h, _⟩ := h
    rw [h]
    rfl
  obtain ⟨v0_, rfl, h0_, hpre⟩ := hp
  show B _ (wE2 adr (fun c d _ H => E c d H)) _ [some v0_, none, none, none, none, none, none, none, none] G cs _ (b_write_letter letter_)
  unfold b_write_letter
  try dsimp only at hpre
  refine b_asgV (r := (rT K (cc rS (cc rS (cc rS (cc rI (c0 (rL K rS)))))))) (d_var 0 (P := (rT K (cc rS (cc rS (cc rS (cc rI (c0 (rL K rS))))))) letter_) rfl h0_) (tg_tup rfl (tgs_c (tg_name 1 sc_write_letter.nd) (tgs_c (tg_name 2 sc_write_letter.nd) (tgs_c (tg_name 3 sc_write_letter.nd) (tgs_c (tg_name 4 sc_write_letter.nd) (tgs_1 (tg_name 5 sc_write_letter.nd))))))) (fun t1 et1 _ Gs12 s12 hS => ?_)
  obtain ⟨_, ⟨v10, h11, rfl⟩, ⟨_, ⟨v8, h9, rfl⟩, ⟨_, ⟨v6, h7, rfl⟩, ⟨_, ⟨v4, h5, rfl⟩, ⟨v2, h3, rfl⟩⟩⟩⟩⟩ := hS
  cases h11
  cases h9
  cases h7
  cases h5
  have hL : LOk t1 := by rw [et1]; exact hpre
  refine b_for (f := (st_write_letter_1)) (s0 := ()) (xs := [(t1.1, t1.2.1, t1.2.2.1).1, (t1.1, t1.2.1, t1.2.2.1).2.1, (t1.1, t1.2.1, t1.2.2.1).2.2]) (fun n_ (z13 : Unit) σ_ G_ cs_ => ∃ o16 : Option V, ∃ o17 : Option V, ∃ o18 : Option V, σ_ = [some v0_, some (.str (SX.S t1.1)), some (.str (SX.S t1.2.1)), some (.str (SX.S t1.2.2.1)), some (.int t1.2.2.2.1), some v2, o16, o17, o18] ∧ cs = cs_) (i_tupU (r := rS) (d_homT (r := (cc rS (cc rS (c0 rS)))) (d_tup (r := (cc rS (cc rS (c0 rS)))) (x := (t1.1, t1.2.1, t1.2.2.1)) (a_cons (P := rS t1.1) (d_var 1 (P := rS t1.1) rfl rfl) (a_cons (P := rS t1.2.1) (d_var 2 (P := rS t1.2.1) rfl rfl) (a_cons (P := rS t1.2.2.1) (d_var 3 (P := rS t1.2.2.1) rfl rfl) a_nil))) (tp_c (tp_c tp_1))))) (tg_name 6 sc_write_letter.nd) rfl (passes_of rfl) ?_ ?_ ?_ ?_
  · intro _ s25
    exact ⟨_, _, _, rfl, rfl⟩
  · intro _ _ _ _ _ _
    trivial
  · intro pre_ x19 post_ z13 _ _ _ _ _ hxsz13 hrez13 s20 hNz13 s21 hSz13
    obtain ⟨o16, o17, o18, rfl, rfl⟩ := hNz13
    obtain ⟨v14, h15, rfl⟩ := hSz13
    have hltz13 : pre_.length < [(t1.1, t1.2.1, t1.2.2.1).1, (t1.1, t1.2.1, t1.2.2.1).2.1, (t1.1, t1.2.1, t1.2.2.1).2.2].length := by rw [hxsz13, List.length_append, List.length_cons]; omega
    have hmemz13 : x19 ∈ [(t1.1, t1.2.1, t1.2.2.1).1, (t1.1, t1.2.1, t1.2.2.1).2.1, (t1.1, t1.2.1, t1.2.2.1).2.2] := by rw [hxsz13]; exact List.mem_append_right _ List.mem_cons_self
    try simp only [rng_length, rng_mem, enumL_length] at hltz13 hmemz13
    show B _ _ _ _ _ _ _ (st_write_letter_1 z13 x19)
    unfold st_write_letter_1
    cases h15
    have hx := names_le hL hmemz13
    refine b_ifx (t_not (t_val (d_callQ (P := rB (m_is_name x19)) (x19) F_is_name hr (by decide) (a_cons (P := rS x19) (d_var 6 (P := rS x19) rfl rfl) a_nil) (fun _ _ _ h => by obtain ⟨v0, w0, rfl, h0, rfl⟩ := h; exact ⟨v0, rfl, h0, (by ((try dsimp only); omega))⟩) fun _ _ h => h))) ?_ ?_
    · intro hc23 Gs24 s24
      have dhc23 := hc23
      try simp only [decide_eq_true_eq, decide_eq_false_iff_not, Bool.and_eq_true, Bool.and_eq_false_imp, Bool.or_eq_true, Bool.or_eq_false_iff, Bool.not_eq_true', Bool.not_eq_false', Bool.not_not, ne_eq, Int.not_lt, Int.not_le] at dhc23
      exact b_raise 0 Er rfl (takes_of rfl rfl rfl rfl) rfl ⟨[], rfl⟩
    · intro hc23 Gs24 s24
      have dhc23 := hc23
      try simp only [decide_eq_true_eq, decide_eq_false_iff_not, Bool.and_eq_true, Bool.and_eq_false_imp, Bool.or_eq_true, Bool.or_eq_false_iff, Bool.not_eq_true', Bool.not_eq_false', Bool.not_not, ne_eq, Int.not_lt, Int.not_le] at dhc23
      exact b_nil (by refine ⟨_, _, _, rfl, rfl⟩)
  · intro n_ z13 _ _ _ hnz13 s26 hNz13 hfz13
    obtain ⟨o16, o17, o18, rfl, rfl⟩ := hNz13
    try simp only [rng_length, enumL_length] at hnz13
    refine b_ifx (t_not (t_chain op_le op_le d_int (d_var 4 (P := rI t1.2.2.2.1) rfl rfl) (d_globR c_MOST_NUMBER) (fun _ _ _ _ _ _ hx hy _ q => c_le hx hy q) (fun _ _ _ _ _ _ hx hy _ q => c_le hx hy q))) ?_ ?_
    · intro hc27 Gs28 s28
      have dhc27 := hc27
      try simp only [decide_eq_true_eq, decide_eq_false_iff_not, Bool.and_eq_true, Bool.and_eq_false_imp, Bool.or_eq_true, Bool.or_eq_false_iff, Bool.not_eq_true', Bool.not_eq_false', Bool.not_not, ne_eq, Int.not_lt, Int.not_le] at dhc27
      exact b_raise 0 Er rfl (takes_of rfl rfl rfl rfl) rfl ⟨[], rfl⟩
    · intro hc27 Gs28 s28
      have dhc27 := hc27
      try simp only [decide_eq_true_eq, decide_eq_false_iff_not, Bool.and_eq_true, Bool.and_eq_false_imp, Bool.or_eq_true, Bool.or_eq_false_iff, Bool.not_eq_true', Bool.not_eq_false', Bool.not_not, ne_eq, Int.not_lt, Int.not_le] at dhc27
      refine b_ifx (t_cmp op_gt (nomark _) (d_lenL (r := rS) m_len (D.imp (P := (rL K rS) t1.2.2.2.2) (d_var 5 (P := (rL K rS) t1.2.2.2.2) rfl (Mono.mono (s26.trans s28) h3)) fun _ _ => rdL_of)) (d_globR c_MOST_FIELDS) fun _ _ _ _ _ _ hx hy _ q => c_gt hx hy q) ?_ ?_
      · intro hc29 Gs30 s30
        have dhc29 := hc29
        try simp only [decide_eq_true_eq, decide_eq_false_iff_not, Bool.and_eq_true, Bool.and_eq_false_imp, Bool.or_eq_true, Bool.or_eq_false_iff, Bool.not_eq_true', Bool.not_eq_false', Bool.not_not, ne_eq, Int.not_lt, Int.not_le] at dhc29
        exact b_raise 0 Er rfl (takes_of rfl rfl rfl rfl) rfl ⟨[], rfl⟩
      · intro hc29 Gs30 s30
        have dhc29 := hc29
        try simp only [decide_eq_true_eq, decide_eq_false_iff_not, Bool.and_eq_true, Bool.and_eq_false_imp, Bool.or_eq_true, Bool.or_eq_false_iff, Bool.not_eq_true', Bool.not_eq_false', Bool.not_not, ne_eq, Int.not_lt, Int.not_le] at dhc29
        refine b_for (f := (st_write_letter_2)) (s0 := ()) (xs := t1.2.2.2.2) (fun n_ (z31 : Unit) σ_ G_ cs_ => ∃ o34 : Option V, ∃ o35 : Option V, ∃ o36 : Option V, σ_ = [some v0_, some (.str (SX.S t1.1)), some (.str (SX.S t1.2.1)), some (.str (SX.S t1.2.2.1)), some (.int t1.2.2.2.1), some v2, o34, o35, o36] ∧ cs = cs_) (i_listF (r := rS) (d_var 5 (P := (rL K rS) t1.2.2.2.2) rfl (Mono.mono (s26.trans (s28.trans s30)) h3))) (tg_name 7 sc_write_letter.nd) rfl (passes_of rfl) ?_ ?_ ?_ ?_
        · intro _ s43
          exact ⟨_, _, _, rfl, rfl⟩
        · intro _ _ _ _ _ _
          trivial
        · intro pre_ x37 post_ z31 _ _ _ _ _ hxsz31 hrez31 s38 hNz31 s39 hSz31
          obtain ⟨o34, o35, o36, rfl, rfl⟩ := hNz31
          obtain ⟨v32, h33, rfl⟩ := hSz31
          have hltz31 : pre_.length < t1.2.2.2.2.length := by rw [hxsz31, List.length_append, List.length_cons]; omega
          have hmemz31 : x37 ∈ t1.2.2.2.2 := by rw [hxsz31]; exact List.mem_append_right _ List.mem_cons_self
          try simp only [rng_length, rng_mem, enumL_length] at hltz31 hmemz31
          show B _ _ _ _ _ _ _ (st_write_letter_2 z31 x37)
          unfold st_write_letter_2
          cases h33
          have hx := (hL.2.2.2.2 _ hmemz31).1
          refine b_ifx (t_not (t_val (d_callQ (P := rB (m_is_field x37)) (x37) F_is_field hr (by decide) (a_cons (P := rS x37) (d_var 7 (P := rS x37) rfl rfl) a_nil) (fun _ _ _ h => by obtain ⟨v0, w0, rfl, h0, rfl⟩ := h; exact ⟨v0, rfl, h0, (by ((try dsimp only); omega))⟩) fun _ _ h => h))) ?_ ?_
          · intro hc41 Gs42 s42
            have dhc41 := hc41
            try simp only [decide_eq_true_eq, decide_eq_false_iff_not, Bool.and_eq_true, Bool.and_eq_false_imp, Bool.or_eq_true, Bool.or_eq_false_iff, Bool.not_eq_true', Bool.not_eq_false', Bool.not_not, ne_eq, Int.not_lt, Int.not_le] at dhc41
            exact b_raise 0 Er rfl (takes_of rfl rfl rfl rfl) rfl ⟨[], rfl⟩
          · intro hc41 Gs42 s42
            have dhc41 := hc41
            try simp only [decide_eq_true_eq, decide_eq_false_iff_not, Bool.and_eq_true, Bool.and_eq_false_imp, Bool.or_eq_true, Bool.or_eq_false_iff, Bool.not_eq_true', Bool.not_eq_false', Bool.not_not, ne_eq, Int.not_lt, Int.not_le] at dhc41
            exact b_nil (by refine ⟨_, _, _, rfl, rfl⟩)
        · intro n_ z31 _ _ _ hnz31 s44 hNz31 hfz31
          obtain ⟨o34, o35, o36, rfl, rfl⟩ := hNz31
          try simp only [rng_length, enumL_length] at hnz31
          refine b_setV (r := rS) 8 sc_write_letter.nd (d_cat (d_join (d_str (l := [124]) (by decide +kernel)) (D.imp (P := (rL K rS) (t1.1 :: t1.2.1 :: t1.2.2.1 :: (decL t1.2.2.2.1) :: t1.2.2.2.2)) (d_new (n_lst (r := rS) (xs := t1.1 :: t1.2.1 :: t1.2.2.1 :: (decL t1.2.2.2.1) :: t1.2.2.2.2) (a_cons (P := rS t1.1) (d_var 1 (P := rS t1.1) rfl rfl) (a_cons (P := rS t1.2.1) (d_var 2 (P := rS t1.2.1) rfl rfl) (a_cons (P := rS t1.2.2.1) (d_var 3 (P := rS t1.2.2.1) rfl rfl) (a_cons (P := rS (decL t1.2.2.2.1)) (d_strI m_str (d_var 4 (P := rI t1.2.2.2.1) rfl rfl) (by omega) (by omega)) (a_star (r := rS) (D.imp (P := (rL K rS) t1.2.2.2.2) (d_var 5 (P := (rL K rS) t1.2.2.2.2) rfl (Mono.mono (s26.trans (s28.trans (s30.trans s44))) h3)) fun _ _ => rdL_of)))))) (ls_c (ls_c (ls_c (ls_c ls_star)))) (by (have q := hL.2.2.2.1; simp only [List.length_cons]; omega)))) fun _ _ => rdL_of) (by exact body_sum hL (by omega) (by omega))) (d_str (l := [124]) (by decide +kernel)) (by first | (have q := body_le0 hL (by omega) (by omega); simp only [List.length_cons, List.length_nil]; omega) | (have q := check_le body_45; omega))) (fun body_45 ebody_45 v47 Gs46 s46 h48 => ?_)
          cases h48
          have hbl := body_le hL (by omega) (by omega)
          rw [← ebody_45] at hbl
          exact b_ret (P := rS (body_45 ++ (m_check_number body_45))) (d_cat (d_var 8 (P := rS body_45) rfl rfl) (d_callQ (P := rS (m_check_number body_45)) (body_45) F_check_number hr (by decide) (a_cons (P := rS body_45) (d_var 8 (P := rS body_45) rfl rfl) a_nil) (fun _ _ _ h => by obtain ⟨v0, w0, rfl, h0, rfl⟩ := h; exact ⟨v0, rfl, h0, (by ((try dsimp only); omega))⟩) fun _ _ h => h) (by first | (have q := body_le0 hL (by omega) (by omega); simp only [List.length_cons, List.length_nil]; omega) | (have q := check_le body_45; omega))) (fun _ _ _ h => ⟨⟨[], rfl⟩, h⟩)
end Ck28

set_option synthInstance.maxSize 10000
namespace Ck28
open PySem L2 PyProof.Rows J
abbrev s_Sender_dispatch : Stmt := inClass (PySem.Challenge.pw_corebank_k28_sender.main.body.getD 23 (.Pass ⟨0, 0, 0, 0⟩)) 1
abbrev N_Sender_dispatch : List Str := ["self", "kind", "fields", "text"]
theorem sc_Sender_dispatch : FnScope ["self", "kind", "fields", "text"] ["self", "kind", "fields"] (defScope s_Sender_dispatch) := ⟨rfl, rfl, rfl, by decide +kernel, rfl, by decide +kernel, by decide +kernel⟩
theorem ok_Sender_dispatch {P : Program} {w : World} {K : PySem.W.Frag} {mg : Str → Option Value} {base : Heap} {f : Addr} {fd : FuncData} (F : Fun K "dispatch" "Sender.dispatch" s_Sender_dispatch f fd) (b : Binds K fd ["self", "kind", "fields"] []) (M : Meth K (clA mg "Sender") "dispatch" f) {adr : _root_.Fin 7 → Addr} {B0 : Addr} (Er : Errs K mg nm_ adr B0) (K_Sender : ClsK K (clA mg "Sender") nf_Sender) (c_ACK : GlobR mg "ACK" (rS k_ACK)) (F_write_letter : Fn0 P w K mg base (L2.CX P w) 2 "write_letter" 1 (sp_write_letter K adr)) :
    Mt0 P w K mg base (L2.CX P w) 3 (clA mg "Sender") "dispatch" 3 (sp_Sender_dispatch K mg adr) := by
  have hsl := sizeLine_eq
  refine ⟨f, fd, ["self", "kind", "fields"], fn_okME (adr := adr) (pre := pre_Sender_dispatch K mg) (post := post_Sender_dispatch K mg) (perr := perr_Sender_dispatch K mg) F sc_Sender_dispatch b (fun i : (Mo_Sender × (List Nat) × (List (List Nat))) => b_Sender_dispatch i.1 i.2.1 i.2.2) (fun i G mc vs h => ?_) (fun cdv A outer s H E i G mc cs vs hr hp => ?_), M, b, rfl⟩
  · obtain ⟨_, _, _, _, _, _, h, _⟩ := h
    rw [h]
    rfl
  obtain ⟨self_, kind_, fields_⟩ := i
  obtain ⟨v1_, v2_, a0_, dx0_, l0_, u0_, rfl, rfl, h0_, h1_, h2_, hpre⟩ := hp
  replace h0_ : Rs rS G self_.2.2.2.2 u0_ := h0_
  cases h1_
  show B _ (wE3 adr (fun c d _ H => E c d H)) _ [some (.ref a0_), some (.str (SX.S kind_)), some v2_, none] G ((a0_, HO.ins (clA mg "Sender") dx0_ (nf_Sender.zip [.str (SX.S self_.1), .str (SX.S self_.2.1), .int self_.2.2.1, .int self_.2.2.2.1, .ref l0_])) :: (dx0_, HO.own a0_) :: (l0_, HO.lst u0_) :: cs) _ (b_Sender_dispatch self_ kind_ fields_)
  unfold b_Sender_dispatch
  try dsimp only at hpre
  have hkl := hpre.2.2.2.2.2
  refine b_ifx (t_cmp op_eq (nomark _) (d_var 1 (P := rS kind_) rfl rfl) (d_globR c_ACK) fun _ _ _ _ _ _ hx hy _ q => c_eqS hx hy q) ?_ ?_
  · intro hc1 Gs2 s2
    have dhc1 := hc1
    try simp only [decide_eq_true_eq, decide_eq_false_iff_not, Bool.and_eq_true, Bool.and_eq_false_imp, Bool.or_eq_true, Bool.or_eq_false_iff, Bool.not_eq_true', Bool.not_eq_false', Bool.not_not, ne_eq, Int.not_lt, Int.not_le] at dhc1
    exact b_raiseM (t := (self_)) 0 Er rfl (takes_of rfl rfl rfl rfl) rfl ⟨[], [(a0_, HO.ins (clA mg "Sender") dx0_ (nf_Sender.zip [.str (SX.S self_.1), .str (SX.S self_.2.1), .int self_.2.2.1, .int self_.2.2.2.1, .ref l0_])), (dx0_, HO.own a0_), (l0_, HO.lst u0_)], (List.Perm.refl _), ⟨_, _, _, _, _, _, rfl, rfl, (Rs.mono s2 h0_)⟩⟩
  · intro hc1 Gs2 s2
    have dhc1 := hc1
    try simp only [decide_eq_true_eq, decide_eq_false_iff_not, Bool.and_eq_true, Bool.and_eq_false_imp, Bool.or_eq_true, Bool.or_eq_false_iff, Bool.not_eq_true', Bool.not_eq_false', Bool.not_not, ne_eq, Int.not_lt, Int.not_le] at dhc1
    refine b_setEM (P := rS) 3 sc_Sender_dispatch.nd ?_ (fun _ _ _ s_ => ⟨[], [(a0_, HO.ins (clA mg "Sender") dx0_ (nf_Sender.zip [.str (SX.S self_.1), .str (SX.S self_.2.1), .int self_.2.2.1, .int self_.2.2.2.1, .ref l0_])), (dx0_, HO.own a0_), (l0_, HO.lst u0_)], (List.Perm.refl _), ⟨_, _, _, _, _, _, rfl, rfl, (Rs.mono (s2.trans s_) h0_)⟩⟩) (fun text_6 etext_6 v4 Gs3 s3 h5 => ?_)
    · exact (de_callQ (adr := adr) (P := rS) ((kind_, self_.1, self_.2.1, (self_.2.2.1 + 1), fields_)) F_write_letter (takes_of rfl rfl rfl rfl) hr (by decide) (a_cons (P := (rT K (cc rS (cc rS (cc rS (cc rI (c0 (rL K rS))))))) (kind_, self_.1, self_.2.1, (self_.2.2.1 + 1), fields_)) (d_tup (r := (cc rS (cc rS (cc rS (cc rI (c0 (rL K rS))))))) (x := (kind_, self_.1, self_.2.1, (self_.2.2.1 + 1), fields_)) (a_cons (P := rS kind_) (d_var 1 (P := rS kind_) rfl rfl) (a_cons (P := rS self_.1) (d_fld 0 (P := rS self_.1) K_Sender (d_var 0 (P := rV (.ref a0_)) rfl rfl) List.mem_cons_self rfl) (a_cons (P := rS self_.2.1) (d_fld 1 (P := rS self_.2.1) K_Sender (d_var 0 (P := rV (.ref a0_)) rfl rfl) List.mem_cons_self rfl) (a_cons (P := rI (self_.2.2.1 + 1)) (d_add (d_fld 2 (P := rI self_.2.2.1) K_Sender (d_var 0 (P := rV (.ref a0_)) rfl rfl) List.mem_cons_self rfl) d_int) (a_cons (P := (rL K rS) fields_) (d_var 2 (P := (rL K rS) fields_) rfl (Mono.mono s2 h2_)) a_nil))))) (tp_c (tp_c (tp_c (tp_c tp_1))))) a_nil) (fun _ _ _ h => by obtain ⟨v0, w0, rfl, h0, rfl⟩ := h; exact ⟨v0, rfl, h0, (by exact ⟨hpre.1, hpre.2.1, hpre.2.2.1, hpre.2.2.2.1, hpre.2.2.2.2.1⟩)⟩) fun _ _ _ h => h)
    cases h5
    refine letV_intro (fun last_7 elast_7 => ?_)
    refine b_fldAddV 0 2 K_Sender rfl d_int (d_var 0 (P := rV (.ref a0_)) rfl rfl) elast_7 (fun Gs8 s8 => ?_)
    refine b_app 2 (P := rS text_6) rfl (d_fld 4 (P := rV (.ref l0_)) K_Sender (d_var 0 (P := rV (.ref a0_)) rfl rfl) List.mem_cons_self rfl) (d_var 3 (P := rS text_6) rfl rfl) (by have hq := Rs.length h0_; omega) (fun v9 Gs10 s10 h11 => ?_)
    have h13 := Rs.snoc h11 (Rs.mono (s2.trans (s3.trans (s8.trans s10))) h0_)
    refine letV_intro (fun kept_12 ekept_12 => ?_)
    rw [← ekept_12] at h13
    have nkept_12 : kept_12.length = self_.2.2.2.2.length + 1 := by rw [ekept_12, List.length_append]; rfl
    exact b_ret (P := rS text_6) (d_var 3 (P := rS text_6) rfl rfl) (fun v_ Gs14 s14 h_ => ⟨[], [(a0_, HO.ins (clA mg "Sender") dx0_ (nf_Sender.zip [.str (SX.S self_.1), .str (SX.S self_.2.1), .int last_7, .int self_.2.2.2.1, .ref l0_])), (dx0_, HO.own a0_), (l0_, HO.lst (u0_ ++ [v9]))], (List.Perm.refl _), ⟨_, _, _, _, _, _, rfl, rfl, (Rs.mono s14 h13), h_⟩⟩)
end Ck28

set_option synthInstance.maxSize 10000
namespace Ck28
open PySem L2 PyProof.Rows J
abbrev s_law_dispatched : Stmt := PySem.Challenge.pw_corebank_k28_sender.main.body.getD 37 (.Pass ⟨0, 0, 0, 0⟩)
abbrev N_law_dispatched : List Str := ["_law_end", "_law_ends", "_law_sent", "_law_source_here", "_law_many", "_law_k", "_law_kind_here", "_law_fields", "_law_passed", "_law_text_here", "_law_j"]
theorem sc_law_dispatched : FnScope ["_law_end", "_law_ends", "_law_sent", "_law_source_here", "_law_many", "_law_k", "_law_kind_here", "_law_fields", "_law_passed", "_law_text_here", "_law_j"] ["_law_end", "_law_ends", "_law_sent", "_law_source_here", "_law_many"] (defScope s_law_dispatched) := ⟨rfl, rfl, rfl, by decide +kernel, rfl, by decide +kernel, by decide +kernel⟩
theorem ok_law_dispatched {P : Program} {w : World} {K : PySem.W.Frag} {mg : Str → Option Value} {base : Heap} {f : Addr} {fd : FuncData} (F : Fun K "_law_dispatched" "_law_dispatched" s_law_dispatched f fd) (b : Binds K fd ["_law_end", "_law_ends", "_law_sent", "_law_source_here", "_law_many"] []) (hmg : mg "_law_dispatched" = some (.ref f)) {adr : _root_.Fin 7 → Addr} {B0 : Addr} (Er : Errs K mg nm_ adr B0) (K_Sender : ClsK K (clA mg "Sender") nf_Sender) (m_isinstance : mg "isinstance" = none) (m_len : mg "len" = none) (m_list : mg "list" = none) (m_range : mg "range" = none) (m_str : mg "str" = none) (F_Sender_dispatch : Mt0 P w K mg base (L2.CX P w) 3 (clA mg "Sender") "dispatch" 3 (sp_Sender_dispatch K mg adr)) (F_law_kind : Fn0 P w K mg base CX0 3 "_law_kind" 1 (sp_law_kind K)) (F_law_pick : Fn0 P w K mg base CX0 1 "_law_pick" 2 (sp_law_pick K)) (F_law_text : Fn0 P w K mg base CX0 2 "_law_text" 2 (sp_law_text K)) (F_law_written : Fn0 P w K mg base CX0 2 "_law_written" 5 (sp_law_written K)) :
    Fn0 P w K mg base CX0 4 "_law_dispatched" 5 (sp_law_dispatched K mg) := by
  have hsl := sizeLine_eq
  refine ⟨f, fd, ["_law_end", "_law_ends", "_law_sent", "_law_source_here", "_law_many"], fn_okM (pre := pre_law_dispatched K mg) (post := post_law_dispatched K mg) F sc_law_dispatched b (fun i : (Mo_Sender × (List (List Nat)) × (List (List Nat)) × (List Int) × Int) => b_law_dispatched i.1 i.2.1 i.2.2.1 i.2.2.2.1 i.2.2.2.2) (fun i G mc vs h => ?_) (fun cdv A outer s H E i G mc cs vs hr hp => ?_), hmg, F.kp, b, rfl⟩
  · obtain ⟨_, _, _, _, _, _, _, _, _, _, h, _⟩ := h
    rw [h]
    rfl
  obtain ⟨end_, ends_, sent_, source_here_, many_⟩ := i
  obtain ⟨v1_, v4_, a0_, dx0_, l0_, u0_, a2_, u2_, a3_, u3_, rfl, rfl, h0_, h2_, h3_, h1_, h4_, hpre⟩ := hp
  replace h0_ : Rs rS G end_.2.2.2.2 u0_ := h0_
  replace h2_ : Rs rS G sent_ u2_ := h2_
  replace h3_ : Rs rI G source_here_ u3_ := h3_
  cases h4_
  show B _ _ _ [some (.ref a0_), some v1_, some (.ref a2_), some (.ref a3_), some (.int many_), none, none, none, none, none, none] G ((a0_, HO.ins (clA mg "Sender") dx0_ (nf_Sender.zip [.str (SX.S end_.1), .str (SX.S end_.2.1), .int end_.2.2.1, .int end_.2.2.2.1, .ref l0_])) :: (dx0_, HO.own a0_) :: (l0_, HO.lst u0_) :: (a2_, HO.lst u2_) :: (a3_, HO.lst u3_) :: cs) _ (b_law_dispatched end_ ends_ sent_ source_here_ many_)
  unfold b_law_dispatched
  try dsimp only at hpre
  have hl0 := hpre.2.1
  have he2 := hpre.2.2.1
  have hm0 := hpre.2.2.2.1
  have hm1 := hpre.2.2.2.2
  refine b_for (f := (st_law_dispatched_1 ends_)) (s0 := (end_, sent_, source_here_)) (xs := (rng 0 many_)) (fun n_ (z1 : (Mo_Sender × (List (List Nat)) × (List Int))) σ_ G_ cs_ => ∃ dx4 : Addr, ∃ l5 : Addr, ∃ us6 : List V, ∃ us8 : List V, ∃ us10 : List V, ∃ o12 : Option V, ∃ o13 : Option V, ∃ o14 : Option V, ∃ o15 : Option V, ∃ o16 : Option V, ∃ o17 : Option V, σ_ = [some (.ref a0_), some v1_, some (.ref a2_), some (.ref a3_), some (.int many_), o12, o13, o14, o15, o16, o17] ∧ (a0_, HO.ins (clA mg "Sender") dx4 (nf_Sender.zip [.str (SX.S z1.1.1), .str (SX.S z1.1.2.1), .int z1.1.2.2.1, .int z1.1.2.2.2.1, .ref l5])) :: (dx4, HO.own a0_) :: (l5, HO.lst us6) :: (a2_, HO.lst us8) :: (a3_, HO.lst us10) :: cs = cs_ ∧ Rs rS G_ z1.1.2.2.2.2 us6 ∧ Rs rS G_ z1.2.1 us8 ∧ Rs rI G_ z1.2.2 us10 ∧ (z1.2.2.length = 2) ∧ z1.2.1.length ≤ sent_.length + 1 * n_ ∧ ((∃ d, Snd z1.1 (ixg ends_ 0) (ixg ends_ 1) z1.2.1 d) ∧ z1.2.1.length = sent_.length + n_)) (i_rng1 m_range (d_var 4 (P := rI many_) rfl rfl) (by omega) (by omega)) (tg_name 5 sc_law_dispatched.nd) rfl PassesOwn.never ?_ ?_ ?_ ?_
  · intro _ s129
    exact ⟨_, _, _, _, _, _, _, _, _, _, _, rfl, rfl, (Rs.mono s129 h0_), (Rs.mono s129 h2_), (Rs.mono s129 h3_), (by first | assumption | omega | (simp only [List.length_cons, List.length_nil] at *; omega)), ⟨Nat.le_add_right _ _, by exact ⟨hpre.1, rfl⟩⟩⟩
  · intro _ _ _ _ _ _
    trivial
  · intro pre_ x18 post_ z1 _ _ _ _ _ hxsz1 hrez1 s19 hNz1 s20 hSz1
    obtain ⟨dx4, l5, us6, us8, us10, o12, o13, o14, o15, o16, o17, rfl, rfl, h7, h9, h11, hiz1_2, hbz1⟩ := hNz1
    obtain ⟨v2, h3, rfl⟩ := hSz1
    have hltz1 : pre_.length < (rng 0 many_).length := by rw [hxsz1, List.length_append, List.length_cons]; omega
    have hmemz1 : x18 ∈ (rng 0 many_) := by rw [hxsz1]; exact List.mem_append_right _ List.mem_cons_self
    try simp only [rng_length, rng_mem, enumL_length] at hltz1 hmemz1
    show B _ _ _ _ _ _ _ (st_law_dispatched_1 ends_ z1 x18)
    unfold st_law_dispatched_1
    cases h3
    obtain ⟨_, ⟨d0, hS⟩, hsl1⟩ := hbz1
    have hs2 : z1.2.1.length + 1 ≤ 2000 := by rw [show z1.2.1.length = _ from hsl1]; omega
    refine letV_intro (fun r24 er24 => ?_)
    have fr24 := kind_ok (s := z1.2.2) (by first | assumption | omega)
    rw [← er24] at fr24
    obtain ⟨lr24, ar24, br24⟩ := fr24
    refine b_setC 6 sc_law_dispatched.nd ?_
    refine ec_callM F_law_kind hr (by decide) ?_
    refine ac_cons ?_
    refine ec_D (P := rV (.ref a3_)) (d_var 3 (P := rV (.ref a3_)) rfl rfl) (fun v_ Gs22 s22 hv_ => ?_)
    cases hv_
    refine ac_nil' (fun Gs23 s23 => ?_)
    refine ⟨(z1.2.2), [(a3_, HO.lst us10)], (a0_, HO.ins (clA mg "Sender") dx4 (nf_Sender.zip [.str (SX.S z1.1.1), .str (SX.S z1.1.2.1), .int z1.1.2.2.1, .int z1.1.2.2.2.1, .ref l5])) :: (dx4, HO.own a0_) :: (l5, HO.lst us6) :: (a2_, HO.lst us8) :: cs, (perm_to (k := 4) rfl (List.Perm.refl _)), ⟨_, _, rfl, rfl, (Rs.mono (s20.trans (s22.trans s23)) h11), (by (try dsimp only); first | assumption | omega | (refine ⟨?_, ?_⟩ <;> omega) | (refine ⟨?_, ?_, ?_⟩ <;> omega) | simp_all)⟩, ?_⟩
    rintro v30 Gs25 mc26 s25 ⟨a27, us28, e_, rfl, h29, h31⟩
    cases e_
    have h32 : Rs rI Gs25 r24.2 us28 := by rw [er24]; exact h29
    have h33 : rS r24.1 Gs25 v30 := by rw [er24]; exact h31
    refine ⟨(a0_, HO.ins (clA mg "Sender") dx4 (nf_Sender.zip [.str (SX.S z1.1.1), .str (SX.S z1.1.2.1), .int z1.1.2.2.1, .int z1.1.2.2.2.1, .ref l5])) :: (dx4, HO.own a0_) :: (l5, HO.lst us6) :: (a2_, HO.lst us8) :: (a3_, HO.lst us28) :: cs, (perm_to (k := 1) rfl (perm_to (k := 1) rfl (perm_to (k := 1) rfl (perm_to (k := 1) rfl (List.Perm.refl _))))), ?_⟩
    intro _
    refine letV_intro (fun kind_here_34 ekind_here_34 => ?_)
    have h35 : rS kind_here_34 Gs25 v30 := by rw [ekind_here_34]; exact h33
    have hq_ : (v30 : V) = .str (SX.S kind_here_34) := h35
    rw [hq_]
    have akind : NameOk kind_here_34 := by rw [ekind_here_34]; exact ar24
    have bkind : kind_here_34 ≠ [97, 99, 107] := by rw [ekind_here_34]; exact br24
    refine letV_intro (fun r41 er41 => ?_)
    have fr41 := pick_ok (s := r24.2) (n := 9) (by first | assumption | omega) (by omega)
    rw [← er41] at fr41
    obtain ⟨lr41, ar41, br41⟩ := fr41
    refine letV_intro (fun r79 er79 => ?_)
    have hlc : r79.2.length = 2 ∧ ∀ w ∈ r79.1, FieldOk 40 w := by rw [er79]; exact map_fields (by assumption)
    have hll : r79.1.length ≤ 8 := by rw [er79, mapS_length, rng_length]; omega
    refine b_setLcI 7 (own := [("_law_j", 10)]) (xs := (rng 0 r41.1)) (r := rS) (f := (lc_law_dispatched_1)) (s0 := (r41.2)) (C := fun _ => True) (Pi := rI) (W := _) rfl sc_law_dispatched.nd rfl (sw_true rfl rfl rfl (by decide +kernel)) (fun (z54 : ((List Int))) G_ cs_ => ∃ us57 : List V, cs_ = (a0_, HO.ins (clA mg "Sender") dx4 (nf_Sender.zip [.str (SX.S z1.1.1), .str (SX.S z1.1.2.1), .int z1.1.2.2.1, .int z1.1.2.2.2.1, .ref l5])) :: (dx4, HO.own a0_) :: (l5, HO.lst us6) :: (a2_, HO.lst us8) :: (a3_, HO.lst us57) :: cs ∧ Rs rI G_ z54 us57 ∧ (z54.length = 2)) (blkOk_by (N := N_law_dispatched) (sc := defScope s_law_dispatched) (by decide +kernel)) ?_ (tgb_name 10 sc_law_dispatched.nd) (fun _ _ _ _ _ _ => trivial) (by rintro _ _ _ ⟨_, _, e⟩; subst e; exact wipe1) ?_ (by (rw [rng_length]; omega)) ?_
    · refine ic_rng1 m_range ?_
      refine ec_callM F_law_pick hr (by decide) ?_
      refine ac_cons ?_
      refine ec_D (P := rV (.ref a3_)) (d_var 3 (P := rV (.ref a3_)) rfl rfl) (fun v_ Gs36 s36 hv_ => ?_)
      cases hv_
      refine ac_cons ?_
      refine ec_D (P := rI 9) d_int (fun v38 Gs37 s37 h39 => ?_)
      refine ac_nil' (fun Gs40 s40 => ?_)
      refine ⟨(r24.2, 9), [(a3_, HO.lst us28)], (a0_, HO.ins (clA mg "Sender") dx4 (nf_Sender.zip [.str (SX.S z1.1.1), .str (SX.S z1.1.2.1), .int z1.1.2.2.1, .int z1.1.2.2.2.1, .ref l5])) :: (dx4, HO.own a0_) :: (l5, HO.lst us6) :: (a2_, HO.lst us8) :: cs, (perm_to (k := 4) rfl (List.Perm.refl _)), ⟨_, _, _, rfl, rfl, (Rs.mono (s36.trans (s37.trans s40)) h32), (Mono.mono s40 h39), (by exact ⟨by first | assumption | omega, by first | omega | (dsimp only; omega), by first | omega | (dsimp only; omega)⟩)⟩, ?_⟩
      rintro v48 Gs42 mc43 s42 ⟨v44, a45, us46, e_, rfl, h47, h49⟩
      cases e_
      have h50 : Rs rI Gs42 r41.2 us46 := by rw [er41]; exact h47
      have h51 : rI r41.1 Gs42 v48 := by rw [er41]; exact h49
      refine ⟨(a0_, HO.ins (clA mg "Sender") dx4 (nf_Sender.zip [.str (SX.S z1.1.1), .str (SX.S z1.1.2.1), .int z1.1.2.2.1, .int z1.1.2.2.2.1, .ref l5])) :: (dx4, HO.own a0_) :: (l5, HO.lst us6) :: (a2_, HO.lst us8) :: (a3_, HO.lst us46) :: cs, (perm_to (k := 1) rfl (perm_to (k := 1) rfl (perm_to (k := 1) rfl (perm_to (k := 1) rfl (List.Perm.refl _))))), ?_⟩
      refine ⟨_, h51, (by omega), (by omega), rfl, ?_⟩
      exact ⟨us46, rfl, h50, (by first | assumption | omega | (simp only [List.length_cons, List.length_nil] at *; omega))⟩
    · intro pre_ x55 post_ hxs_ z54 _ _ _ _ _ c56 s59 hNz54 s60 hSz54 _ _ _ _ _
      obtain ⟨us57, rfl, h58, hiz54_0⟩ := hNz54
      obtain ⟨v52, h53, rfl⟩ := hSz54
      have hltz54 : pre_.length < (rng 0 r41.1).length := by rw [hxs_, List.length_append, List.length_cons]; omega
      have hmemz54 : x55 ∈ (rng 0 r41.1) := by rw [hxs_]; exact List.mem_append_right _ List.mem_cons_self
      try simp only [rng_length, rng_mem, enumL_length] at hltz54 hmemz54
      cases h53
      obtain ⟨r67, er67⟩ : ∃ z_, z_ = (m_law_text z54 40) := ⟨_, rfl⟩
      have fr67 := text_ok (s := z54) (m := 40) (by first | assumption | omega) (by omega) (by omega)
      rw [← er67] at fr67
      obtain ⟨lr67, ar67⟩ := fr67
      have a1r67 := ar67.1
      refine ec_callM F_law_text hr (by decide) ?_
      refine ac_cons ?_
      refine ec_D (P := rV (.ref a3_)) (d_var 3 (P := rV (.ref a3_)) rfl rfl) (fun v_ Gs62 s62 hv_ => ?_)
      cases hv_
      refine ac_cons ?_
      refine ec_D (P := rI 40) d_int (fun v64 Gs63 s63 h65 => ?_)
      refine ac_nil' (fun Gs66 s66 => ?_)
      refine ⟨(z54, 40), [(a3_, HO.lst us57)], c56 :: (a0_, HO.ins (clA mg "Sender") dx4 (nf_Sender.zip [.str (SX.S z1.1.1), .str (SX.S z1.1.2.1), .int z1.1.2.2.1, .int z1.1.2.2.2.1, .ref l5])) :: (dx4, HO.own a0_) :: (l5, HO.lst us6) :: (a2_, HO.lst us8) :: cs, (perm_to (k := 5) rfl (List.Perm.refl _)), ⟨_, _, _, rfl, rfl, (Rs.mono (s60.trans (s62.trans (s63.trans s66))) h58), (Mono.mono s66 h65), (by exact ⟨by first | assumption | omega, by first | omega | (dsimp only; omega), by first | omega | (dsimp only; omega)⟩)⟩, ?_⟩
      rintro v74 Gs68 mc69 s68 ⟨v70, a71, us72, e_, rfl, h73, h75⟩
      cases e_
      have h76 : Rs rI Gs68 r67.2 us72 := by rw [er67]; exact h73
      have h77 : rS r67.1 Gs68 v74 := by rw [er67]; exact h75
      refine ⟨c56 :: (a0_, HO.ins (clA mg "Sender") dx4 (nf_Sender.zip [.str (SX.S z1.1.1), .str (SX.S z1.1.2.1), .int z1.1.2.2.1, .int z1.1.2.2.2.1, .ref l5])) :: (dx4, HO.own a0_) :: (l5, HO.lst us6) :: (a2_, HO.lst us8) :: (a3_, HO.lst us72) :: cs, (perm_to (k := 1) rfl (perm_to (k := 1) rfl (perm_to (k := 1) rfl (perm_to (k := 1) rfl (perm_to (k := 1) rfl (List.Perm.refl _)))))), ?_⟩
      have ef78 : lc_law_dispatched_1 z54 x55 = (r67.1, (r67.2)) := by unfold lc_law_dispatched_1; (try simp only [letV]); subst er67; (try rfl)
      exact ⟨_, List.Perm.refl _, by rw [ef78]; exact h77, by rw [ef78]; exact ⟨us72, rfl, h76, (by first | assumption | omega | (simp only [List.length_cons, List.length_nil] at *; omega))⟩⟩
    · rintro l80 us81 Gs82 _ s82 h83 ⟨us85, rfl, h86, hil80_0⟩
      have h84 : Rs rS Gs82 r79.1 us81 := by rw [er79]; exact h83
      have h87 : Rs rI Gs82 r79.2 us85 := by rw [er79]; exact h86
      have hjl80_0 : r79.2.length = 2 := by rw [er79]; exact hil80_0
      refine letV_intro (fun fields_88 efields_88 => ?_)
      have h89 : Rs rS Gs82 fields_88 us81 := by rw [efields_88]; exact h84
      have hfl : fields_88.length ≤ 8 := by rw [efields_88]; exact hll
      have hff : ∀ f ∈ fields_88, FieldOk 40 f := by rw [efields_88]; exact hlc.2
      have hzs90 := h89
      refine b_freeze 0 rfl (fun s90 h91 => ?_)
      have kh91 : (rL K rS) fields_88 _ (.ref l80) := ⟨_, _, rfl, SqL.of h91, Rs.mono s90 hzs90⟩
      refine b_setV (r := (rL K rS)) 8 sc_law_dispatched.nd (d_new (n_listL (r := rS) m_list (D.imp (P := (rL K rS) fields_88) (d_var 7 (P := (rL K rS) fields_88) rfl kh91) fun _ _ => rdL_of))) (fun passed_92 epassed_92 v94 Gs93 s93 h95 => ?_)
      refine letV_intro (fun r103 er103 => ?_)
      obtain ⟨e9r103, qr103, Sr103⟩ := disp_right (k := kind_here_34) (fs := passed_92) hS akind bkind (by rw [epassed_92]; exact hfl) (by rw [epassed_92]; exact hff) (by omega)
      have fr103 : r103 = (m_law_written kind_here_34 (ixg ends_ 0) (ixg ends_ 1) (decL ((z1.2.1.length : Int) + 1)) passed_92, e9r103) := by rw [er103, qr103]; rfl
      refine b_setC 9 sc_law_dispatched.nd ?_
      refine ec_methS (adr := adr) (z1.1, kind_here_34, passed_92) F_Sender_dispatch K_Sender.cl (by exact disp_sure hS akind bkind (by rw [epassed_92]; exact hfl) (by rw [epassed_92]; exact hff) (by omega)) hr (by decide) (d_var 0 (P := rV (.ref a0_)) rfl rfl) List.mem_cons_self (lookup_zip_no (by decide +kernel)) ?_
      refine ac_cons ?_
      refine ec_D (P := rS kind_here_34) (d_var 6 (P := rS kind_here_34) rfl rfl) (fun v97 Gs96 s96 h98 => ?_)
      refine ac_cons ?_
      refine ec_D (P := (rL K rS) passed_92) (d_var 8 (P := (rL K rS) passed_92) rfl (Mono.mono s96 h95)) (fun v100 Gs99 s99 h101 => ?_)
      refine ac_nil' (fun Gs102 s102 => ?_)
      refine ⟨[(a0_, HO.ins (clA mg "Sender") dx4 (nf_Sender.zip [.str (SX.S z1.1.1), .str (SX.S z1.1.2.1), .int z1.1.2.2.1, .int z1.1.2.2.2.1, .ref l5])), (dx4, HO.own a0_), (l5, HO.lst us6)], (a2_, HO.lst us8) :: (a3_, HO.lst us85) :: cs, (List.Perm.refl _), ⟨_, _, _, _, _, _, rfl, rfl, (Rs.mono (s20.trans (s22.trans (s23.trans (s25.trans (s82.trans (s90.trans (s93.trans (s96.trans (s99.trans s102))))))))) h7), (Mono.mono (s99.trans s102) h98), (Mono.mono s102 h101), (by exact pre_disp hS akind (by rw [epassed_92]; exact hfl) (by rw [epassed_92]; exact hff))⟩, ?_⟩
      rintro v113 Gs104 mc105 s104 ⟨v106, v107, a108, dx109, l110, us111, e_, rfl, h112, h114⟩
      cases e_
      have h115 : Rs rS Gs104 r103.2.2.2.2.2 us111 := by rw [er103]; exact h112
      have h116 : rS r103.1 Gs104 v113 := by rw [er103]; exact h114
      refine ⟨(a0_, HO.ins (clA mg "Sender") dx109 (nf_Sender.zip [.str (SX.S r103.2.1), .str (SX.S r103.2.2.1), .int r103.2.2.2.1, .int r103.2.2.2.2.1, .ref l110])) :: (dx109, HO.own a0_) :: (l110, HO.lst us111) :: (a2_, HO.lst us8) :: (a3_, HO.lst us85) :: cs, (by rw [er103]; exact (List.Perm.refl _)), ?_⟩
      intro _
      refine letV_intro (fun text_here_117 etext_here_117 => ?_)
      have h118 : rS text_here_117 Gs104 v113 := by rw [etext_here_117]; exact h116
      have hq_ : (v113 : V) = .str (SX.S text_here_117) := h118
      rw [hq_]
      refine b_app 3 (P := rS (m_law_written kind_here_34 (ixg ends_ 0) (ixg ends_ 1) (decL ((z1.2.1.length : Int) + 1)) fields_88)) rfl (d_var 2 (P := rV (.ref a2_)) rfl rfl) (d_callQ (P := rS (m_law_written kind_here_34 (ixg ends_ 0) (ixg ends_ 1) (decL ((z1.2.1.length : Int) + 1)) fields_88)) (kind_here_34, (ixg ends_ 0), (ixg ends_ 1), (decL ((z1.2.1.length : Int) + 1)), fields_88) F_law_written hr (by decide) (a_cons (P := rS kind_here_34) (d_var 6 (P := rS kind_here_34) rfl rfl) (a_cons (P := rS (ixg ends_ 0)) (d_ixL (r := rS) (xs := ends_) (i := 0) (x := (ixg ends_ 0)) (D.imp (P := (rL K rS) ends_) (d_var 1 (P := (rL K rS) ends_) rfl (Mono.mono (s19.trans (s20.trans (s22.trans (s23.trans (s25.trans (s82.trans (s90.trans (s93.trans (s96.trans (s99.trans (s102.trans s104))))))))))) h1_)) fun _ _ => rdL_of) d_int (atI_ixg (by first | (constructor <;> omega) | (simp only [List.length_cons, List.length_nil]; constructor <;> omega) | exact ix_mod (by omega) | (simp only [decide_eq_true_eq, decide_eq_false_iff_not] at *; constructor <;> omega) | (simp only [decide_eq_true_eq, decide_eq_false_iff_not, Bool.and_eq_true, Bool.or_eq_true, Bool.or_eq_false_iff, Bool.not_eq_true', Bool.not_eq_false', Bool.not_not, ne_eq, Int.not_lt, Int.not_le] at *; constructor <;> omega)))) (a_cons (P := rS (ixg ends_ 1)) (d_ixL (r := rS) (xs := ends_) (i := 1) (x := (ixg ends_ 1)) (D.imp (P := (rL K rS) ends_) (d_var 1 (P := (rL K rS) ends_) rfl (Mono.mono (s19.trans (s20.trans (s22.trans (s23.trans (s25.trans (s82.trans (s90.trans (s93.trans (s96.trans (s99.trans (s102.trans s104))))))))))) h1_)) fun _ _ => rdL_of) d_int (atI_ixg (by first | (constructor <;> omega) | (simp only [List.length_cons, List.length_nil]; constructor <;> omega) | exact ix_mod (by omega) | (simp only [decide_eq_true_eq, decide_eq_false_iff_not] at *; constructor <;> omega) | (simp only [decide_eq_true_eq, decide_eq_false_iff_not, Bool.and_eq_true, Bool.or_eq_true, Bool.or_eq_false_iff, Bool.not_eq_true', Bool.not_eq_false', Bool.not_not, ne_eq, Int.not_lt, Int.not_le] at *; constructor <;> omega)))) (a_cons (P := rS (decL ((z1.2.1.length : Int) + 1))) (d_strI m_str (d_add (d_lenL (r := rS) m_len (d_var 2 (P := rdL K _ rS z1.2.1) rfl (rdL_cell (List.mem_cons_of_mem _ (List.mem_cons_of_mem _ (List.mem_cons_of_mem _ List.mem_cons_self))) (Rs.mono (s20.trans (s22.trans (s23.trans (s25.trans (s82.trans (s90.trans (s93.trans (s96.trans (s99.trans (s102.trans s104)))))))))) h9)))) d_int) (by first | omega | (split <;> omega)) (by first | omega | (split <;> omega))) (a_cons (P := (rL K rS) fields_88) (d_var 7 (P := (rL K rS) fields_88) rfl (Mono.mono (s93.trans (s96.trans (s99.trans (s102.trans s104)))) kh91)) a_nil))))) (fun _ _ _ h => by obtain ⟨v0, w0, rfl, h0, v1, w1, rfl, h1, v2, w2, rfl, h2, v3, w3, rfl, h3, v4, w4, rfl, h4, rfl⟩ := h; exact ⟨v0, v1, v2, v3, v4, rfl, h0, h1, h2, h3, h4, (by (try dsimp only); exact wok_disp akind hS.2.1 hS.2.2.1 (by omega) (by omega) hfl hff)⟩) fun _ _ h => h) (by have hq := Rs.length h9; omega) (fun v119 Gs120 s120 h121 => ?_)
      have h123 := Rs.snoc h121 (Rs.mono (s20.trans (s22.trans (s23.trans (s25.trans (s82.trans (s90.trans (s93.trans (s96.trans (s99.trans (s102.trans (s104.trans s120))))))))))) h9)
      refine letV_intro (fun sent_122 esent_122 => ?_)
      rw [← esent_122] at h123
      have nsent_122 : sent_122.length = z1.2.1.length + 1 := by rw [esent_122, List.length_append]; rfl
      refine b_ifx (t_w (w_or (t_not (t_val (d_isi (h := (inferInstance : HasTy K rS "str")) (u := "str") (k := true) m_isinstance m_str (d_var 9 (P := rS text_here_117) rfl rfl)))) fun hk127 => (w_or (t_cmp op_ne (nomark _) (d_var 9 (P := rS text_here_117) rfl rfl) (d_ixL (r := rS) (xs := sent_122) (i := (-1)) (x := (ixg sent_122 (-1))) (d_var 2 (P := rdL K _ rS sent_122) rfl (rdL_cell (List.mem_cons_of_mem _ (List.mem_cons_of_mem _ (List.mem_cons_of_mem _ List.mem_cons_self))) h123)) (d_neg d_int) (atI_ixg (by first | (constructor <;> omega) | (simp only [List.length_cons, List.length_nil]; constructor <;> omega) | exact ix_mod (by omega) | (simp only [decide_eq_true_eq, decide_eq_false_iff_not] at *; constructor <;> omega) | (simp only [decide_eq_true_eq, decide_eq_false_iff_not, Bool.and_eq_true, Bool.or_eq_true, Bool.or_eq_false_iff, Bool.not_eq_true', Bool.not_eq_false', Bool.not_not, ne_eq, Int.not_lt, Int.not_le] at *; constructor <;> omega)))) fun _ _ _ _ _ _ hx hy _ q => c_neS hx hy q) fun hk126 => (w_or1 (t_neD (K := K) (r := (rL K rS)) hr (d_var 8 (P := (rL K rS) passed_92) rfl (Mono.mono (s96.trans (s99.trans (s102.trans (s104.trans s120)))) h95)) (d_var 7 (P := (rL K rS) fields_88) rfl (Mono.mono (s93.trans (s96.trans (s99.trans (s102.trans (s104.trans s120))))) kh91)) (by first | exact fun f hf c hc => Nat.lt_trans ((hff f hf).2 c hc).1 (by decide) | (rw [epassed_92]; exact fun f hf c hc => Nat.lt_trans ((hff f hf).2 c hc).1 (by decide))) (by first | exact fun f hf c hc => Nat.lt_trans ((hff f hf).2 c hc).1 (by decide) | (rw [epassed_92]; exact fun f hf c hc => Nat.lt_trans ((hff f hf).2 c hc).1 (by decide)))))))) ?_ ?_
      · intro hc124 Gs125 s125
        have dhc124 := hc124
        try simp only [decide_eq_true_eq, decide_eq_false_iff_not, Bool.and_eq_true, Bool.and_eq_false_imp, Bool.or_eq_true, Bool.or_eq_false_iff, Bool.not_eq_true', Bool.not_eq_false', Bool.not_not, ne_eq, Int.not_lt, Int.not_le] at dhc124
        exact b_ret (P := rB false) d_bl (fun v_ Gs128 s128 h_ => ⟨[], [(a0_, HO.ins (clA mg "Sender") dx109 (nf_Sender.zip [.str (SX.S r103.2.1), .str (SX.S r103.2.2.1), .int r103.2.2.2.1, .int r103.2.2.2.2.1, .ref l110])), (dx109, HO.own a0_), (l110, HO.lst us111), (a2_, HO.lst (us8 ++ [v119])), (a3_, HO.lst us85)], (List.Perm.refl _), ⟨_, _, _, _, _, _, _, _, _, _, rfl, rfl, (Rs.mono (s120.trans (s125.trans s128)) h115), (Rs.mono (s125.trans s128) h123), (Rs.mono (s90.trans (s93.trans (s96.trans (s99.trans (s102.trans (s104.trans (s120.trans (s125.trans s128)))))))) h87), h_⟩⟩)
      · intro hc124 Gs125 s125
        have dhc124 := hc124
        try simp only [decide_eq_true_eq, decide_eq_false_iff_not, Bool.and_eq_true, Bool.and_eq_false_imp, Bool.or_eq_true, Bool.or_eq_false_iff, Bool.not_eq_true', Bool.not_eq_false', Bool.not_not, ne_eq, Int.not_lt, Int.not_le] at dhc124
        exact b_nil (by refine ⟨_, _, _, _, _, _, _, _, _, _, _, rfl, rfl, (Rs.mono (s120.trans s125) h115), (Rs.mono s125 h123), (Rs.mono (s90.trans (s93.trans (s96.trans (s99.trans (s102.trans (s104.trans (s120.trans s125))))))) h87), (by first | assumption | omega | (simp only [List.length_cons, List.length_nil] at *; omega)), ⟨by first | omega | (simp only [List.length_append, List.length_cons, List.length_nil] at *; omega), by (refine ⟨⟨d0, ?_⟩, by dsimp only; omega⟩; rw [fr103, esent_122, ← epassed_92]; exact Sr103)⟩⟩)
  · intro n_ z1 _ _ _ hnz1 s130 hNz1 hfz1
    obtain ⟨dx4, l5, us6, us8, us10, o12, o13, o14, o15, o16, o17, rfl, rfl, h7, h9, h11, hiz1_2, hbz1⟩ := hNz1
    try simp only [rng_length, enumL_length] at hnz1
    exact b_ret (P := rB true) d_bl (fun v_ Gs131 s131 h_ => ⟨[], [(a0_, HO.ins (clA mg "Sender") dx4 (nf_Sender.zip [.str (SX.S z1.1.1), .str (SX.S z1.1.2.1), .int z1.1.2.2.1, .int z1.1.2.2.2.1, .ref l5])), (dx4, HO.own a0_), (l5, HO.lst us6), (a2_, HO.lst us8), (a3_, HO.lst us10)], (List.Perm.refl _), ⟨_, _, _, _, _, _, _, _, _, _, rfl, rfl, (Rs.mono s131 h7), (Rs.mono s131 h9), (Rs.mono s131 h11), h_⟩⟩)
end Ck28

set_option synthInstance.maxSize 10000
namespace Ck28
open PySem L2 PyProof.Rows J
abbrev s_law_errors : Stmt := PySem.Challenge.pw_corebank_k28_sender.main.body.getD 33 (.Pass ⟨0, 0, 0, 0⟩)
abbrev N_law_errors : List Str := ["_law_e", "_law_found"]
theorem sc_law_errors : FnScope ["_law_e", "_law_found"] ["_law_e"] (defScope s_law_errors) := ⟨rfl, rfl, rfl, by decide +kernel, rfl, by decide +kernel, by decide +kernel⟩
theorem ok_law_errors {P : Program} {w : World} {K : PySem.W.Frag} {mg : Str → Option Value} {base : Heap} {f : Addr} {fd : FuncData} (F : Fun K "_law_errors" "_law_errors" s_law_errors f fd) (b : Binds K fd ["_law_e"] []) (hmg : mg "_law_errors" = some (.ref f)) {adr : _root_.Fin 7 → Addr} {B0 : Addr} (Er : Errs K mg nm_ adr B0) (m_ValueError : mg "ValueError" = none) (m_isinstance : mg "isinstance" = none) :
    FnX P w K mg base 1 "_law_errors" 1 (sp_law_errors K adr) := by
  have hsl := sizeLine_eq
  refine fn_mkX F sc_law_errors b hmg b_law_errors (fun cdv A outer s H E p e_ G cs hr hz hf => ?_)
  show B _ _ _ [some (.ref p.1), none] G cs _ (b_law_errors e_)
  unfold b_law_errors
  refine b_setN 1 sc_law_errors.nd (n_lst (r := rS) (xs := ([] : (List (List Nat)))) a_nil ls_n) (fun l2 us3 Gs4 s4 h5 => ?_)
  refine letV_intro (fun found_1 efound_1 => ?_)
  rw [← efound_1] at h5
  have nfound_1 : found_1.length = 0 := by rw [efound_1]; rfl
  refine b_if (S' := ((List (List Nat)))) (fun (z8 : ((List (List Nat)))) σ_ G_ cs_ => ∃ us9 : List V, σ_ = [some (.ref p.1), some (.ref l2)] ∧ (l2, HO.lst us9) :: cs = cs_ ∧ Rs rS G_ z8 us9 ∧ z8.length ≤ found_1.length + 1) (t_val (d_isE e_ 1 Er hz hf List.mem_cons_self m_isinstance (d_var 0 (P := rV (.ref p.1)) rfl rfl) rfl)) ?_ ?_ ?_
  · intro hc6 Gs7 s7
    have dhc6 := hc6
    try simp only [decide_eq_true_eq, decide_eq_false_iff_not, Bool.and_eq_true, Bool.and_eq_false_imp, Bool.or_eq_true, Bool.or_eq_false_iff, Bool.not_eq_true', Bool.not_eq_false', Bool.not_not, ne_eq, Int.not_lt, Int.not_le] at dhc6
    refine b_app 0 (P := rS [66, 97, 100, 68, 97, 121]) rfl (d_var 1 (P := rV (.ref l2)) rfl rfl) (d_str (l := [66, 97, 100, 68, 97, 121]) (by decide +kernel)) (by have hq := Rs.length h5; omega) (fun v11 Gs12 s12 h13 => ?_)
    have h15 := Rs.snoc h13 (Rs.mono (s7.trans s12) h5)
    refine letV_intro (fun found_14 efound_14 => ?_)
    rw [← efound_14] at h15
    have nfound_14 : found_14.length = found_1.length + 1 := by rw [efound_14, List.length_append]; rfl
    exact b_nil (by refine ⟨_, rfl, rfl, h15, by first | omega | (simp only [List.length_append, List.length_cons, List.length_nil] at *; omega)⟩)
  · intro hc6 Gs7 s7
    have dhc6 := hc6
    try simp only [decide_eq_true_eq, decide_eq_false_iff_not, Bool.and_eq_true, Bool.and_eq_false_imp, Bool.or_eq_true, Bool.or_eq_false_iff, Bool.not_eq_true', Bool.not_eq_false', Bool.not_not, ne_eq, Int.not_lt, Int.not_le] at dhc6
    exact b_nil (by refine ⟨_, rfl, rfl, (Rs.mono s7 h5), by first | omega | (simp only [List.length_append, List.length_cons, List.length_nil] at *; omega)⟩)
  · intro z8 _ _ _ sz8 hNz8 hmz8
    obtain ⟨us9, rfl, rfl, h10, hbz8⟩ := hNz8
    refine b_if (S' := ((List (List Nat)))) (fun (z18 : ((List (List Nat)))) σ_ G_ cs_ => ∃ us19 : List V, σ_ = [some (.ref p.1), some (.ref l2)] ∧ (l2, HO.lst us19) :: cs = cs_ ∧ Rs rS G_ z18 us19 ∧ z18.length ≤ z8.length + 1) (t_val (d_isE e_ 0 Er hz hf List.mem_cons_self m_isinstance (d_var 0 (P := rV (.ref p.1)) rfl rfl) rfl)) ?_ ?_ ?_
    · intro hc16 Gs17 s17
      have dhc16 := hc16
      try simp only [decide_eq_true_eq, decide_eq_false_iff_not, Bool.and_eq_true, Bool.and_eq_false_imp, Bool.or_eq_true, Bool.or_eq_false_iff, Bool.not_eq_true', Bool.not_eq_false', Bool.not_not, ne_eq, Int.not_lt, Int.not_le] at dhc16
      refine b_app 0 (P := rS [66, 97, 100, 86, 97, 108, 117, 101]) rfl (d_var 1 (P := rV (.ref l2)) rfl rfl) (d_str (l := [66, 97, 100, 86, 97, 108, 117, 101]) (by decide +kernel)) (by have hq := Rs.length h10; omega) (fun v21 Gs22 s22 h23 => ?_)
      have h25 := Rs.snoc h23 (Rs.mono (s17.trans s22) h10)
      refine letV_intro (fun found_24 efound_24 => ?_)
      rw [← efound_24] at h25
      have nfound_24 : found_24.length = z8.length + 1 := by rw [efound_24, List.length_append]; rfl
      exact b_nil (by refine ⟨_, rfl, rfl, h25, by first | omega | (simp only [List.length_append, List.length_cons, List.length_nil] at *; omega)⟩)
    · intro hc16 Gs17 s17
      have dhc16 := hc16
      try simp only [decide_eq_true_eq, decide_eq_false_iff_not, Bool.and_eq_true, Bool.and_eq_false_imp, Bool.or_eq_true, Bool.or_eq_false_iff, Bool.not_eq_true', Bool.not_eq_false', Bool.not_not, ne_eq, Int.not_lt, Int.not_le] at dhc16
      exact b_nil (by refine ⟨_, rfl, rfl, (Rs.mono s17 h10), by first | omega | (simp only [List.length_append, List.length_cons, List.length_nil] at *; omega)⟩)
    · intro z18 _ _ _ sz18 hNz18 hmz18
      obtain ⟨us19, rfl, rfl, h20, hbz18⟩ := hNz18
      refine b_if (S' := ((List (List Nat)))) (fun (z28 : ((List (List Nat)))) σ_ G_ cs_ => ∃ us29 : List V, σ_ = [some (.ref p.1), some (.ref l2)] ∧ (l2, HO.lst us29) :: cs = cs_ ∧ Rs rS G_ z28 us29 ∧ z28.length ≤ z18.length + 1) (t_val (d_isE e_ 6 Er hz hf List.mem_cons_self m_isinstance (d_var 0 (P := rV (.ref p.1)) rfl rfl) rfl)) ?_ ?_ ?_
      · intro hc26 Gs27 s27
        have dhc26 := hc26
        try simp only [decide_eq_true_eq, decide_eq_false_iff_not, Bool.and_eq_true, Bool.and_eq_false_imp, Bool.or_eq_true, Bool.or_eq_false_iff, Bool.not_eq_true', Bool.not_eq_false', Bool.not_not, ne_eq, Int.not_lt, Int.not_le] at dhc26
        refine b_app 0 (P := rS [68, 97, 109, 97, 103, 101, 100]) rfl (d_var 1 (P := rV (.ref l2)) rfl rfl) (d_str (l := [68, 97, 109, 97, 103, 101, 100]) (by decide +kernel)) (by have hq := Rs.length h20; omega) (fun v31 Gs32 s32 h33 => ?_)
        have h35 := Rs.snoc h33 (Rs.mono (s27.trans s32) h20)
        refine letV_intro (fun found_34 efound_34 => ?_)
        rw [← efound_34] at h35
        have nfound_34 : found_34.length = z18.length + 1 := by rw [efound_34, List.length_append]; rfl
        exact b_nil (by refine ⟨_, rfl, rfl, h35, by first | omega | (simp only [List.length_append, List.length_cons, List.length_nil] at *; omega)⟩)
      · intro hc26 Gs27 s27
        have dhc26 := hc26
        try simp only [decide_eq_true_eq, decide_eq_false_iff_not, Bool.and_eq_true, Bool.and_eq_false_imp, Bool.or_eq_true, Bool.or_eq_false_iff, Bool.not_eq_true', Bool.not_eq_false', Bool.not_not, ne_eq, Int.not_lt, Int.not_le] at dhc26
        exact b_nil (by refine ⟨_, rfl, rfl, (Rs.mono s27 h20), by first | omega | (simp only [List.length_append, List.length_cons, List.length_nil] at *; omega)⟩)
      · intro z28 _ _ _ sz28 hNz28 hmz28
        obtain ⟨us29, rfl, rfl, h30, hbz28⟩ := hNz28
        refine b_if (S' := ((List (List Nat)))) (fun (z38 : ((List (List Nat)))) σ_ G_ cs_ => ∃ us39 : List V, σ_ = [some (.ref p.1), some (.ref l2)] ∧ (l2, HO.lst us39) :: cs = cs_ ∧ Rs rS G_ z38 us39 ∧ z38.length ≤ z28.length + 1) (t_val (d_isE e_ 4 Er hz hf List.mem_cons_self m_isinstance (d_var 0 (P := rV (.ref p.1)) rfl rfl) rfl)) ?_ ?_ ?_
        · intro hc36 Gs37 s37
          have dhc36 := hc36
          try simp only [decide_eq_true_eq, decide_eq_false_iff_not, Bool.and_eq_true, Bool.and_eq_false_imp, Bool.or_eq_true, Bool.or_eq_false_iff, Bool.not_eq_true', Bool.not_eq_false', Bool.not_not, ne_eq, Int.not_lt, Int.not_le] at dhc36
          refine b_app 0 (P := rS [70, 117, 108, 108]) rfl (d_var 1 (P := rV (.ref l2)) rfl rfl) (d_str (l := [70, 117, 108, 108]) (by decide +kernel)) (by have hq := Rs.length h30; omega) (fun v41 Gs42 s42 h43 => ?_)
          have h45 := Rs.snoc h43 (Rs.mono (s37.trans s42) h30)
          refine letV_intro (fun found_44 efound_44 => ?_)
          rw [← efound_44] at h45
          have nfound_44 : found_44.length = z28.length + 1 := by rw [efound_44, List.length_append]; rfl
          exact b_nil (by refine ⟨_, rfl, rfl, h45, by first | omega | (simp only [List.length_append, List.length_cons, List.length_nil] at *; omega)⟩)
        · intro hc36 Gs37 s37
          have dhc36 := hc36
          try simp only [decide_eq_true_eq, decide_eq_false_iff_not, Bool.and_eq_true, Bool.and_eq_false_imp, Bool.or_eq_true, Bool.or_eq_false_iff, Bool.not_eq_true', Bool.not_eq_false', Bool.not_not, ne_eq, Int.not_lt, Int.not_le] at dhc36
          exact b_nil (by refine ⟨_, rfl, rfl, (Rs.mono s37 h30), by first | omega | (simp only [List.length_append, List.length_cons, List.length_nil] at *; omega)⟩)
        · intro z38 _ _ _ sz38 hNz38 hmz38
          obtain ⟨us39, rfl, rfl, h40, hbz38⟩ := hNz38
          refine b_if (S' := ((List (List Nat)))) (fun (z48 : ((List (List Nat)))) σ_ G_ cs_ => ∃ us49 : List V, σ_ = [some (.ref p.1), some (.ref l2)] ∧ (l2, HO.lst us49) :: cs = cs_ ∧ Rs rS G_ z48 us49 ∧ z48.length ≤ z38.length + 1) (t_val (d_isE e_ 2 Er hz hf List.mem_cons_self m_isinstance (d_var 0 (P := rV (.ref p.1)) rfl rfl) rfl)) ?_ ?_ ?_
          · intro hc46 Gs47 s47
            have dhc46 := hc46
            try simp only [decide_eq_true_eq, decide_eq_false_iff_not, Bool.and_eq_true, Bool.and_eq_false_imp, Bool.or_eq_true, Bool.or_eq_false_iff, Bool.not_eq_true', Bool.not_eq_false', Bool.not_not, ne_eq, Int.not_lt, Int.not_le] at dhc46
            refine b_app 0 (P := rS [77, 105, 115, 115, 105, 110, 103]) rfl (d_var 1 (P := rV (.ref l2)) rfl rfl) (d_str (l := [77, 105, 115, 115, 105, 110, 103]) (by decide +kernel)) (by have hq := Rs.length h40; omega) (fun v51 Gs52 s52 h53 => ?_)
            have h55 := Rs.snoc h53 (Rs.mono (s47.trans s52) h40)
            refine letV_intro (fun found_54 efound_54 => ?_)
            rw [← efound_54] at h55
            have nfound_54 : found_54.length = z38.length + 1 := by rw [efound_54, List.length_append]; rfl
            exact b_nil (by refine ⟨_, rfl, rfl, h55, by first | omega | (simp only [List.length_append, List.length_cons, List.length_nil] at *; omega)⟩)
          · intro hc46 Gs47 s47
            have dhc46 := hc46
            try simp only [decide_eq_true_eq, decide_eq_false_iff_not, Bool.and_eq_true, Bool.and_eq_false_imp, Bool.or_eq_true, Bool.or_eq_false_iff, Bool.not_eq_true', Bool.not_eq_false', Bool.not_not, ne_eq, Int.not_lt, Int.not_le] at dhc46
            exact b_nil (by refine ⟨_, rfl, rfl, (Rs.mono s47 h40), by first | omega | (simp only [List.length_append, List.length_cons, List.length_nil] at *; omega)⟩)
          · intro z48 _ _ _ sz48 hNz48 hmz48
            obtain ⟨us49, rfl, rfl, h50, hbz48⟩ := hNz48
            refine b_if (S' := ((List (List Nat)))) (fun (z58 : ((List (List Nat)))) σ_ G_ cs_ => ∃ us59 : List V, σ_ = [some (.ref p.1), some (.ref l2)] ∧ (l2, HO.lst us59) :: cs = cs_ ∧ Rs rS G_ z58 us59 ∧ z58.length ≤ z48.length + 1) (t_val (d_isE e_ 5 Er hz hf List.mem_cons_self m_isinstance (d_var 0 (P := rV (.ref p.1)) rfl rfl) rfl)) ?_ ?_ ?_
            · intro hc56 Gs57 s57
              have dhc56 := hc56
              try simp only [decide_eq_true_eq, decide_eq_false_iff_not, Bool.and_eq_true, Bool.and_eq_false_imp, Bool.or_eq_true, Bool.or_eq_false_iff, Bool.not_eq_true', Bool.not_eq_false', Bool.not_not, ne_eq, Int.not_lt, Int.not_le] at dhc56
              refine b_app 0 (P := rS [78, 111, 116, 65, 108, 108, 111, 119, 101, 100]) rfl (d_var 1 (P := rV (.ref l2)) rfl rfl) (d_str (l := [78, 111, 116, 65, 108, 108, 111, 119, 101, 100]) (by decide +kernel)) (by have hq := Rs.length h50; omega) (fun v61 Gs62 s62 h63 => ?_)
              have h65 := Rs.snoc h63 (Rs.mono (s57.trans s62) h50)
              refine letV_intro (fun found_64 efound_64 => ?_)
              rw [← efound_64] at h65
              have nfound_64 : found_64.length = z48.length + 1 := by rw [efound_64, List.length_append]; rfl
              exact b_nil (by refine ⟨_, rfl, rfl, h65, by first | omega | (simp only [List.length_append, List.length_cons, List.length_nil] at *; omega)⟩)
            · intro hc56 Gs57 s57
              have dhc56 := hc56
              try simp only [decide_eq_true_eq, decide_eq_false_iff_not, Bool.and_eq_true, Bool.and_eq_false_imp, Bool.or_eq_true, Bool.or_eq_false_iff, Bool.not_eq_true', Bool.not_eq_false', Bool.not_not, ne_eq, Int.not_lt, Int.not_le] at dhc56
              exact b_nil (by refine ⟨_, rfl, rfl, (Rs.mono s57 h50), by first | omega | (simp only [List.length_append, List.length_cons, List.length_nil] at *; omega)⟩)
            · intro z58 _ _ _ sz58 hNz58 hmz58
              obtain ⟨us59, rfl, rfl, h60, hbz58⟩ := hNz58
              refine b_if (S' := ((List (List Nat)))) (fun (z68 : ((List (List Nat)))) σ_ G_ cs_ => ∃ us69 : List V, σ_ = [some (.ref p.1), some (.ref l2)] ∧ (l2, HO.lst us69) :: cs = cs_ ∧ Rs rS G_ z68 us69 ∧ z68.length ≤ z58.length + 1) (t_val (d_isE e_ 3 Er hz hf List.mem_cons_self m_isinstance (d_var 0 (P := rV (.ref p.1)) rfl rfl) rfl)) ?_ ?_ ?_
              · intro hc66 Gs67 s67
                have dhc66 := hc66
                try simp only [decide_eq_true_eq, decide_eq_false_iff_not, Bool.and_eq_true, Bool.and_eq_false_imp, Bool.or_eq_true, Bool.or_eq_false_iff, Bool.not_eq_true', Bool.not_eq_false', Bool.not_not, ne_eq, Int.not_lt, Int.not_le] at dhc66
                refine b_app 0 (P := rS [82, 101, 102, 117, 115, 101, 100]) rfl (d_var 1 (P := rV (.ref l2)) rfl rfl) (d_str (l := [82, 101, 102, 117, 115, 101, 100]) (by decide +kernel)) (by have hq := Rs.length h60; omega) (fun v71 Gs72 s72 h73 => ?_)
                have h75 := Rs.snoc h73 (Rs.mono (s67.trans s72) h60)
                refine letV_intro (fun found_74 efound_74 => ?_)
                rw [← efound_74] at h75
                have nfound_74 : found_74.length = z58.length + 1 := by rw [efound_74, List.length_append]; rfl
                exact b_nil (by refine ⟨_, rfl, rfl, h75, by first | omega | (simp only [List.length_append, List.length_cons, List.length_nil] at *; omega)⟩)
              · intro hc66 Gs67 s67
                have dhc66 := hc66
                try simp only [decide_eq_true_eq, decide_eq_false_iff_not, Bool.and_eq_true, Bool.and_eq_false_imp, Bool.or_eq_true, Bool.or_eq_false_iff, Bool.not_eq_true', Bool.not_eq_false', Bool.not_not, ne_eq, Int.not_lt, Int.not_le] at dhc66
                exact b_nil (by refine ⟨_, rfl, rfl, (Rs.mono s67 h60), by first | omega | (simp only [List.length_append, List.length_cons, List.length_nil] at *; omega)⟩)
              · intro z68 _ _ _ sz68 hNz68 hmz68
                obtain ⟨us69, rfl, rfl, h70, hbz68⟩ := hNz68
                refine b_if (S' := ((List (List Nat)))) (fun (z78 : ((List (List Nat)))) σ_ G_ cs_ => ∃ us79 : List V, σ_ = [some (.ref p.1), some (.ref l2)] ∧ (l2, HO.lst us79) :: cs = cs_ ∧ Rs rS G_ z78 us79 ∧ z78.length ≤ z68.length + 1) (t_not (t_val (d_isV e_ Er hz hf List.mem_cons_self m_isinstance m_ValueError (d_var 0 (P := rV (.ref p.1)) rfl rfl)))) ?_ ?_ ?_
                · intro hc76 Gs77 s77
                  have dhc76 := hc76
                  try simp only [decide_eq_true_eq, decide_eq_false_iff_not, Bool.and_eq_true, Bool.and_eq_false_imp, Bool.or_eq_true, Bool.or_eq_false_iff, Bool.not_eq_true', Bool.not_eq_false', Bool.not_not, ne_eq, Int.not_lt, Int.not_le] at dhc76
                  refine b_app 0 (P := rS [110, 111, 116, 32, 98, 101, 108, 111, 119, 32, 86, 97, 108, 117, 101, 69, 114, 114, 111, 114]) rfl (d_var 1 (P := rV (.ref l2)) rfl rfl) (d_str (l := [110, 111, 116, 32, 98, 101, 108, 111, 119, 32, 86, 97, 108, 117, 101, 69, 114, 114, 111, 114]) (by decide +kernel)) (by have hq := Rs.length h70; omega) (fun v81 Gs82 s82 h83 => ?_)
                  have h85 := Rs.snoc h83 (Rs.mono (s77.trans s82) h70)
                  refine letV_intro (fun found_84 efound_84 => ?_)
                  rw [← efound_84] at h85
                  have nfound_84 : found_84.length = z68.length + 1 := by rw [efound_84, List.length_append]; rfl
                  exact b_nil (by refine ⟨_, rfl, rfl, h85, by first | omega | (simp only [List.length_append, List.length_cons, List.length_nil] at *; omega)⟩)
                · intro hc76 Gs77 s77
                  have dhc76 := hc76
                  try simp only [decide_eq_true_eq, decide_eq_false_iff_not, Bool.and_eq_true, Bool.and_eq_false_imp, Bool.or_eq_true, Bool.or_eq_false_iff, Bool.not_eq_true', Bool.not_eq_false', Bool.not_not, ne_eq, Int.not_lt, Int.not_le] at dhc76
                  exact b_nil (by refine ⟨_, rfl, rfl, (Rs.mono s77 h70), by first | omega | (simp only [List.length_append, List.length_cons, List.length_nil] at *; omega)⟩)
                · intro z78 _ _ _ sz78 hNz78 hmz78
                  obtain ⟨us79, rfl, rfl, h80, hbz78⟩ := hNz78
                  have hzs86 := h80
                  refine b_freeze 0 rfl (fun s86 h87 => ?_)
                  have kh87 : (rL K rS) z78 _ (.ref l2) := ⟨_, _, rfl, SqL.of h87, Rs.mono s86 hzs86⟩
                  exact b_ret (P := (rL K rS) z78) (d_var 1 (P := (rL K rS) z78) rfl kh87) (fun _ _ _ h => ⟨⟨[], rfl⟩, h⟩)
end Ck28

set_option synthInstance.maxSize 10000
namespace Ck28
open PySem L2 PyProof.Rows J
abbrev s_Sender_acknowledge : Stmt := inClass (PySem.Challenge.pw_corebank_k28_sender.main.body.getD 23 (.Pass ⟨0, 0, 0, 0⟩)) 3
abbrev N_Sender_acknowledge : List Str := ["self", "number"]
theorem sc_Sender_acknowledge : FnScope ["self", "number"] ["self", "number"] (defScope s_Sender_acknowledge) := ⟨rfl, rfl, rfl, by decide +kernel, rfl, by decide +kernel, by decide +kernel⟩
theorem ok_Sender_acknowledge {P : Program} {w : World} {K : PySem.W.Frag} {mg : Str → Option Value} {base : Heap} {f : Addr} {fd : FuncData} (F : Fun K "acknowledge" "Sender.acknowledge" s_Sender_acknowledge f fd) (b : Binds K fd ["self", "number"] []) (M : Meth K (clA mg "Sender") "acknowledge" f) {adr : _root_.Fin 7 → Addr} {B0 : Addr} (Er : Errs K mg nm_ adr B0) (K_Sender : ClsK K (clA mg "Sender") nf_Sender) :
    Mt0 P w K mg base (L2.CX P w) 1 (clA mg "Sender") "acknowledge" 2 (sp_Sender_acknowledge K mg adr) := by
  have hsl := sizeLine_eq
  refine ⟨f, fd, ["self", "number"], fn_okME (adr := adr) (pre := pre_Sender_acknowledge K mg) (post := post_Sender_acknowledge K mg) (perr := perr_Sender_acknowledge K mg) F sc_Sender_acknowledge b (fun i : (Mo_Sender × Int) => b_Sender_acknowledge i.1 i.2) (fun i G mc vs h => ?_) (fun cdv A outer s H E i G mc cs vs hr hp => ?_), M, b, rfl⟩
  · obtain ⟨_, _, _, _, _, h, _⟩ := h
    rw [h]
    rfl
  obtain ⟨self_, number_⟩ := i
  obtain ⟨v1_, a0_, dx0_, l0_, u0_, rfl, rfl, h0_, h1_⟩ := hp
  replace h0_ : Rs rS G self_.2.2.2.2 u0_ := h0_
  cases h1_
  show B _ (wE3 adr (fun c d _ H => E c d H)) _ [some (.ref a0_), some (.int number_)] G ((a0_, HO.ins (clA mg "Sender") dx0_ (nf_Sender.zip [.str (SX.S self_.1), .str (SX.S self_.2.1), .int self_.2.2.1, .int self_.2.2.2.1, .ref l0_])) :: (dx0_, HO.own a0_) :: (l0_, HO.lst u0_) :: cs) _ (b_Sender_acknowledge self_ number_)
  unfold b_Sender_acknowledge
  refine b_ifx (t_cmp op_gt (nomark _) (d_var 1 (P := rI number_) rfl rfl) (d_fld 2 (P := rI self_.2.2.1) K_Sender (d_var 0 (P := rV (.ref a0_)) rfl rfl) List.mem_cons_self rfl) fun _ _ _ _ _ _ hx hy _ q => c_gt hx hy q) ?_ ?_
  · intro hc1 Gs2 s2
    have dhc1 := hc1
    try simp only [decide_eq_true_eq, decide_eq_false_iff_not, Bool.and_eq_true, Bool.and_eq_false_imp, Bool.or_eq_true, Bool.or_eq_false_iff, Bool.not_eq_true', Bool.not_eq_false', Bool.not_not, ne_eq, Int.not_lt, Int.not_le] at dhc1
    exact b_raiseM (t := (self_)) 3 Er rfl (takes_of rfl rfl rfl rfl) rfl ⟨[], [(a0_, HO.ins (clA mg "Sender") dx0_ (nf_Sender.zip [.str (SX.S self_.1), .str (SX.S self_.2.1), .int self_.2.2.1, .int self_.2.2.2.1, .ref l0_])), (dx0_, HO.own a0_), (l0_, HO.lst u0_)], (List.Perm.refl _), ⟨_, _, _, _, _, rfl, rfl, (Rs.mono s2 h0_)⟩⟩
  · intro hc1 Gs2 s2
    have dhc1 := hc1
    try simp only [decide_eq_true_eq, decide_eq_false_iff_not, Bool.and_eq_true, Bool.and_eq_false_imp, Bool.or_eq_true, Bool.or_eq_false_iff, Bool.not_eq_true', Bool.not_eq_false', Bool.not_not, ne_eq, Int.not_lt, Int.not_le] at dhc1
    refine b_ifl (t_cmp op_gt (nomark _) (d_var 1 (P := rI number_) rfl rfl) (d_fld 3 (P := rI self_.2.2.2.1) K_Sender (d_var 0 (P := rV (.ref a0_)) rfl rfl) List.mem_cons_self rfl) fun _ _ _ _ _ _ hx hy _ q => c_gt hx hy q) ?_ ?_
    · intro hc3 Gs4 s4
      have dhc3 := hc3
      try simp only [decide_eq_true_eq, decide_eq_false_iff_not, Bool.and_eq_true, Bool.and_eq_false_imp, Bool.or_eq_true, Bool.or_eq_false_iff, Bool.not_eq_true', Bool.not_eq_false', Bool.not_not, ne_eq, Int.not_lt, Int.not_le] at dhc3
      refine letV_intro (fun kept_5 ekept_5 => ?_)
      refine b_fldN 0 4 K_Sender rfl (n_slL (r := rS) (d_fld 4 (P := rdL K _ rS self_.2.2.2.2) K_Sender (d_var 0 (P := rV (.ref a0_)) rfl rfl) List.mem_cons_self (rdL_cell (List.mem_cons_of_mem _ (List.mem_cons_of_mem _ List.mem_cons_self)) (Rs.mono (s2.trans s4) h0_))) (do_some (d_sub (d_var 1 (P := rI number_) rfl rfl) (d_fld 3 (P := rI self_.2.2.2.1) K_Sender (d_var 0 (P := rV (.ref a0_)) rfl rfl) List.mem_cons_self rfl))) do_none) (fun _ => (d_var 0 (P := rV (.ref a0_)) rfl rfl)) (fun l7 us8 Gs6 s6 h9 => ?_) (hl := Nat.le_of_ble_eq_true rfl)
      rw [← ekept_5] at h9
      refine letV_intro (fun dropped_11 edropped_11 => ?_)
      refine b_fld (P := rI dropped_11) 1 3 K_Sender rfl (by rw [edropped_11]; exact (d_var 1 (P := rI number_) rfl rfl)) (d_var 0 (P := rV (.ref a0_)) rfl rfl) (fun v13 Gs12 s12 h14 => ?_) (hl := Nat.le_of_ble_eq_true rfl)
      cases h14
      exact b_nil ⟨[(l0_, HO.lst u0_)], [(a0_, HO.ins (clA mg "Sender") dx0_ (nf_Sender.zip [.str (SX.S self_.1), .str (SX.S self_.2.1), .int self_.2.2.1, .int dropped_11, .ref l7])), (dx0_, HO.own a0_), (l7, HO.lst us8)], (perm_to (k := 3) rfl (perm_to (k := 1) rfl (perm_to (k := 1) rfl (List.Perm.refl _)))), ⟨_, _, _, _, _, rfl, rfl, (Rs.mono s12 h9), rfl⟩⟩
    · intro hc3 Gs4 s4
      have dhc3 := hc3
      try simp only [decide_eq_true_eq, decide_eq_false_iff_not, Bool.and_eq_true, Bool.and_eq_false_imp, Bool.or_eq_true, Bool.or_eq_false_iff, Bool.not_eq_true', Bool.not_eq_false', Bool.not_not, ne_eq, Int.not_lt, Int.not_le] at dhc3
      exact b_nil ⟨[], [(a0_, HO.ins (clA mg "Sender") dx0_ (nf_Sender.zip [.str (SX.S self_.1), .str (SX.S self_.2.1), .int self_.2.2.1, .int self_.2.2.2.1, .ref l0_])), (dx0_, HO.own a0_), (l0_, HO.lst u0_)], (List.Perm.refl _), ⟨_, _, _, _, _, rfl, rfl, (Rs.mono (s2.trans s4) h0_), rfl⟩⟩
end Ck28

set_option synthInstance.maxSize 10000
namespace Ck28
open PySem L2 PyProof.Rows J
abbrev s_law_acknowledged : Stmt := PySem.Challenge.pw_corebank_k28_sender.main.body.getD 39 (.Pass ⟨0, 0, 0, 0⟩)
abbrev N_law_acknowledged : List Str := ["_law_end", "_law_sent", "_law_dropped", "_law_source_here", "_law_near", "_law_late", "_law_number", "_law_e"]
theorem sc_law_acknowledged : FnScope ["_law_end", "_law_sent", "_law_dropped", "_law_source_here", "_law_near", "_law_late", "_law_number", "_law_e"] ["_law_end", "_law_sent", "_law_dropped", "_law_source_here"] (defScope s_law_acknowledged) := ⟨rfl, rfl, rfl, by decide +kernel, rfl, by decide +kernel, by decide +kernel⟩
theorem ok_law_acknowledged {P : Program} {w : World} {K : PySem.W.Frag} {mg : Str → Option Value} {base : Heap} {f : Addr} {fd : FuncData} (F : Fun K "_law_acknowledged" "_law_acknowledged" s_law_acknowledged f fd) (b : Binds K fd ["_law_end", "_law_sent", "_law_dropped", "_law_source_here"] []) (hmg : mg "_law_acknowledged" = some (.ref f)) {adr : _root_.Fin 7 → Addr} {B0 : Addr} (Er : Errs K mg nm_ adr B0) (K_Sender : ClsK K (clA mg "Sender") nf_Sender) (m_len : mg "len" = none) (m_max : mg "max" = none) (F_Sender_acknowledge : Mt0 P w K mg base (L2.CX P w) 1 (clA mg "Sender") "acknowledge" 2 (sp_Sender_acknowledge K mg adr)) (F_law_errors : FnX P w K mg base 1 "_law_errors" 1 (sp_law_errors K adr)) (F_law_pick : Fn0 P w K mg base CX0 1 "_law_pick" 2 (sp_law_pick K)) :
    Fn0 P w K mg base CX0 2 "_law_acknowledged" 4 (sp_law_acknowledged K mg) := by
  have hsl := sizeLine_eq
  refine ⟨f, fd, ["_law_end", "_law_sent", "_law_dropped", "_law_source_here"], fn_okM (pre := pre_law_acknowledged K mg) (post := post_law_acknowledged K mg) F sc_law_acknowledged b (fun i : ((Mo_Sender × (List (List Nat)) × Int × (List Int)) × Cells) => b_law_acknowledged i.1.1 i.1.2.1 i.1.2.2.1 i.1.2.2.2) (fun i G mc vs h => ?_) (fun cdv A outer s H E i G mc cs vs hr hp => ?_), hmg, F.kp, b, rfl⟩
  · obtain ⟨_, _, _, _, _, _, _, _, _, h, _⟩ := h
    rw [h]
    rfl
  obtain ⟨⟨end_, sent_, dropped_, source_here_⟩, ro_⟩ := i
  unfold pre_law_acknowledged at hp
  dsimp only at hp
  obtain ⟨v2_, a0_, dx0_, l0_, u0_, a3_, u3_, a1_, u1_, rfl, rfl, rfl, h0_, h3_, h1_, h2_, hpre⟩ := hp
  replace h0_ : Rs rS G end_.2.2.2.2 u0_ := h0_
  replace h3_ : Rs rI G source_here_ u3_ := h3_
  replace h1_ : Rs rS G sent_ u1_ := h1_
  cases h2_
  show B _ _ _ [some (.ref a0_), some (.ref a1_), some (.int dropped_), some (.ref a3_), none, none, none, none] G ((a0_, HO.ins (clA mg "Sender") dx0_ (nf_Sender.zip [.str (SX.S end_.1), .str (SX.S end_.2.1), .int end_.2.2.1, .int end_.2.2.2.1, .ref l0_])) :: (dx0_, HO.own a0_) :: (l0_, HO.lst u0_) :: (a3_, HO.lst u3_) :: (a1_, HO.lst u1_) :: cs) _ (b_law_acknowledged end_ sent_ dropped_ source_here_)
  unfold b_law_acknowledged
  try dsimp only at hpre
  have hd0 := hpre.1
  have hd1 := hpre.2.1
  have hs2 := hpre.2.2.1
  have hl0 := hpre.2.2.2
  refine letV_intro (fun r9 er9 => ?_)
  have fr9 := pick_ok (s := source_here_) (n := (((sent_.length : Int) - dropped_) + 1)) (by first | assumption | omega) (by omega)
  rw [← er9] at fr9
  obtain ⟨lr9, ar9, br9⟩ := fr9
  refine b_setC 4 sc_law_acknowledged.nd ?_
  refine ec_bin op_add ?_
  refine ec_D (P := rI dropped_) (d_var 2 (P := rI dropped_) rfl rfl) (fun v2 Gs1 s1 h3 => ?_)
  refine ec_callM F_law_pick hr (by decide) ?_
  refine ac_cons ?_
  refine ec_D (P := rV (.ref a3_)) (d_var 3 (P := rV (.ref a3_)) rfl rfl) (fun v_ Gs4 s4 hv_ => ?_)
  cases hv_
  refine ac_cons ?_
  refine ec_D (P := rI (((sent_.length : Int) - dropped_) + 1)) (d_add (d_sub (d_lenL (r := rS) m_len (d_var 1 (P := rdL K _ rS sent_) rfl (rdL_cell (List.mem_cons_of_mem _ (List.mem_cons_of_mem _ (List.mem_cons_of_mem _ (List.mem_cons_of_mem _ List.mem_cons_self)))) (Rs.mono (s1.trans s4) h1_)))) (d_var 2 (P := rI dropped_) rfl rfl)) d_int) (fun v6 Gs5 s5 h7 => ?_)
  refine ac_nil' (fun Gs8 s8 => ?_)
  refine ⟨(source_here_, (((sent_.length : Int) - dropped_) + 1)), [(a3_, HO.lst u3_)], (a0_, HO.ins (clA mg "Sender") dx0_ (nf_Sender.zip [.str (SX.S end_.1), .str (SX.S end_.2.1), .int end_.2.2.1, .int end_.2.2.2.1, .ref l0_])) :: (dx0_, HO.own a0_) :: (l0_, HO.lst u0_) :: (a1_, HO.lst u1_) :: cs, (perm_to (k := 3) rfl (List.Perm.refl _)), ⟨_, _, _, rfl, rfl, (Rs.mono (s1.trans (s4.trans (s5.trans s8))) h3_), (Mono.mono s8 h7), (by exact ⟨by first | assumption | omega, by first | omega | (dsimp only; omega), by first | omega | (dsimp only; omega)⟩)⟩, ?_⟩
  rintro v16 Gs10 mc11 s10 ⟨v12, a13, us14, e_, rfl, h15, h17⟩
  cases e_
  have h18 : Rs rI Gs10 r9.2 us14 := by rw [er9]; exact h15
  have h19 : rI r9.1 Gs10 v16 := by rw [er9]; exact h17
  refine ⟨(a0_, HO.ins (clA mg "Sender") dx0_ (nf_Sender.zip [.str (SX.S end_.1), .str (SX.S end_.2.1), .int end_.2.2.1, .int end_.2.2.2.1, .ref l0_])) :: (dx0_, HO.own a0_) :: (l0_, HO.lst u0_) :: (a3_, HO.lst us14) :: (a1_, HO.lst u1_) :: cs, (perm_to (k := 1) rfl (perm_to (k := 1) rfl (perm_to (k := 1) rfl (List.Perm.refl _)))), ?_⟩
  refine rc_int (i := dropped_) (j := r9.1) (Mono.mono (s4.trans (s5.trans (s8.trans s10))) h3) h19 (fun Gs20 s20 => ?_)
  have h21 : rI (dropped_ + r9.1) Gs20 (.int (dropped_ + r9.1)) := rfl
  intro _
  refine letV_intro (fun near_22 enear_22 => ?_)
  have h23 : rI near_22 Gs20 (.int (dropped_ + r9.1)) := by rw [enear_22]; exact h21
  have hq_ : ((.int (dropped_ + r9.1)) : V) = .int near_22 := h23
  rw [hq_]
  refine letV_intro (fun r32 er32 => ?_)
  have fr32 := pick_ok (s := r9.2) (n := 3) (by first | assumption | omega) (by omega)
  rw [← er32] at fr32
  obtain ⟨lr32, ar32, br32⟩ := fr32
  refine b_setC 5 sc_law_acknowledged.nd ?_
  refine ec_bin op_add ?_
  refine ec_D (P := rI ((sent_.length : Int) + 1)) (d_add (d_lenL (r := rS) m_len (d_var 1 (P := rdL K _ rS sent_) rfl (rdL_cell (List.mem_cons_of_mem _ (List.mem_cons_of_mem _ (List.mem_cons_of_mem _ (List.mem_cons_of_mem _ List.mem_cons_self)))) (Rs.mono (s1.trans (s4.trans (s5.trans (s8.trans (s10.trans s20))))) h1_)))) d_int) (fun v25 Gs24 s24 h26 => ?_)
  refine ec_callM F_law_pick hr (by decide) ?_
  refine ac_cons ?_
  refine ec_D (P := rV (.ref a3_)) (d_var 3 (P := rV (.ref a3_)) rfl rfl) (fun v_ Gs27 s27 hv_ => ?_)
  cases hv_
  refine ac_cons ?_
  refine ec_D (P := rI 3) d_int (fun v29 Gs28 s28 h30 => ?_)
  refine ac_nil' (fun Gs31 s31 => ?_)
  refine ⟨(r9.2, 3), [(a3_, HO.lst us14)], (a0_, HO.ins (clA mg "Sender") dx0_ (nf_Sender.zip [.str (SX.S end_.1), .str (SX.S end_.2.1), .int end_.2.2.1, .int end_.2.2.2.1, .ref l0_])) :: (dx0_, HO.own a0_) :: (l0_, HO.lst u0_) :: (a1_, HO.lst u1_) :: cs, (perm_to (k := 3) rfl (List.Perm.refl _)), ⟨_, _, _, rfl, rfl, (Rs.mono (s20.trans (s24.trans (s27.trans (s28.trans s31)))) h18), (Mono.mono s31 h30), (by exact ⟨by first | assumption | omega, by first | omega | (dsimp only; omega), by first | omega | (dsimp only; omega)⟩)⟩, ?_⟩
  rintro v39 Gs33 mc34 s33 ⟨v35, a36, us37, e_, rfl, h38, h40⟩
  cases e_
  have h41 : Rs rI Gs33 r32.2 us37 := by rw [er32]; exact h38
  have h42 : rI r32.1 Gs33 v39 := by rw [er32]; exact h40
  refine ⟨(a0_, HO.ins (clA mg "Sender") dx0_ (nf_Sender.zip [.str (SX.S end_.1), .str (SX.S end_.2.1), .int end_.2.2.1, .int end_.2.2.2.1, .ref l0_])) :: (dx0_, HO.own a0_) :: (l0_, HO.lst u0_) :: (a3_, HO.lst us37) :: (a1_, HO.lst u1_) :: cs, (perm_to (k := 1) rfl (perm_to (k := 1) rfl (perm_to (k := 1) rfl (List.Perm.refl _)))), ?_⟩
  refine rc_int (i := ((sent_.length : Int) + 1)) (j := r32.1) (Mono.mono (s27.trans (s28.trans (s31.trans s33))) h26) h42 (fun Gs43 s43 => ?_)
  have h44 : rI (((sent_.length : Int) + 1) + r32.1) Gs43 (.int (((sent_.length : Int) + 1) + r32.1)) := rfl
  intro _
  refine letV_intro (fun late_45 elate_45 => ?_)
  have h46 : rI late_45 Gs43 (.int (((sent_.length : Int) + 1) + r32.1)) := by rw [elate_45]; exact h44
  have hq_ : ((.int (((sent_.length : Int) + 1) + r32.1)) : V) = .int late_45 := h46
  rw [hq_]
  refine letV_intro (fun r58 er58 => ?_)
  have fr58 := pick_ok (s := r32.2) (n := (dropped_ + 1)) (by first | assumption | omega) (by omega)
  rw [← er58] at fr58
  obtain ⟨lr58, ar58, br58⟩ := fr58
  refine letV_intro (fun r80 er80 => ?_)
  have fr80 := pick_ok (s := r58.2) (n := 4) (by first | assumption | omega) (by omega)
  rw [← er80] at fr80
  obtain ⟨lr80, ar80, br80⟩ := fr80
  refine letV_intro (fun r103 er103 => ?_)
  have fr103 := pick_ok (s := r80.2) (n := 5) (by first | assumption | omega) (by omega)
  rw [← er103] at fr103
  obtain ⟨lr103, ar103, br103⟩ := fr103
  refine b_setC 6 sc_law_acknowledged.nd ?_
  refine ec_ix ix_list ?_
  refine ec_lst ?_
  refine ac_cons ?_
  refine ec_D (P := rI near_22) (d_var 4 (P := rI near_22) rfl rfl) (fun v48 Gs47 s47 h49 => ?_)
  refine ac_cons ?_
  refine ec_D (P := rI near_22) (d_var 4 (P := rI near_22) rfl rfl) (fun v51 Gs50 s50 h52 => ?_)
  refine ac_cons ?_
  refine ec_callM F_law_pick hr (by decide) ?_
  refine ac_cons ?_
  refine ec_D (P := rV (.ref a3_)) (d_var 3 (P := rV (.ref a3_)) rfl rfl) (fun v_ Gs53 s53 hv_ => ?_)
  cases hv_
  refine ac_cons ?_
  refine ec_D (P := rI (dropped_ + 1)) (d_add (d_var 2 (P := rI dropped_) rfl rfl) d_int) (fun v55 Gs54 s54 h56 => ?_)
  refine ac_nil' (fun Gs57 s57 => ?_)
  refine ⟨(r32.2, (dropped_ + 1)), [(a3_, HO.lst us37)], (a0_, HO.ins (clA mg "Sender") dx0_ (nf_Sender.zip [.str (SX.S end_.1), .str (SX.S end_.2.1), .int end_.2.2.1, .int end_.2.2.2.1, .ref l0_])) :: (dx0_, HO.own a0_) :: (l0_, HO.lst u0_) :: (a1_, HO.lst u1_) :: cs, (perm_to (k := 3) rfl (List.Perm.refl _)), ⟨_, _, _, rfl, rfl, (Rs.mono (s43.trans (s47.trans (s50.trans (s53.trans (s54.trans s57))))) h41), (Mono.mono s57 h56), (by exact ⟨by first | assumption | omega, by first | omega | (dsimp only; omega), by first | omega | (dsimp only; omega)⟩)⟩, ?_⟩
  rintro v65 Gs59 mc60 s59 ⟨v61, a62, us63, e_, rfl, h64, h66⟩
  cases e_
  have h67 : Rs rI Gs59 r58.2 us63 := by rw [er58]; exact h64
  have h68 : rI r58.1 Gs59 v65 := by rw [er58]; exact h66
  refine ⟨(a0_, HO.ins (clA mg "Sender") dx0_ (nf_Sender.zip [.str (SX.S end_.1), .str (SX.S end_.2.1), .int end_.2.2.1, .int end_.2.2.2.1, .ref l0_])) :: (dx0_, HO.own a0_) :: (l0_, HO.lst u0_) :: (a3_, HO.lst us63) :: (a1_, HO.lst u1_) :: cs, (perm_to (k := 1) rfl (perm_to (k := 1) rfl (perm_to (k := 1) rfl (List.Perm.refl _)))), ?_⟩
  refine ac_cons ?_
  refine ec_D (P := rI late_45) (d_var 5 (P := rI late_45) rfl rfl) (fun v70 Gs69 s69 h71 => ?_)
  refine ac_cons ?_
  refine ec_bin op_sub ?_
  refine ec_D (P := rI 0) d_int (fun v73 Gs72 s72 h74 => ?_)
  refine ec_callM F_law_pick hr (by decide) ?_
  refine ac_cons ?_
  refine ec_D (P := rV (.ref a3_)) (d_var 3 (P := rV (.ref a3_)) rfl rfl) (fun v_ Gs75 s75 hv_ => ?_)
  cases hv_
  refine ac_cons ?_
  refine ec_D (P := rI 4) d_int (fun v77 Gs76 s76 h78 => ?_)
  refine ac_nil' (fun Gs79 s79 => ?_)
  refine ⟨(r58.2, 4), [(a3_, HO.lst us63)], (a0_, HO.ins (clA mg "Sender") dx0_ (nf_Sender.zip [.str (SX.S end_.1), .str (SX.S end_.2.1), .int end_.2.2.1, .int end_.2.2.2.1, .ref l0_])) :: (dx0_, HO.own a0_) :: (l0_, HO.lst u0_) :: (a1_, HO.lst u1_) :: cs, (perm_to (k := 3) rfl (List.Perm.refl _)), ⟨_, _, _, rfl, rfl, (Rs.mono (s69.trans (s72.trans (s75.trans (s76.trans s79)))) h67), (Mono.mono s79 h78), (by exact ⟨by first | assumption | omega, by first | omega | (dsimp only; omega), by first | omega | (dsimp only; omega)⟩)⟩, ?_⟩
  rintro v87 Gs81 mc82 s81 ⟨v83, a84, us85, e_, rfl, h86, h88⟩
  cases e_
  have h89 : Rs rI Gs81 r80.2 us85 := by rw [er80]; exact h86
  have h90 : rI r80.1 Gs81 v87 := by rw [er80]; exact h88
  refine ⟨(a0_, HO.ins (clA mg "Sender") dx0_ (nf_Sender.zip [.str (SX.S end_.1), .str (SX.S end_.2.1), .int end_.2.2.1, .int end_.2.2.2.1, .ref l0_])) :: (dx0_, HO.own a0_) :: (l0_, HO.lst u0_) :: (a3_, HO.lst us85) :: (a1_, HO.lst u1_) :: cs, (perm_to (k := 1) rfl (perm_to (k := 1) rfl (perm_to (k := 1) rfl (List.Perm.refl _)))), ?_⟩
  refine rc_int (i := 0) (j := r80.1) (Mono.mono (s75.trans (s76.trans (s79.trans s81))) h74) h90 (fun Gs91 s91 => ?_)
  have h92 : rI (0 - r80.1) Gs91 (.int (0 - r80.1)) := rfl
  refine ac_nil' (fun Gs93 s93 => ⟨Nat.le_of_ble_eq_true rfl, fun l95 Gs94 s94 hl96 => ?_⟩)
  have h97 : (rL K rI) [near_22, near_22, r58.1, late_45, (0 - r80.1)] Gs94 (.ref l95) := ⟨l95, _, rfl, hl96, (.cons (Mono.mono (s50.trans (s53.trans (s54.trans (s57.trans (s59.trans (s69.trans (s72.trans (s75.trans (s76.trans (s79.trans (s81.trans (s91.trans (s93.trans s94))))))))))))) h49) (.cons (Mono.mono (s53.trans (s54.trans (s57.trans (s59.trans (s69.trans (s72.trans (s75.trans (s76.trans (s79.trans (s81.trans (s91.trans (s93.trans s94)))))))))))) h52) (.cons (Mono.mono (s69.trans (s72.trans (s75.trans (s76.trans (s79.trans (s81.trans (s91.trans (s93.trans s94)))))))) h68) (.cons (Mono.mono (s72.trans (s75.trans (s76.trans (s79.trans (s81.trans (s91.trans (s93.trans s94))))))) h71) (.cons (Mono.mono (s93.trans s94) h92) .nil)))))⟩
  refine ec_callM F_law_pick hr (by decide) ?_
  refine ac_cons ?_
  refine ec_D (P := rV (.ref a3_)) (d_var 3 (P := rV (.ref a3_)) rfl rfl) (fun v_ Gs98 s98 hv_ => ?_)
  cases hv_
  refine ac_cons ?_
  refine ec_D (P := rI 5) d_int (fun v100 Gs99 s99 h101 => ?_)
  refine ac_nil' (fun Gs102 s102 => ?_)
  refine ⟨(r80.2, 5), [(a3_, HO.lst us85)], (a0_, HO.ins (clA mg "Sender") dx0_ (nf_Sender.zip [.str (SX.S end_.1), .str (SX.S end_.2.1), .int end_.2.2.1, .int end_.2.2.2.1, .ref l0_])) :: (dx0_, HO.own a0_) :: (l0_, HO.lst u0_) :: (a1_, HO.lst u1_) :: cs, (perm_to (k := 3) rfl (List.Perm.refl _)), ⟨_, _, _, rfl, rfl, (Rs.mono (s91.trans (s93.trans (s94.trans (s98.trans (s99.trans s102))))) h89), (Mono.mono s102 h101), (by exact ⟨by first | assumption | omega, by first | omega | (dsimp only; omega), by first | omega | (dsimp only; omega)⟩)⟩, ?_⟩
  rintro v110 Gs104 mc105 s104 ⟨v106, a107, us108, e_, rfl, h109, h111⟩
  cases e_
  have h112 : Rs rI Gs104 r103.2 us108 := by rw [er103]; exact h109
  have h113 : rI r103.1 Gs104 v110 := by rw [er103]; exact h111
  refine ⟨(a0_, HO.ins (clA mg "Sender") dx0_ (nf_Sender.zip [.str (SX.S end_.1), .str (SX.S end_.2.1), .int end_.2.2.1, .int end_.2.2.2.1, .ref l0_])) :: (dx0_, HO.own a0_) :: (l0_, HO.lst u0_) :: (a3_, HO.lst us108) :: (a1_, HO.lst u1_) :: cs, (perm_to (k := 1) rfl (perm_to (k := 1) rfl (perm_to (k := 1) rfl (List.Perm.refl _)))), ?_⟩
  refine rc_ixL (r := rI) (xs := [near_22, near_22, r58.1, late_45, (0 - r80.1)]) (i := r103.1) (u := (ixg [near_22, near_22, r58.1, late_45, (0 - r80.1)] r103.1)) (rdL_of (Mono.mono (s98.trans (s99.trans (s102.trans s104))) h97)) h113 (atI_ixg (by first | (constructor <;> omega) | (simp only [List.length_cons, List.length_nil]; constructor <;> omega) | exact ix_mod (by omega) | (simp only [decide_eq_true_eq, decide_eq_false_iff_not] at *; constructor <;> omega) | (simp only [decide_eq_true_eq, decide_eq_false_iff_not, Bool.and_eq_true, Bool.or_eq_true, Bool.or_eq_false_iff, Bool.not_eq_true', Bool.not_eq_false', Bool.not_not, ne_eq, Int.not_lt, Int.not_le] at *; constructor <;> omega))) (fun v115 Gs114 s114 h116 => ?_)
  intro _
  refine letV_intro (fun number_117 enumber_117 => ?_)
  have h118 : rI number_117 Gs114 v115 := by rw [enumber_117]; exact h116
  have hq_ : (v115 : V) = .int number_117 := h118
  rw [hq_]
  refine b_tryAsM 7 (S' := (Mo_Sender)) (fun (z119 : (Mo_Sender)) σ_ G_ cs_ => ∃ dx120 : Addr, ∃ l121 : Addr, ∃ us122 : List V, ∃ o124 : Option V, σ_ = [some (.ref a0_), some (.ref a1_), some (.int dropped_), some (.ref a3_), some (.int near_22), some (.int late_45), some (.int number_117), o124] ∧ (a0_, HO.ins (clA mg "Sender") dx120 (nf_Sender.zip [.str (SX.S z119.1), .str (SX.S z119.2.1), .int z119.2.2.1, .int z119.2.2.2.1, .ref l121])) :: (dx120, HO.own a0_) :: (l121, HO.lst us122) :: (a3_, HO.lst us108) :: (a1_, HO.lst u1_) :: cs = cs_ ∧ Rs rS G_ z119.2.2.2.2 us122) (fun (k125 : _root_.Fin 7 × Mo_Sender) σ_ G_ cs_ => ∃ dx126 : Addr, ∃ l127 : Addr, ∃ us128 : List V, ∃ o130 : Option V, σ_ = [some (.ref a0_), some (.ref a1_), some (.int dropped_), some (.ref a3_), some (.int near_22), some (.int late_45), some (.int number_117), o130] ∧ (a0_, HO.ins (clA mg "Sender") dx126 (nf_Sender.zip [.str (SX.S k125.2.1), .str (SX.S k125.2.2.1), .int k125.2.2.2.1, .int k125.2.2.2.2.1, .ref l127])) :: (dx126, HO.own a0_) :: (l127, HO.lst us128) :: (a3_, HO.lst us108) :: (a1_, HO.lst u1_) :: cs = cs_ ∧ Rs rS G_ k125.2.2.2.2.2 us128) Er sc_law_acknowledged.nd ?_ ?_ ?_
  · intro Wx131 _ _ tk132 po133
    refine b_exprX (ex_methME (adr := adr) (end_, number_117) F_Sender_acknowledge K_Sender.cl tk132 hr (by decide) (d_var 0 (P := rV (.ref a0_)) rfl rfl) List.mem_cons_self (lookup_zip_no (by decide +kernel)) ?_)
    refine ac_cons ?_
    refine ec_D (P := rI number_117) (d_var 6 (P := rI number_117) rfl rfl) (fun v135 Gs134 s134 h136 => ?_)
    refine ac_nil' (fun Gs137 s137 => ?_)
    refine ⟨[(a0_, HO.ins (clA mg "Sender") dx0_ (nf_Sender.zip [.str (SX.S end_.1), .str (SX.S end_.2.1), .int end_.2.2.1, .int end_.2.2.2.1, .ref l0_])), (dx0_, HO.own a0_), (l0_, HO.lst u0_)], (a3_, HO.lst us108) :: (a1_, HO.lst u1_) :: cs, (List.Perm.refl _), ⟨_, _, _, _, _, rfl, rfl, (Rs.mono (s1.trans (s4.trans (s5.trans (s8.trans (s10.trans (s20.trans (s24.trans (s27.trans (s28.trans (s31.trans (s33.trans (s43.trans (s47.trans (s50.trans (s53.trans (s54.trans (s57.trans (s59.trans (s69.trans (s72.trans (s75.trans (s76.trans (s79.trans (s81.trans (s91.trans (s93.trans (s94.trans (s98.trans (s99.trans (s102.trans (s104.trans (s114.trans (s134.trans s137))))))))))))))))))))))))))))))))) h0_), (Mono.mono s137 h136)⟩, ?_, ?_⟩
    · rintro o140 v148 Gs138 mc139 eo141 s138 ⟨v142, a143, dx144, l145, us146, e_, rfl, h147, h149⟩
      cases e_
      refine ⟨(a0_, HO.ins (clA mg "Sender") dx144 (nf_Sender.zip [.str (SX.S o140.2.1), .str (SX.S o140.2.2.1), .int o140.2.2.2.1, .int o140.2.2.2.2.1, .ref l145])) :: (dx144, HO.own a0_) :: (l145, HO.lst us146) :: (a3_, HO.lst us108) :: (a1_, HO.lst u1_) :: cs, (List.Perm.refl _), ?_⟩
      intro _ _
      exact b_nil (by refine ⟨_, _, _, _, rfl, rfl, h147⟩)
    · rintro c152 t151 Gs150 mc139 _ s150 ⟨v153, a154, dx155, l156, us157, e_, rfl, h158⟩
      cases e_
      exact ⟨(a0_, HO.ins (clA mg "Sender") dx155 (nf_Sender.zip [.str (SX.S t151.1), .str (SX.S t151.2.1), .int t151.2.2.1, .int t151.2.2.2.1, .ref l156])) :: (dx155, HO.own a0_) :: (l156, HO.lst us157) :: (a3_, HO.lst us108) :: (a1_, HO.lst u1_) :: cs, (List.Perm.refl _), fun _ => ⟨_, _, _, _, rfl, rfl, h158⟩⟩
  · intro k125 hm171 a160 oe161 pn162 _ _ _ s163 hNk125 hz164 hf165
    obtain ⟨dx126, l127, us128, o130, rfl, rfl, h129⟩ := hNk125
    refine b_ifx (t_w (w_and (t_cmp op_gt (nomark _) (d_var 6 (P := rI number_117) rfl rfl) (d_lenL (r := rS) m_len (d_var 1 (P := rdL K _ rS sent_) rfl (rdL_cell (List.mem_cons_of_mem _ (List.mem_cons_of_mem _ (List.mem_cons_of_mem _ (List.mem_cons_of_mem _ List.mem_cons_self)))) (Rs.mono (s1.trans (s4.trans (s5.trans (s8.trans (s10.trans (s20.trans (s24.trans (s27.trans (s28.trans (s31.trans (s33.trans (s43.trans (s47.trans (s50.trans (s53.trans (s54.trans (s57.trans (s59.trans (s69.trans (s72.trans (s75.trans (s76.trans (s79.trans (s81.trans (s91.trans (s93.trans (s94.trans (s98.trans (s99.trans (s102.trans (s104.trans (s114.trans s163)))))))))))))))))))))))))))))))) h1_)))) fun _ _ _ _ _ _ hx hy _ q => c_gt hx hy q) fun hk168 => (w_and1 (t_eqDh (K := K) (r := (rL K rS)) (roomX (k := 0) hr (Nat.zero_le _)) (d_callX (P := (rL K rS) (m_law_errors k125.1)) k125.1 F_law_errors (roomX hr (by decide)) List.mem_cons_self hz164 hf165 (d_var 7 (P := rV (.ref a160)) rfl rfl) fun _ _ h => h) (d_new (n_lst (r := rS) (xs := [[82, 101, 102, 117, 115, 101, 100]]) (a_cons (P := rS [82, 101, 102, 117, 115, 101, 100]) (d_str (l := [82, 101, 102, 117, 115, 101, 100]) (by decide +kernel)) a_nil) (ls_c ls_n))) (by first | exact errs_ok _ | decide) (by simp [EqR.ok, EqT.ok]))))) ?_ ?_
    · intro hc166 Gs167 s167
      have dhc166 := hc166
      try simp only [decide_eq_true_eq, decide_eq_false_iff_not, Bool.and_eq_true, Bool.and_eq_false_imp, Bool.or_eq_true, Bool.or_eq_false_iff, Bool.not_eq_true', Bool.not_eq_false', Bool.not_not, ne_eq, Int.not_lt, Int.not_le] at dhc166
      exact b_ret (P := rI dropped_) (d_var 2 (P := rI dropped_) rfl rfl) (fun v_ Gs169 s169 h_ => ⟨[], [(a0_, HO.ins (clA mg "Sender") dx126 (nf_Sender.zip [.str (SX.S k125.2.1), .str (SX.S k125.2.2.1), .int k125.2.2.2.1, .int k125.2.2.2.2.1, .ref l127])), (dx126, HO.own a0_), (l127, HO.lst us128), (a3_, HO.lst us108), (a1_, HO.lst u1_)], (List.Perm.refl _), ⟨_, _, _, _, _, _, _, _, rfl, rfl, (Rs.mono (s167.trans s169) h129), (Rs.mono (s114.trans (s163.trans (s167.trans s169))) h112), h_⟩⟩)
    · intro hc166 Gs167 s167
      have dhc166 := hc166
      try simp only [decide_eq_true_eq, decide_eq_false_iff_not, Bool.and_eq_true, Bool.and_eq_false_imp, Bool.or_eq_true, Bool.or_eq_false_iff, Bool.not_eq_true', Bool.not_eq_false', Bool.not_not, ne_eq, Int.not_lt, Int.not_le] at dhc166
      exact b_ret (P := rI (-1)) (d_neg d_int) (fun v_ Gs170 s170 h_ => ⟨[], [(a0_, HO.ins (clA mg "Sender") dx126 (nf_Sender.zip [.str (SX.S k125.2.1), .str (SX.S k125.2.2.1), .int k125.2.2.2.1, .int k125.2.2.2.2.1, .ref l127])), (dx126, HO.own a0_), (l127, HO.lst us128), (a3_, HO.lst us108), (a1_, HO.lst u1_)], (List.Perm.refl _), ⟨_, _, _, _, _, _, _, _, rfl, rfl, (Rs.mono (s167.trans s170) h129), (Rs.mono (s114.trans (s163.trans (s167.trans s170))) h112), h_⟩⟩)
  · intro z119 _ _ _ sz119 hNz119 hmz119
    obtain ⟨dx120, l121, us122, o124, rfl, rfl, h123⟩ := hNz119
    refine b_ifx (t_cmp op_gt (nomark _) (d_var 6 (P := rI number_117) rfl rfl) (d_lenL (r := rS) m_len (d_var 1 (P := rdL K _ rS sent_) rfl (rdL_cell (List.mem_cons_of_mem _ (List.mem_cons_of_mem _ (List.mem_cons_of_mem _ (List.mem_cons_of_mem _ List.mem_cons_self)))) (Rs.mono (s1.trans (s4.trans (s5.trans (s8.trans (s10.trans (s20.trans (s24.trans (s27.trans (s28.trans (s31.trans (s33.trans (s43.trans (s47.trans (s50.trans (s53.trans (s54.trans (s57.trans (s59.trans (s69.trans (s72.trans (s75.trans (s76.trans (s79.trans (s81.trans (s91.trans (s93.trans (s94.trans (s98.trans (s99.trans (s102.trans (s104.trans (s114.trans sz119)))))))))))))))))))))))))))))))) h1_)))) fun _ _ _ _ _ _ hx hy _ q => c_gt hx hy q) ?_ ?_
    · intro hc172 Gs173 s173
      have dhc172 := hc172
      try simp only [decide_eq_true_eq, decide_eq_false_iff_not, Bool.and_eq_true, Bool.and_eq_false_imp, Bool.or_eq_true, Bool.or_eq_false_iff, Bool.not_eq_true', Bool.not_eq_false', Bool.not_not, ne_eq, Int.not_lt, Int.not_le] at dhc172
      exact b_ret (P := rI (-1)) (d_neg d_int) (fun v_ Gs174 s174 h_ => ⟨[], [(a0_, HO.ins (clA mg "Sender") dx120 (nf_Sender.zip [.str (SX.S z119.1), .str (SX.S z119.2.1), .int z119.2.2.1, .int z119.2.2.2.1, .ref l121])), (dx120, HO.own a0_), (l121, HO.lst us122), (a3_, HO.lst us108), (a1_, HO.lst u1_)], (List.Perm.refl _), ⟨_, _, _, _, _, _, _, _, rfl, rfl, (Rs.mono (s173.trans s174) h123), (Rs.mono (s114.trans (sz119.trans (s173.trans s174))) h112), h_⟩⟩)
    · intro hc172 Gs173 s173
      have dhc172 := hc172
      try simp only [decide_eq_true_eq, decide_eq_false_iff_not, Bool.and_eq_true, Bool.and_eq_false_imp, Bool.or_eq_true, Bool.or_eq_false_iff, Bool.not_eq_true', Bool.not_eq_false', Bool.not_not, ne_eq, Int.not_lt, Int.not_le] at dhc172
      exact b_ret (P := rI (if number_117 > dropped_ then number_117 else dropped_)) (d_max2 rfl m_max (d_var 2 (P := rI dropped_) rfl rfl) (d_var 6 (P := rI number_117) rfl rfl)) (fun v_ Gs175 s175 h_ => ⟨[], [(a0_, HO.ins (clA mg "Sender") dx120 (nf_Sender.zip [.str (SX.S z119.1), .str (SX.S z119.2.1), .int z119.2.2.1, .int z119.2.2.2.1, .ref l121])), (dx120, HO.own a0_), (l121, HO.lst us122), (a3_, HO.lst us108), (a1_, HO.lst u1_)], (List.Perm.refl _), ⟨_, _, _, _, _, _, _, _, rfl, rfl, (Rs.mono (s173.trans s175) h123), (Rs.mono (s114.trans (sz119.trans (s173.trans s175))) h112), h_⟩⟩)
end Ck28

set_option synthInstance.maxSize 10000
namespace Ck28
open PySem L2 PyProof.Rows J
abbrev s_law_bad_name : Stmt := PySem.Challenge.pw_corebank_k28_sender.main.body.getD 32 (.Pass ⟨0, 0, 0, 0⟩)
abbrev N_law_bad_name : List Str := ["_law_source_here", "_law_name_here", "_law_which", "_law_odd", "_law_at"]
theorem sc_law_bad_name : FnScope ["_law_source_here", "_law_name_here", "_law_which", "_law_odd", "_law_at"] ["_law_source_here"] (defScope s_law_bad_name) := ⟨rfl, rfl, rfl, by decide +kernel, rfl, by decide +kernel, by decide +kernel⟩
theorem ok_law_bad_name {P : Program} {w : World} {K : PySem.W.Frag} {mg : Str → Option Value} {base : Heap} {f : Addr} {fd : FuncData} (F : Fun K "_law_bad_name" "_law_bad_name" s_law_bad_name f fd) (b : Binds K fd ["_law_source_here"] []) (hmg : mg "_law_bad_name" = some (.ref f)) {adr : _root_.Fin 7 → Addr} {B0 : Addr} (Er : Errs K mg nm_ adr B0) (m_len : mg "len" = none) (F_law_name : Fn0 P w K mg base CX0 2 "_law_name" 1 (sp_law_name K)) (F_law_pick : Fn0 P w K mg base CX0 1 "_law_pick" 2 (sp_law_pick K)) :
    Fn0 P w K mg base CX0 3 "_law_bad_name" 1 (sp_law_bad_name K) := by
  have hsl := sizeLine_eq
  refine ⟨f, fd, ["_law_source_here"], fn_okM (pre := pre_law_bad_name K) (post := post_law_bad_name K) F sc_law_bad_name b (fun i : ((List Int)) => b_law_bad_name i) (fun i G mc vs h => ?_) (fun cdv A outer s H E source_here_ G mc cs vs hr hp => ?_), hmg, F.kp, b, rfl⟩
  · obtain ⟨_, _, h, _⟩ := h
    rw [h]
    rfl
  obtain ⟨a0_, u0_, rfl, rfl, h0_, hpre⟩ := hp
  replace h0_ : Rs rI G source_here_ u0_ := h0_
  show B _ _ _ [some (.ref a0_), none, none, none, none] G ((a0_, HO.lst u0_) :: cs) _ (b_law_bad_name source_here_)
  unfold b_law_bad_name
  try dsimp only at hpre
  refine letV_intro (fun r3 er3 => ?_)
  have fr3 := name_ok (s := source_here_) (by first | assumption | omega)
  rw [← er3] at fr3
  obtain ⟨lr3, ar3⟩ := fr3
  have a1r3 := ar3.1
  have a2r3 := ar3.2.1
  refine b_setC 1 sc_law_bad_name.nd ?_
  refine ec_callM F_law_name hr (by decide) ?_
  refine ac_cons ?_
  refine ec_D (P := rV (.ref a0_)) (d_var 0 (P := rV (.ref a0_)) rfl rfl) (fun v_ Gs1 s1 hv_ => ?_)
  cases hv_
  refine ac_nil' (fun Gs2 s2 => ?_)
  refine ⟨(source_here_), [(a0_, HO.lst u0_)], cs, (List.Perm.refl _), ⟨_, _, rfl, rfl, (Rs.mono (s1.trans s2) h0_), (by (try dsimp only); first | assumption | omega | (refine ⟨?_, ?_⟩ <;> omega) | (refine ⟨?_, ?_, ?_⟩ <;> omega) | simp_all)⟩, ?_⟩
  rintro v9 Gs4 mc5 s4 ⟨a6, us7, e_, rfl, h8, h10⟩
  cases e_
  have h11 : Rs rI Gs4 r3.2 us7 := by rw [er3]; exact h8
  have h12 : rS r3.1 Gs4 v9 := by rw [er3]; exact h10
  refine ⟨(a0_, HO.lst us7) :: cs, (List.Perm.refl _), ?_⟩
  intro _
  refine letV_intro (fun name_here_13 ename_here_13 => ?_)
  have h14 : rS name_here_13 Gs4 v9 := by rw [ename_here_13]; exact h12
  have hq_ : (v9 : V) = .str (SX.S name_here_13) := h14
  rw [hq_]
  have hnl : 1 ≤ name_here_13.length ∧ name_here_13.length ≤ 12 := by rw [ename_here_13]; exact ⟨a1r3, a2r3⟩
  refine letV_intro (fun r20 er20 => ?_)
  have fr20 := pick_ok (s := r3.2) (n := 6) (by first | assumption | omega) (by omega)
  rw [← er20] at fr20
  obtain ⟨lr20, ar20, br20⟩ := fr20
  refine b_setC 2 sc_law_bad_name.nd ?_
  refine ec_callM F_law_pick hr (by decide) ?_
  refine ac_cons ?_
  refine ec_D (P := rV (.ref a0_)) (d_var 0 (P := rV (.ref a0_)) rfl rfl) (fun v_ Gs15 s15 hv_ => ?_)
  cases hv_
  refine ac_cons ?_
  refine ec_D (P := rI 6) d_int (fun v17 Gs16 s16 h18 => ?_)
  refine ac_nil' (fun Gs19 s19 => ?_)
  refine ⟨(r3.2, 6), [(a0_, HO.lst us7)], cs, (List.Perm.refl _), ⟨_, _, _, rfl, rfl, (Rs.mono (s15.trans (s16.trans s19)) h11), (Mono.mono s19 h18), (by exact ⟨by first | assumption | omega, by first | omega | (dsimp only; omega), by first | omega | (dsimp only; omega)⟩)⟩, ?_⟩
  rintro v27 Gs21 mc22 s21 ⟨v23, a24, us25, e_, rfl, h26, h28⟩
  cases e_
  have h29 : Rs rI Gs21 r20.2 us25 := by rw [er20]; exact h26
  have h30 : rI r20.1 Gs21 v27 := by rw [er20]; exact h28
  refine ⟨(a0_, HO.lst us25) :: cs, (List.Perm.refl _), ?_⟩
  intro _
  refine letV_intro (fun which_31 ewhich_31 => ?_)
  have h32 : rI which_31 Gs21 v27 := by rw [ewhich_31]; exact h30
  have hq_ : (v27 : V) = .int which_31 := h32
  rw [hq_]
  refine b_ifx (t_cmp op_eq (nomark _) (d_var 2 (P := rI which_31) rfl rfl) d_int fun _ _ _ _ _ _ hx hy _ q => c_eqI hx hy q) ?_ ?_
  · intro hc33 Gs34 s34
    have dhc33 := hc33
    try simp only [decide_eq_true_eq, decide_eq_false_iff_not, Bool.and_eq_true, Bool.and_eq_false_imp, Bool.or_eq_true, Bool.or_eq_false_iff, Bool.not_eq_true', Bool.not_eq_false', Bool.not_not, ne_eq, Int.not_lt, Int.not_le] at dhc33
    exact b_ret (P := rS ([] : List Nat)) (d_str (l := []) (by decide +kernel)) (fun v_ Gs35 s35 h_ => ⟨[], [(a0_, HO.lst us25)], (List.Perm.refl _), ⟨_, _, rfl, rfl, (Rs.mono (s34.trans s35) h29), h_⟩⟩)
  · intro hc33 Gs34 s34
    have dhc33 := hc33
    try simp only [decide_eq_true_eq, decide_eq_false_iff_not, Bool.and_eq_true, Bool.and_eq_false_imp, Bool.or_eq_true, Bool.or_eq_false_iff, Bool.not_eq_true', Bool.not_eq_false', Bool.not_not, ne_eq, Int.not_lt, Int.not_le] at dhc33
    refine b_ifx (t_cmp op_eq (nomark _) (d_var 2 (P := rI which_31) rfl rfl) d_int fun _ _ _ _ _ _ hx hy _ q => c_eqI hx hy q) ?_ ?_
    · intro hc36 Gs37 s37
      have dhc36 := hc36
      try simp only [decide_eq_true_eq, decide_eq_false_iff_not, Bool.and_eq_true, Bool.and_eq_false_imp, Bool.or_eq_true, Bool.or_eq_false_iff, Bool.not_eq_true', Bool.not_eq_false', Bool.not_not, ne_eq, Int.not_lt, Int.not_le] at dhc36
      exact b_ret (P := rS (name_here_13 ++ [97, 98, 99, 100, 101, 102, 103, 104, 105, 106, 107, 108])) (d_cat (d_var 1 (P := rS name_here_13) rfl rfl) (d_str (l := [97, 98, 99, 100, 101, 102, 103, 104, 105, 106, 107, 108]) (by decide +kernel)) (by (simp only [List.length_append, List.length_cons, List.length_nil]; (try have q1 := cutL_le name_here_13 (some 1) none); omega))) (fun v_ Gs38 s38 h_ => ⟨[], [(a0_, HO.lst us25)], (List.Perm.refl _), ⟨_, _, rfl, rfl, (Rs.mono (s34.trans (s37.trans s38)) h29), h_⟩⟩)
    · intro hc36 Gs37 s37
      have dhc36 := hc36
      try simp only [decide_eq_true_eq, decide_eq_false_iff_not, Bool.and_eq_true, Bool.and_eq_false_imp, Bool.or_eq_true, Bool.or_eq_false_iff, Bool.not_eq_true', Bool.not_eq_false', Bool.not_not, ne_eq, Int.not_lt, Int.not_le] at dhc36
      refine b_ifx (t_cmp op_eq (nomark _) (d_var 2 (P := rI which_31) rfl rfl) d_int fun _ _ _ _ _ _ hx hy _ q => c_eqI hx hy q) ?_ ?_
      · intro hc39 Gs40 s40
        have dhc39 := hc39
        try simp only [decide_eq_true_eq, decide_eq_false_iff_not, Bool.and_eq_true, Bool.and_eq_false_imp, Bool.or_eq_true, Bool.or_eq_false_iff, Bool.not_eq_true', Bool.not_eq_false', Bool.not_not, ne_eq, Int.not_lt, Int.not_le] at dhc39
        refine letV_intro (fun r49 er49 => ?_)
        have fr49 := pick_ok (s := r20.2) (n := 10) (by first | assumption | omega) (by omega)
        rw [← er49] at fr49
        obtain ⟨lr49, ar49, br49⟩ := fr49
        refine b_retC ?_
        refine ec_bin op_add_str ?_
        refine ec_ix ix_str ?_
        refine ec_D (P := rS [48, 49, 50, 51, 52, 53, 54, 55, 56, 57]) (d_str (l := [48, 49, 50, 51, 52, 53, 54, 55, 56, 57]) (by decide +kernel)) (fun v42 Gs41 s41 h43 => ?_)
        refine ec_callM F_law_pick hr (by decide) ?_
        refine ac_cons ?_
        refine ec_D (P := rV (.ref a0_)) (d_var 0 (P := rV (.ref a0_)) rfl rfl) (fun v_ Gs44 s44 hv_ => ?_)
        cases hv_
        refine ac_cons ?_
        refine ec_D (P := rI 10) d_int (fun v46 Gs45 s45 h47 => ?_)
        refine ac_nil' (fun Gs48 s48 => ?_)
        refine ⟨(r20.2, 10), [(a0_, HO.lst us25)], cs, (List.Perm.refl _), ⟨_, _, _, rfl, rfl, (Rs.mono (s34.trans (s37.trans (s40.trans (s41.trans (s44.trans (s45.trans s48)))))) h29), (Mono.mono s48 h47), (by exact ⟨by first | assumption | omega, by first | omega | (dsimp only; omega), by first | omega | (dsimp only; omega)⟩)⟩, ?_⟩
        rintro v56 Gs50 mc51 s50 ⟨v52, a53, us54, e_, rfl, h55, h57⟩
        cases e_
        have h58 : Rs rI Gs50 r49.2 us54 := by rw [er49]; exact h55
        have h59 : rI r49.1 Gs50 v56 := by rw [er49]; exact h57
        refine ⟨(a0_, HO.lst us54) :: cs, (List.Perm.refl _), ?_⟩
        refine rc_ixS (z := [48, 49, 50, 51, 52, 53, 54, 55, 56, 57]) (i := r49.1) (n := (ixg [48, 49, 50, 51, 52, 53, 54, 55, 56, 57] r49.1)) (Mono.mono (s44.trans (s45.trans (s48.trans s50))) h43) h59 (by first | omega | decide) (atI_ixg (by first | (constructor <;> omega) | (simp only [List.length_cons, List.length_nil]; constructor <;> omega) | exact ix_mod (by omega) | (simp only [decide_eq_true_eq, decide_eq_false_iff_not] at *; constructor <;> omega) | (simp only [decide_eq_true_eq, decide_eq_false_iff_not, Bool.and_eq_true, Bool.or_eq_true, Bool.or_eq_false_iff, Bool.not_eq_true', Bool.not_eq_false', Bool.not_not, ne_eq, Int.not_lt, Int.not_le] at *; constructor <;> omega))) (fun Gs60 s60 => ?_)
        have h63 : rS [(ixg [48, 49, 50, 51, 52, 53, 54, 55, 56, 57] r49.1)] Gs60 (.str (SX.S [(ixg [48, 49, 50, 51, 52, 53, 54, 55, 56, 57] r49.1)])) := rfl
        refine ec_D (P := rS (cutL name_here_13 (some 1) none)) (d_slS (d_var 1 (P := rS name_here_13) rfl rfl) (do_some d_int) do_none (by first | omega | decide)) (fun v65 Gs64 s64 h66 => ?_)
        refine rc_cat (z := [(ixg [48, 49, 50, 51, 52, 53, 54, 55, 56, 57] r49.1)]) (w := (cutL name_here_13 (some 1) none)) (Mono.mono s64 h63) h66 (by (simp only [List.length_append, List.length_cons, List.length_nil]; (try have q1 := cutL_le name_here_13 (some 1) none); omega)) (fun Gs67 s67 => ?_)
        have h68 : rS ([(ixg [48, 49, 50, 51, 52, 53, 54, 55, 56, 57] r49.1)] ++ (cutL name_here_13 (some 1) none)) Gs67 (.str (SX.S ([(ixg [48, 49, 50, 51, 52, 53, 54, 55, 56, 57] r49.1)] ++ (cutL name_here_13 (some 1) none)))) := rfl
        exact fun _ => ⟨[], [(a0_, HO.lst us54)], (List.Perm.refl _), ⟨_, _, rfl, rfl, (Rs.mono (s60.trans (s64.trans s67)) h58), h68⟩⟩
      · intro hc39 Gs40 s40
        have dhc39 := hc39
        try simp only [decide_eq_true_eq, decide_eq_false_iff_not, Bool.and_eq_true, Bool.and_eq_false_imp, Bool.or_eq_true, Bool.or_eq_false_iff, Bool.not_eq_true', Bool.not_eq_false', Bool.not_not, ne_eq, Int.not_lt, Int.not_le] at dhc39
        refine b_setV (r := rS) 3 sc_law_bad_name.nd (d_str (l := [32, 33, 34, 35, 36, 38, 39, 40, 41, 42, 43, 44, 45, 46, 47, 58, 59, 60, 61, 62, 63, 64, 65, 66, 67, 68, 69, 70, 71, 72, 73, 74, 75, 76, 77, 78, 79, 80, 81, 82, 83, 84, 85, 86, 87, 88, 89, 90, 91, 92, 93, 94, 95, 96, 123, 124, 125, 126]) (by decide +kernel)) (fun odd_69 eodd_69 v71 Gs70 s70 h72 => ?_)
        cases h72
        have hod : odd_69.length = 58 := by rw [eodd_69]; rfl
        refine letV_intro (fun r78 er78 => ?_)
        have fr78 := pick_ok (s := r20.2) (n := (name_here_13.length : Int)) (by first | assumption | omega) (by omega)
        rw [← er78] at fr78
        obtain ⟨lr78, ar78, br78⟩ := fr78
        refine b_setC 4 sc_law_bad_name.nd ?_
        refine ec_callM F_law_pick hr (by decide) ?_
        refine ac_cons ?_
        refine ec_D (P := rV (.ref a0_)) (d_var 0 (P := rV (.ref a0_)) rfl rfl) (fun v_ Gs73 s73 hv_ => ?_)
        cases hv_
        refine ac_cons ?_
        refine ec_D (P := rI (name_here_13.length : Int)) (d_lenS m_len (d_var 1 (P := rS name_here_13) rfl rfl) (by first | omega | decide)) (fun v75 Gs74 s74 h76 => ?_)
        refine ac_nil' (fun Gs77 s77 => ?_)
        refine ⟨(r20.2, (name_here_13.length : Int)), [(a0_, HO.lst us25)], cs, (List.Perm.refl _), ⟨_, _, _, rfl, rfl, (Rs.mono (s34.trans (s37.trans (s40.trans (s70.trans (s73.trans (s74.trans s77)))))) h29), (Mono.mono s77 h76), (by exact ⟨by first | assumption | omega, by first | omega | (dsimp only; omega), by first | omega | (dsimp only; omega)⟩)⟩, ?_⟩
        rintro v85 Gs79 mc80 s79 ⟨v81, a82, us83, e_, rfl, h84, h86⟩
        cases e_
        have h87 : Rs rI Gs79 r78.2 us83 := by rw [er78]; exact h84
        have h88 : rI r78.1 Gs79 v85 := by rw [er78]; exact h86
        refine ⟨(a0_, HO.lst us83) :: cs, (List.Perm.refl _), ?_⟩
        intro _
        refine letV_intro (fun at_89 eat_89 => ?_)
        have h90 : rI at_89 Gs79 v85 := by rw [eat_89]; exact h88
        have hq_ : (v85 : V) = .int at_89 := h90
        rw [hq_]
        refine letV_intro (fun r102 er102 => ?_)
        have fr102 := pick_ok (s := r78.2) (n := (odd_69.length : Int)) (by first | assumption | omega) (by omega)
        rw [← er102] at fr102
        obtain ⟨lr102, ar102, br102⟩ := fr102
        refine b_retC ?_
        refine ec_bin op_add_str ?_
        refine ec_bin op_add_str ?_
        refine ec_D (P := rS (cutL name_here_13 none (some at_89))) (d_slS (d_var 1 (P := rS name_here_13) rfl rfl) do_none (do_some (d_var 4 (P := rI at_89) rfl rfl)) (by first | omega | decide)) (fun v92 Gs91 s91 h93 => ?_)
        refine ec_ix ix_str ?_
        refine ec_D (P := rS odd_69) (d_var 3 (P := rS odd_69) rfl rfl) (fun v95 Gs94 s94 h96 => ?_)
        refine ec_callM F_law_pick hr (by decide) ?_
        refine ac_cons ?_
        refine ec_D (P := rV (.ref a0_)) (d_var 0 (P := rV (.ref a0_)) rfl rfl) (fun v_ Gs97 s97 hv_ => ?_)
        cases hv_
        refine ac_cons ?_
        refine ec_D (P := rI (odd_69.length : Int)) (d_lenS m_len (d_var 3 (P := rS odd_69) rfl rfl) (by first | omega | decide)) (fun v99 Gs98 s98 h100 => ?_)
        refine ac_nil' (fun Gs101 s101 => ?_)
        refine ⟨(r78.2, (odd_69.length : Int)), [(a0_, HO.lst us83)], cs, (List.Perm.refl _), ⟨_, _, _, rfl, rfl, (Rs.mono (s91.trans (s94.trans (s97.trans (s98.trans s101)))) h87), (Mono.mono s101 h100), (by exact ⟨by first | assumption | omega, by first | omega | (dsimp only; omega), by first | omega | (dsimp only; omega)⟩)⟩, ?_⟩
        rintro v109 Gs103 mc104 s103 ⟨v105, a106, us107, e_, rfl, h108, h110⟩
        cases e_
        have h111 : Rs rI Gs103 r102.2 us107 := by rw [er102]; exact h108
        have h112 : rI r102.1 Gs103 v109 := by rw [er102]; exact h110
        refine ⟨(a0_, HO.lst us107) :: cs, (List.Perm.refl _), ?_⟩
        refine rc_ixS (z := odd_69) (i := r102.1) (n := (ixg odd_69 r102.1)) (Mono.mono (s97.trans (s98.trans (s101.trans s103))) h96) h112 (by first | omega | decide) (atI_ixg (by first | (constructor <;> omega) | (simp only [List.length_cons, List.length_nil]; constructor <;> omega) | exact ix_mod (by omega) | (simp only [decide_eq_true_eq, decide_eq_false_iff_not] at *; constructor <;> omega) | (simp only [decide_eq_true_eq, decide_eq_false_iff_not, Bool.and_eq_true, Bool.or_eq_true, Bool.or_eq_false_iff, Bool.not_eq_true', Bool.not_eq_false', Bool.not_not, ne_eq, Int.not_lt, Int.not_le] at *; constructor <;> omega))) (fun Gs113 s113 => ?_)
        have h116 : rS [(ixg odd_69 r102.1)] Gs113 (.str (SX.S [(ixg odd_69 r102.1)])) := rfl
        refine rc_cat (z := (cutL name_here_13 none (some at_89))) (w := [(ixg odd_69 r102.1)]) (Mono.mono (s94.trans (s97.trans (s98.trans (s101.trans (s103.trans s113))))) h93) h116 (by first | omega | (simp only [List.length_append, List.length_cons, List.length_nil]; (try have q1 := cutL_le name_here_13 (some 1) none); (try have q2 := cutL_le name_here_13 none (some at_89)); (try have q3 := cutL_le name_here_13 (some (at_89 + 1)) none); omega)) (fun Gs117 s117 => ?_)
        have h118 : rS ((cutL name_here_13 none (some at_89)) ++ [(ixg odd_69 r102.1)]) Gs117 (.str (SX.S ((cutL name_here_13 none (some at_89)) ++ [(ixg odd_69 r102.1)]))) := rfl
        refine ec_D (P := rS (cutL name_here_13 (some (at_89 + 1)) none)) (d_slS (d_var 1 (P := rS name_here_13) rfl rfl) (do_some (d_add (d_var 4 (P := rI at_89) rfl rfl) d_int)) do_none (by first | omega | decide)) (fun v120 Gs119 s119 h121 => ?_)
        refine rc_cat (z := ((cutL name_here_13 none (some at_89)) ++ [(ixg odd_69 r102.1)])) (w := (cutL name_here_13 (some (at_89 + 1)) none)) (Mono.mono s119 h118) h121 (by first | omega | (simp only [List.length_append, List.length_cons, List.length_nil]; (try have q1 := cutL_le name_here_13 (some 1) none); (try have q2 := cutL_le name_here_13 none (some at_89)); (try have q3 := cutL_le name_here_13 (some (at_89 + 1)) none); omega)) (fun Gs122 s122 => ?_)
        have h123 : rS (((cutL name_here_13 none (some at_89)) ++ [(ixg odd_69 r102.1)]) ++ (cutL name_here_13 (some (at_89 + 1)) none)) Gs122 (.str (SX.S (((cutL name_here_13 none (some at_89)) ++ [(ixg odd_69 r102.1)]) ++ (cutL name_here_13 (some (at_89 + 1)) none)))) := rfl
        exact fun _ => ⟨[], [(a0_, HO.lst us107)], (List.Perm.refl _), ⟨_, _, rfl, rfl, (Rs.mono (s113.trans (s117.trans (s119.trans s122))) h111), h123⟩⟩
end Ck28

set_option synthInstance.maxSize 10000
namespace Ck28
open PySem L2 PyProof.Rows J
abbrev s_law_wrong : Stmt := PySem.Challenge.pw_corebank_k28_sender.main.body.getD 38 (.Pass ⟨0, 0, 0, 0⟩)
abbrev N_law_wrong : List Str := ["_law_end", "_law_source_here", "_law_which", "_law_kind_here", "_law_fields", "_law_e"]
theorem sc_law_wrong : FnScope ["_law_end", "_law_source_here", "_law_which", "_law_kind_here", "_law_fields", "_law_e"] ["_law_end", "_law_source_here"] (defScope s_law_wrong) := ⟨rfl, rfl, rfl, by decide +kernel, rfl, by decide +kernel, by decide +kernel⟩
theorem ok_law_wrong {P : Program} {w : World} {K : PySem.W.Frag} {mg : Str → Option Value} {base : Heap} {f : Addr} {fd : FuncData} (F : Fun K "_law_wrong" "_law_wrong" s_law_wrong f fd) (b : Binds K fd ["_law_end", "_law_source_here"] []) (hmg : mg "_law_wrong" = some (.ref f)) {adr : _root_.Fin 7 → Addr} {B0 : Addr} (Er : Errs K mg nm_ adr B0) (K_Sender : ClsK K (clA mg "Sender") nf_Sender) (F_Sender_dispatch : Mt0 P w K mg base (L2.CX P w) 3 (clA mg "Sender") "dispatch" 3 (sp_Sender_dispatch K mg adr)) (F_law_bad_name : Fn0 P w K mg base CX0 3 "_law_bad_name" 1 (sp_law_bad_name K)) (F_law_errors : FnX P w K mg base 1 "_law_errors" 1 (sp_law_errors K adr)) (F_law_pick : Fn0 P w K mg base CX0 1 "_law_pick" 2 (sp_law_pick K)) (F_law_text : Fn0 P w K mg base CX0 2 "_law_text" 2 (sp_law_text K)) :
    Fn0 P w K mg base CX0 4 "_law_wrong" 2 (sp_law_wrong K mg) := by
  have hsl := sizeLine_eq
  refine ⟨f, fd, ["_law_end", "_law_source_here"], fn_okM (pre := pre_law_wrong K mg) (post := post_law_wrong K mg) F sc_law_wrong b (fun i : (Mo_Sender × (List Int)) => b_law_wrong i.1 i.2) (fun i G mc vs h => ?_) (fun cdv A outer s H E i G mc cs vs hr hp => ?_), hmg, F.kp, b, rfl⟩
  · obtain ⟨_, _, _, _, _, _, h, _⟩ := h
    rw [h]
    rfl
  obtain ⟨end_, source_here_⟩ := i
  obtain ⟨a0_, dx0_, l0_, u0_, a1_, u1_, rfl, rfl, h0_, h1_, hpre⟩ := hp
  replace h0_ : Rs rS G end_.2.2.2.2 u0_ := h0_
  replace h1_ : Rs rI G source_here_ u1_ := h1_
  show B _ _ _ [some (.ref a0_), some (.ref a1_), none, none, none, none] G ((a0_, HO.ins (clA mg "Sender") dx0_ (nf_Sender.zip [.str (SX.S end_.1), .str (SX.S end_.2.1), .int end_.2.2.1, .int end_.2.2.2.1, .ref l0_])) :: (dx0_, HO.own a0_) :: (l0_, HO.lst u0_) :: (a1_, HO.lst u1_) :: cs) _ (b_law_wrong end_ source_here_)
  unfold b_law_wrong
  try dsimp only at hpre
  have hl0 := hpre.1
  have hn1 := hpre.2.1
  have hn2 := hpre.2.2.1
  have hn3 := hpre.2.2.2
  refine letV_intro (fun r6 er6 => ?_)
  have fr6 := pick_ok (s := source_here_) (n := 4) (by first | assumption | omega) (by omega)
  rw [← er6] at fr6
  obtain ⟨lr6, ar6, br6⟩ := fr6
  refine b_setC 2 sc_law_wrong.nd ?_
  refine ec_callM F_law_pick hr (by decide) ?_
  refine ac_cons ?_
  refine ec_D (P := rV (.ref a1_)) (d_var 1 (P := rV (.ref a1_)) rfl rfl) (fun v_ Gs1 s1 hv_ => ?_)
  cases hv_
  refine ac_cons ?_
  refine ec_D (P := rI 4) d_int (fun v3 Gs2 s2 h4 => ?_)
  refine ac_nil' (fun Gs5 s5 => ?_)
  refine ⟨(source_here_, 4), [(a1_, HO.lst u1_)], (a0_, HO.ins (clA mg "Sender") dx0_ (nf_Sender.zip [.str (SX.S end_.1), .str (SX.S end_.2.1), .int end_.2.2.1, .int end_.2.2.2.1, .ref l0_])) :: (dx0_, HO.own a0_) :: (l0_, HO.lst u0_) :: cs, (perm_to (k := 3) rfl (List.Perm.refl _)), ⟨_, _, _, rfl, rfl, (Rs.mono (s1.trans (s2.trans s5)) h1_), (Mono.mono s5 h4), (by exact ⟨by first | assumption | omega, by first | omega | (dsimp only; omega), by first | omega | (dsimp only; omega)⟩)⟩, ?_⟩
  rintro v13 Gs7 mc8 s7 ⟨v9, a10, us11, e_, rfl, h12, h14⟩
  cases e_
  have h15 : Rs rI Gs7 r6.2 us11 := by rw [er6]; exact h12
  have h16 : rI r6.1 Gs7 v13 := by rw [er6]; exact h14
  refine ⟨(a0_, HO.ins (clA mg "Sender") dx0_ (nf_Sender.zip [.str (SX.S end_.1), .str (SX.S end_.2.1), .int end_.2.2.1, .int end_.2.2.2.1, .ref l0_])) :: (dx0_, HO.own a0_) :: (l0_, HO.lst u0_) :: (a1_, HO.lst us11) :: cs, (perm_to (k := 1) rfl (perm_to (k := 1) rfl (perm_to (k := 1) rfl (List.Perm.refl _)))), ?_⟩
  intro _
  refine letV_intro (fun which_17 ewhich_17 => ?_)
  have h18 : rI which_17 Gs7 v13 := by rw [ewhich_17]; exact h16
  have hq_ : (v13 : V) = .int which_17 := h18
  rw [hq_]
  refine b_setV (r := rS) 3 sc_law_wrong.nd (d_str (l := [112, 97, 121]) (by decide +kernel)) (fun kind_here_19 ekind_here_19 v21 Gs20 s20 h22 => ?_)
  cases h22
  refine letV_intro (fun r28 er28 => ?_)
  have fr28 := text_ok (s := r6.2) (m := 9) (by first | assumption | omega) (by omega) (by omega)
  rw [← er28] at fr28
  obtain ⟨lr28, ar28⟩ := fr28
  have a1r28 := ar28.1
  refine b_setC 4 sc_law_wrong.nd ?_
  refine ec_lstN ?_
  refine ac_cons ?_
  refine ec_callM F_law_text hr (by decide) ?_
  refine ac_cons ?_
  refine ec_D (P := rV (.ref a1_)) (d_var 1 (P := rV (.ref a1_)) rfl rfl) (fun v_ Gs23 s23 hv_ => ?_)
  cases hv_
  refine ac_cons ?_
  refine ec_D (P := rI 9) d_int (fun v25 Gs24 s24 h26 => ?_)
  refine ac_nil' (fun Gs27 s27 => ?_)
  refine ⟨(r6.2, 9), [(a1_, HO.lst us11)], (a0_, HO.ins (clA mg "Sender") dx0_ (nf_Sender.zip [.str (SX.S end_.1), .str (SX.S end_.2.1), .int end_.2.2.1, .int end_.2.2.2.1, .ref l0_])) :: (dx0_, HO.own a0_) :: (l0_, HO.lst u0_) :: cs, (perm_to (k := 3) rfl (List.Perm.refl _)), ⟨_, _, _, rfl, rfl, (Rs.mono (s20.trans (s23.trans (s24.trans s27))) h15), (Mono.mono s27 h26), (by exact ⟨by first | assumption | omega, by first | omega | (dsimp only; omega), by first | omega | (dsimp only; omega)⟩)⟩, ?_⟩
  rintro v35 Gs29 mc30 s29 ⟨v31, a32, us33, e_, rfl, h34, h36⟩
  cases e_
  have h37 : Rs rI Gs29 r28.2 us33 := by rw [er28]; exact h34
  have h38 : rS r28.1 Gs29 v35 := by rw [er28]; exact h36
  refine ⟨(a0_, HO.ins (clA mg "Sender") dx0_ (nf_Sender.zip [.str (SX.S end_.1), .str (SX.S end_.2.1), .int end_.2.2.1, .int end_.2.2.2.1, .ref l0_])) :: (dx0_, HO.own a0_) :: (l0_, HO.lst u0_) :: (a1_, HO.lst us33) :: cs, (perm_to (k := 1) rfl (perm_to (k := 1) rfl (perm_to (k := 1) rfl (List.Perm.refl _)))), ?_⟩
  refine ac_nil' (fun Gs39 s39 => ⟨Nat.le_of_ble_eq_true rfl, fun l40 => ?_⟩)
  have h41 : Rs rS Gs39 [r28.1] [v35] := (.cons (Mono.mono s39 h38) .nil)
  intro _
  refine letV_intro (fun fields_42 efields_42 => ?_)
  have h43 : Rs rS Gs39 fields_42 [v35] := by rw [efields_42]; exact h41
  refine b_if (S' := ((List Nat) × (List Int))) (fun (z46 : ((List Nat) × (List Int))) σ_ G_ cs_ => ∃ us47 : List V, ∃ o49 : Option V, σ_ = [some (.ref a0_), some (.ref a1_), some (.int which_17), some (.str (SX.S z46.1)), some (.ref l40), o49] ∧ (l40, HO.lst [v35]) :: (a0_, HO.ins (clA mg "Sender") dx0_ (nf_Sender.zip [.str (SX.S end_.1), .str (SX.S end_.2.1), .int end_.2.2.1, .int end_.2.2.2.1, .ref l0_])) :: (dx0_, HO.own a0_) :: (l0_, HO.lst u0_) :: (a1_, HO.lst us47) :: cs = cs_ ∧ Rs rI G_ z46.2 us47 ∧ (z46.2.length = 2)) (t_cmp op_eq (nomark _) (d_var 2 (P := rI which_17) rfl rfl) d_int fun _ _ _ _ _ _ hx hy _ q => c_eqI hx hy q) ?_ ?_ ?_
  · intro hc44 Gs45 s45
    have dhc44 := hc44
    try simp only [decide_eq_true_eq, decide_eq_false_iff_not, Bool.and_eq_true, Bool.and_eq_false_imp, Bool.or_eq_true, Bool.or_eq_false_iff, Bool.not_eq_true', Bool.not_eq_false', Bool.not_not, ne_eq, Int.not_lt, Int.not_le] at dhc44
    refine letV_intro (fun r52 er52 => ?_)
    have fr52 := bad_ok (s := r28.2) (by first | assumption | omega)
    rw [← er52] at fr52
    obtain ⟨lr52, ar52⟩ := fr52
    refine b_setC 3 sc_law_wrong.nd ?_
    refine ec_callM F_law_bad_name hr (by decide) ?_
    refine ac_cons ?_
    refine ec_D (P := rV (.ref a1_)) (d_var 1 (P := rV (.ref a1_)) rfl rfl) (fun v_ Gs50 s50 hv_ => ?_)
    cases hv_
    refine ac_nil' (fun Gs51 s51 => ?_)
    refine ⟨(r28.2), [(a1_, HO.lst us33)], (l40, HO.lst [v35]) :: (a0_, HO.ins (clA mg "Sender") dx0_ (nf_Sender.zip [.str (SX.S end_.1), .str (SX.S end_.2.1), .int end_.2.2.1, .int end_.2.2.2.1, .ref l0_])) :: (dx0_, HO.own a0_) :: (l0_, HO.lst u0_) :: cs, (perm_to (k := 4) rfl (List.Perm.refl _)), ⟨_, _, rfl, rfl, (Rs.mono (s39.trans (s45.trans (s50.trans s51))) h37), (by (try dsimp only); first | assumption | omega | (refine ⟨?_, ?_⟩ <;> omega) | (refine ⟨?_, ?_, ?_⟩ <;> omega) | simp_all)⟩, ?_⟩
    rintro v58 Gs53 mc54 s53 ⟨a55, us56, e_, rfl, h57, h59⟩
    cases e_
    have h60 : Rs rI Gs53 r52.2 us56 := by rw [er52]; exact h57
    have h61 : rS r52.1 Gs53 v58 := by rw [er52]; exact h59
    refine ⟨(l40, HO.lst [v35]) :: (a0_, HO.ins (clA mg "Sender") dx0_ (nf_Sender.zip [.str (SX.S end_.1), .str (SX.S end_.2.1), .int end_.2.2.1, .int end_.2.2.2.1, .ref l0_])) :: (dx0_, HO.own a0_) :: (l0_, HO.lst u0_) :: (a1_, HO.lst us56) :: cs, (perm_to (k := 1) rfl (perm_to (k := 1) rfl (perm_to (k := 1) rfl (perm_to (k := 1) rfl (List.Perm.refl _))))), ?_⟩
    intro _
    refine letV_intro (fun kind_here_62 ekind_here_62 => ?_)
    have h63 : rS kind_here_62 Gs53 v58 := by rw [ekind_here_62]; exact h61
    have hq_ : (v58 : V) = .str (SX.S kind_here_62) := h63
    rw [hq_]
    exact b_nil (by refine ⟨_, _, rfl, rfl, h60, (by first | assumption | omega | (simp only [List.length_cons, List.length_nil] at *; omega))⟩)
  · intro hc44 Gs45 s45
    have dhc44 := hc44
    try simp only [decide_eq_true_eq, decide_eq_false_iff_not, Bool.and_eq_true, Bool.and_eq_false_imp, Bool.or_eq_true, Bool.or_eq_false_iff, Bool.not_eq_true', Bool.not_eq_false', Bool.not_not, ne_eq, Int.not_lt, Int.not_le] at dhc44
    exact b_nil (by refine ⟨_, _, rfl, rfl, (Rs.mono (s39.trans s45) h37), (by first | assumption | omega | (simp only [List.length_cons, List.length_nil] at *; omega))⟩)
  · intro z46 _ _ _ sz46 hNz46 hmz46
    obtain ⟨us47, o49, rfl, rfl, h48, hiz46_1⟩ := hNz46
    have hjz46 : Txt 100 z46.1 := by (try unfold letV at hmz46); (try split at hmz46) <;> cases hmz46 <;> (first | exact (bad_ok (by assumption)).2.tx | (rw [ekind_here_19]; exact txt_pay))
    refine b_if (S' := ((List Nat))) (fun (z66 : ((List Nat))) σ_ G_ cs_ => ∃ o67 : Option V, σ_ = [some (.ref a0_), some (.ref a1_), some (.int which_17), some (.str (SX.S z66)), some (.ref l40), o67] ∧ (l40, HO.lst [v35]) :: (a0_, HO.ins (clA mg "Sender") dx0_ (nf_Sender.zip [.str (SX.S end_.1), .str (SX.S end_.2.1), .int end_.2.2.1, .int end_.2.2.2.1, .ref l0_])) :: (dx0_, HO.own a0_) :: (l0_, HO.lst u0_) :: (a1_, HO.lst us47) :: cs = cs_) (t_cmp op_eq (nomark _) (d_var 2 (P := rI which_17) rfl rfl) d_int fun _ _ _ _ _ _ hx hy _ q => c_eqI hx hy q) ?_ ?_ ?_
    · intro hc64 Gs65 s65
      have dhc64 := hc64
      try simp only [decide_eq_true_eq, decide_eq_false_iff_not, Bool.and_eq_true, Bool.and_eq_false_imp, Bool.or_eq_true, Bool.or_eq_false_iff, Bool.not_eq_true', Bool.not_eq_false', Bool.not_not, ne_eq, Int.not_lt, Int.not_le] at dhc64
      refine b_setV (r := rS) 3 sc_law_wrong.nd (d_str (l := [97, 99, 107]) (by decide +kernel)) (fun kind_here_68 ekind_here_68 v70 Gs69 s69 h71 => ?_)
      cases h71
      exact b_nil (by refine ⟨_, rfl, rfl⟩)
    · intro hc64 Gs65 s65
      have dhc64 := hc64
      try simp only [decide_eq_true_eq, decide_eq_false_iff_not, Bool.and_eq_true, Bool.and_eq_false_imp, Bool.or_eq_true, Bool.or_eq_false_iff, Bool.not_eq_true', Bool.not_eq_false', Bool.not_not, ne_eq, Int.not_lt, Int.not_le] at dhc64
      exact b_nil (by refine ⟨_, rfl, rfl⟩)
    · intro z66 _ _ _ sz66 hNz66 hmz66
      obtain ⟨o67, rfl, rfl⟩ := hNz66
      have hjz66 : Txt 100 z66 := by (try unfold letV at hmz66); (try split at hmz66) <;> cases hmz66 <;> (first | assumption | exact txt_ack)
      refine b_if (S' := ((List (List Nat)) × (List Int))) (fun (z74 : ((List (List Nat)) × (List Int))) σ_ G_ cs_ => ∃ us75 : List V, ∃ v77 : V, ∃ o79 : Option V, σ_ = [some (.ref a0_), some (.ref a1_), some (.int which_17), some (.str (SX.S z66)), some v77, o79] ∧ (a0_, HO.ins (clA mg "Sender") dx0_ (nf_Sender.zip [.str (SX.S end_.1), .str (SX.S end_.2.1), .int end_.2.2.1, .int end_.2.2.2.1, .ref l0_])) :: (dx0_, HO.own a0_) :: (l0_, HO.lst u0_) :: (a1_, HO.lst us75) :: cs = cs_ ∧ Rs rI G_ z74.2 us75 ∧ (rL K rS) z74.1 G_ v77 ∧ (z74.2.length = 2)) (t_cmp op_eq (nomark _) (d_var 2 (P := rI which_17) rfl rfl) d_int fun _ _ _ _ _ _ hx hy _ q => c_eqI hx hy q) ?_ ?_ ?_
      · intro hc72 Gs73 s73
        have dhc72 := hc72
        try simp only [decide_eq_true_eq, decide_eq_false_iff_not, Bool.and_eq_true, Bool.and_eq_false_imp, Bool.or_eq_true, Bool.or_eq_false_iff, Bool.not_eq_true', Bool.not_eq_false', Bool.not_not, ne_eq, Int.not_lt, Int.not_le] at dhc72
        refine letV_intro (fun r89 er89 => ?_)
        have fr89 := pick_ok (s := z46.2) (n := 3) (by first | assumption | omega) (by omega)
        rw [← er89] at fr89
        obtain ⟨lr89, ar89, br89⟩ := fr89
        refine b_setC 4 sc_law_wrong.nd ?_
        refine ec_bin op_rep ?_
        refine ec_D (P := rV (.ref l40)) (d_var 4 (P := rV (.ref l40)) rfl rfl) (fun v_ Gs80 s80 hv_ => ?_)
        cases hv_
        refine ec_bin op_add ?_
        refine ec_D (P := rI 9) d_int (fun v82 Gs81 s81 h83 => ?_)
        refine ec_callM F_law_pick hr (by decide) ?_
        refine ac_cons ?_
        refine ec_D (P := rV (.ref a1_)) (d_var 1 (P := rV (.ref a1_)) rfl rfl) (fun v_ Gs84 s84 hv_ => ?_)
        cases hv_
        refine ac_cons ?_
        refine ec_D (P := rI 3) d_int (fun v86 Gs85 s85 h87 => ?_)
        refine ac_nil' (fun Gs88 s88 => ?_)
        refine ⟨(z46.2, 3), [(a1_, HO.lst us47)], (l40, HO.lst [v35]) :: (a0_, HO.ins (clA mg "Sender") dx0_ (nf_Sender.zip [.str (SX.S end_.1), .str (SX.S end_.2.1), .int end_.2.2.1, .int end_.2.2.2.1, .ref l0_])) :: (dx0_, HO.own a0_) :: (l0_, HO.lst u0_) :: cs, (perm_to (k := 4) rfl (List.Perm.refl _)), ⟨_, _, _, rfl, rfl, (Rs.mono (sz66.trans (s73.trans (s80.trans (s81.trans (s84.trans (s85.trans s88)))))) h48), (Mono.mono s88 h87), (by exact ⟨by first | assumption | omega, by first | omega | (dsimp only; omega), by first | omega | (dsimp only; omega)⟩)⟩, ?_⟩
        rintro v96 Gs90 mc91 s90 ⟨v92, a93, us94, e_, rfl, h95, h97⟩
        cases e_
        have h98 : Rs rI Gs90 r89.2 us94 := by rw [er89]; exact h95
        have h99 : rI r89.1 Gs90 v96 := by rw [er89]; exact h97
        refine ⟨(l40, HO.lst [v35]) :: (a0_, HO.ins (clA mg "Sender") dx0_ (nf_Sender.zip [.str (SX.S end_.1), .str (SX.S end_.2.1), .int end_.2.2.1, .int end_.2.2.2.1, .ref l0_])) :: (dx0_, HO.own a0_) :: (l0_, HO.lst u0_) :: (a1_, HO.lst us94) :: cs, (perm_to (k := 1) rfl (perm_to (k := 1) rfl (perm_to (k := 1) rfl (perm_to (k := 1) rfl (List.Perm.refl _))))), ?_⟩
        refine rc_int (i := 9) (j := r89.1) (Mono.mono (s84.trans (s85.trans (s88.trans s90))) h83) h99 (fun Gs100 s100 => ?_)
        have h101 : rI (9 + r89.1) Gs100 (.int (9 + r89.1)) := rfl
        refine rc_rep (r := rS) (xs := fields_42) (n := (9 + r89.1)) List.mem_cons_self (Rs.mono (sz46.trans (sz66.trans (s73.trans (s80.trans (s81.trans (s84.trans (s85.trans (s88.trans (s90.trans s100))))))))) h43) (by constructor <;> omega) (by (rw [efields_42]; simp only [List.length_cons, List.length_nil]; omega)) K (fun v103 Gs102 s102 h104 => ?_)
        intro _
        refine letV_intro (fun fields_105 efields_105 => ?_)
        have h106 : (rL K rS) fields_105 Gs102 v103 := by rw [efields_105]; exact h104
        refine b_freeze 0 rfl (fun s107 _ => ?_)
        exact b_nil (by refine ⟨_, _, _, rfl, rfl, (Rs.mono (s100.trans (s102.trans s107)) h98), (Mono.mono s107 h106), (by first | assumption | omega | (simp only [List.length_cons, List.length_nil] at *; omega))⟩)
      · intro hc72 Gs73 s73
        have dhc72 := hc72
        try simp only [decide_eq_true_eq, decide_eq_false_iff_not, Bool.and_eq_true, Bool.and_eq_false_imp, Bool.or_eq_true, Bool.or_eq_false_iff, Bool.not_eq_true', Bool.not_eq_false', Bool.not_not, ne_eq, Int.not_lt, Int.not_le] at dhc72
        have hzs108 := (Rs.mono (sz46.trans (sz66.trans s73)) h43)
        refine b_freeze 0 rfl (fun s108 h109 => ?_)
        have kh109 : (rL K rS) fields_42 _ (.ref l40) := ⟨_, _, rfl, SqL.of h109, Rs.mono s108 hzs108⟩
        exact b_nil (by refine ⟨_, _, _, rfl, rfl, (Rs.mono (sz66.trans (s73.trans s108)) h48), kh109, (by first | assumption | omega | (simp only [List.length_cons, List.length_nil] at *; omega))⟩)
      · intro z74 _ _ _ sz74 hNz74 hmz74
        obtain ⟨us75, v77, o79, rfl, rfl, h76, h78, hiz74_1⟩ := hNz74
        have hjz74 : z74.1.length ≤ 11 ∧ ∀ f ∈ z74.1, Txt 100 f := by (try unfold letV at hmz74); (try split at hmz74) <;> cases hmz74 <;> ((try dsimp only); rw [efields_42]; first | exact one_txt ar28 (by decide) | (obtain ⟨q1, q2, q3⟩ := pick_ok (n := 3) (s := z46.2) (by assumption) (by decide); exact rep_txt ar28 (by decide) (by omega) (by omega)))
        refine b_if (S' := ((List (List Nat)) × (List Int))) (fun (z112 : ((List (List Nat)) × (List Int))) σ_ G_ cs_ => ∃ us113 : List V, ∃ v115 : V, ∃ o117 : Option V, σ_ = [some (.ref a0_), some (.ref a1_), some (.int which_17), some (.str (SX.S z66)), some v115, o117] ∧ (a0_, HO.ins (clA mg "Sender") dx0_ (nf_Sender.zip [.str (SX.S end_.1), .str (SX.S end_.2.1), .int end_.2.2.1, .int end_.2.2.2.1, .ref l0_])) :: (dx0_, HO.own a0_) :: (l0_, HO.lst u0_) :: (a1_, HO.lst us113) :: cs = cs_ ∧ Rs rI G_ z112.2 us113 ∧ (rL K rS) z112.1 G_ v115 ∧ (z112.2.length = 2)) (t_cmp op_eq (nomark _) (d_var 2 (P := rI which_17) rfl rfl) d_int fun _ _ _ _ _ _ hx hy _ q => c_eqI hx hy q) ?_ ?_ ?_
        · intro hc110 Gs111 s111
          have dhc110 := hc110
          try simp only [decide_eq_true_eq, decide_eq_false_iff_not, Bool.and_eq_true, Bool.and_eq_false_imp, Bool.or_eq_true, Bool.or_eq_false_iff, Bool.not_eq_true', Bool.not_eq_false', Bool.not_not, ne_eq, Int.not_lt, Int.not_le] at dhc110
          refine letV_intro (fun r126 er126 => ?_)
          have fr126 := text_ok (s := z74.2) (m := 9) (by first | assumption | omega) (by omega) (by omega)
          rw [← er126] at fr126
          obtain ⟨lr126, ar126⟩ := fr126
          have a1r126 := ar126.1
          refine b_setC 4 sc_law_wrong.nd ?_
          refine ec_bin op_catW ?_
          refine ec_D (P := (rL K rS) z74.1) (d_var 4 (P := (rL K rS) z74.1) rfl (Mono.mono s111 h78)) (fun v119 Gs118 s118 h120 => ?_)
          refine ec_lst ?_
          refine ac_cons ?_
          refine ec_bin op_add_str ?_
          refine ec_callM F_law_text hr (by decide) ?_
          refine ac_cons ?_
          refine ec_D (P := rV (.ref a1_)) (d_var 1 (P := rV (.ref a1_)) rfl rfl) (fun v_ Gs121 s121 hv_ => ?_)
          cases hv_
          refine ac_cons ?_
          refine ec_D (P := rI 9) d_int (fun v123 Gs122 s122 h124 => ?_)
          refine ac_nil' (fun Gs125 s125 => ?_)
          refine ⟨(z74.2, 9), [(a1_, HO.lst us75)], (a0_, HO.ins (clA mg "Sender") dx0_ (nf_Sender.zip [.str (SX.S end_.1), .str (SX.S end_.2.1), .int end_.2.2.1, .int end_.2.2.2.1, .ref l0_])) :: (dx0_, HO.own a0_) :: (l0_, HO.lst u0_) :: cs, (perm_to (k := 3) rfl (List.Perm.refl _)), ⟨_, _, _, rfl, rfl, (Rs.mono (s111.trans (s118.trans (s121.trans (s122.trans s125)))) h76), (Mono.mono s125 h124), (by exact ⟨by first | assumption | omega, by first | omega | (dsimp only; omega), by first | omega | (dsimp only; omega)⟩)⟩, ?_⟩
          rintro v133 Gs127 mc128 s127 ⟨v129, a130, us131, e_, rfl, h132, h134⟩
          cases e_
          have h135 : Rs rI Gs127 r126.2 us131 := by rw [er126]; exact h132
          have h136 : rS r126.1 Gs127 v133 := by rw [er126]; exact h134
          refine ⟨(a0_, HO.ins (clA mg "Sender") dx0_ (nf_Sender.zip [.str (SX.S end_.1), .str (SX.S end_.2.1), .int end_.2.2.1, .int end_.2.2.2.1, .ref l0_])) :: (dx0_, HO.own a0_) :: (l0_, HO.lst u0_) :: (a1_, HO.lst us131) :: cs, (perm_to (k := 1) rfl (perm_to (k := 1) rfl (perm_to (k := 1) rfl (List.Perm.refl _)))), ?_⟩
          refine ec_D (P := rS [124]) (d_str (l := [124]) (by decide +kernel)) (fun v138 Gs137 s137 h139 => ?_)
          refine rc_cat (z := r126.1) (w := [124]) (Mono.mono s137 h136) h139 (by first | (simp; omega) | omega) (fun Gs140 s140 => ?_)
          have h141 : rS (r126.1 ++ [124]) Gs140 (.str (SX.S (r126.1 ++ [124]))) := rfl
          refine ac_nil' (fun Gs142 s142 => ⟨Nat.le_of_ble_eq_true rfl, fun l144 Gs143 s143 hl145 => ?_⟩)
          have h146 : (rL K rS) [(r126.1 ++ [124])] Gs143 (.ref l144) := ⟨l144, _, rfl, hl145, (.cons (Mono.mono (s142.trans s143) h141) .nil)⟩
          refine rc_catL (r := rS) (xs := z74.1) (ys := [(r126.1 ++ [124])]) (rdL_of (Mono.mono (s121.trans (s122.trans (s125.trans (s127.trans (s137.trans (s140.trans (s142.trans s143))))))) h120)) (rdL_of h146) (by first | omega | (simp; done) | (simp; omega)) (fun v148 Gs147 s147 h149 => ?_)
          intro _
          refine letV_intro (fun fields_150 efields_150 => ?_)
          have h151 : (rL K rS) fields_150 Gs147 v148 := by rw [efields_150]; exact h149
          exact b_nil (by refine ⟨_, _, _, rfl, rfl, (Rs.mono (s137.trans (s140.trans (s142.trans (s143.trans s147)))) h135), h151, (by first | assumption | omega | (simp only [List.length_cons, List.length_nil] at *; omega))⟩)
        · intro hc110 Gs111 s111
          have dhc110 := hc110
          try simp only [decide_eq_true_eq, decide_eq_false_iff_not, Bool.and_eq_true, Bool.and_eq_false_imp, Bool.or_eq_true, Bool.or_eq_false_iff, Bool.not_eq_true', Bool.not_eq_false', Bool.not_not, ne_eq, Int.not_lt, Int.not_le] at dhc110
          exact b_nil (by refine ⟨_, _, _, rfl, rfl, (Rs.mono s111 h76), (Mono.mono s111 h78), (by first | assumption | omega | (simp only [List.length_cons, List.length_nil] at *; omega))⟩)
        · intro z112 _ _ _ sz112 hNz112 hmz112
          obtain ⟨us113, v115, o117, rfl, rfl, h114, h116, hiz112_1⟩ := hNz112
          have hjz112 : z112.1.length ≤ 20 ∧ ∀ f ∈ z112.1, Txt 100 f := by (try unfold letV at hmz112); (try split at hmz112) <;> cases hmz112 <;> ((try dsimp only); first | exact ⟨Nat.le_trans hjz74.1 (by decide), hjz74.2⟩ | exact app_txt hjz74 (text_ok (m := 9) (by assumption) (by decide) (by decide)).2)
          refine b_tryAsM 5 (S' := (Mo_Sender)) (fun (z152 : (Mo_Sender)) σ_ G_ cs_ => ∃ dx153 : Addr, ∃ l154 : Addr, ∃ us155 : List V, ∃ o157 : Option V, σ_ = [some (.ref a0_), some (.ref a1_), some (.int which_17), some (.str (SX.S z66)), some v115, o157] ∧ (a0_, HO.ins (clA mg "Sender") dx153 (nf_Sender.zip [.str (SX.S z152.1), .str (SX.S z152.2.1), .int z152.2.2.1, .int z152.2.2.2.1, .ref l154])) :: (dx153, HO.own a0_) :: (l154, HO.lst us155) :: (a1_, HO.lst us113) :: cs = cs_ ∧ Rs rS G_ z152.2.2.2.2 us155) (fun (k158 : _root_.Fin 7 × Mo_Sender) σ_ G_ cs_ => ∃ dx159 : Addr, ∃ l160 : Addr, ∃ us161 : List V, ∃ o163 : Option V, σ_ = [some (.ref a0_), some (.ref a1_), some (.int which_17), some (.str (SX.S z66)), some v115, o163] ∧ (a0_, HO.ins (clA mg "Sender") dx159 (nf_Sender.zip [.str (SX.S k158.2.1), .str (SX.S k158.2.2.1), .int k158.2.2.2.1, .int k158.2.2.2.2.1, .ref l160])) :: (dx159, HO.own a0_) :: (l160, HO.lst us161) :: (a1_, HO.lst us113) :: cs = cs_ ∧ Rs rS G_ k158.2.2.2.2.2 us161) Er sc_law_wrong.nd ?_ ?_ ?_
          · intro Wx164 _ _ tk165 po166
            refine b_exprX (ex_methME (adr := adr) (end_, z66, z112.1) F_Sender_dispatch K_Sender.cl tk165 hr (by decide) (d_var 0 (P := rV (.ref a0_)) rfl rfl) List.mem_cons_self (lookup_zip_no (by decide +kernel)) ?_)
            refine ac_cons ?_
            refine ec_D (P := rS z66) (d_var 3 (P := rS z66) rfl rfl) (fun v168 Gs167 s167 h169 => ?_)
            refine ac_cons ?_
            refine ec_D (P := (rL K rS) z112.1) (d_var 4 (P := (rL K rS) z112.1) rfl (Mono.mono s167 h116)) (fun v171 Gs170 s170 h172 => ?_)
            refine ac_nil' (fun Gs173 s173 => ?_)
            refine ⟨[(a0_, HO.ins (clA mg "Sender") dx0_ (nf_Sender.zip [.str (SX.S end_.1), .str (SX.S end_.2.1), .int end_.2.2.1, .int end_.2.2.2.1, .ref l0_])), (dx0_, HO.own a0_), (l0_, HO.lst u0_)], (a1_, HO.lst us113) :: cs, (List.Perm.refl _), ⟨_, _, _, _, _, _, rfl, rfl, (Rs.mono (s1.trans (s2.trans (s5.trans (s7.trans (s20.trans (s23.trans (s24.trans (s27.trans (s29.trans (s39.trans (sz46.trans (sz66.trans (sz74.trans (sz112.trans (s167.trans (s170.trans s173)))))))))))))))) h0_), (Mono.mono (s170.trans s173) h169), (Mono.mono s173 h172), (by exact ⟨by assumption, hn1, hn2, hjz112.1, hjz112.2, Nat.le_trans hn3 (by decide)⟩)⟩, ?_, ?_⟩
            · rintro o176 v185 Gs174 mc175 eo177 s174 ⟨v178, v179, a180, dx181, l182, us183, e_, rfl, h184, h186⟩
              cases e_
              refine ⟨(a0_, HO.ins (clA mg "Sender") dx181 (nf_Sender.zip [.str (SX.S o176.2.1), .str (SX.S o176.2.2.1), .int o176.2.2.2.1, .int o176.2.2.2.2.1, .ref l182])) :: (dx181, HO.own a0_) :: (l182, HO.lst us183) :: (a1_, HO.lst us113) :: cs, (List.Perm.refl _), ?_⟩
              intro _ _
              exact b_nil (by refine ⟨_, _, _, _, rfl, rfl, h184⟩)
            · rintro c189 t188 Gs187 mc175 _ s187 ⟨v190, v191, a192, dx193, l194, us195, e_, rfl, h196⟩
              cases e_
              exact ⟨(a0_, HO.ins (clA mg "Sender") dx193 (nf_Sender.zip [.str (SX.S t188.1), .str (SX.S t188.2.1), .int t188.2.2.1, .int t188.2.2.2.1, .ref l194])) :: (dx193, HO.own a0_) :: (l194, HO.lst us195) :: (a1_, HO.lst us113) :: cs, (List.Perm.refl _), fun _ => ⟨_, _, _, _, rfl, rfl, h196⟩⟩
          · intro k158 hm205 a198 oe199 pn200 _ _ _ s201 hNk158 hz202 hf203
            obtain ⟨dx159, l160, us161, o163, rfl, rfl, h162⟩ := hNk158
            exact b_ret (P := rB (decide ((m_law_errors k158.1) = [[66, 97, 100, 86, 97, 108, 117, 101]]))) (d_eqDh (K := K) (r := (rL K rS)) (roomX (k := 0) hr (Nat.zero_le _)) (d_callX (P := (rL K rS) (m_law_errors k158.1)) k158.1 F_law_errors (roomX hr (by decide)) List.mem_cons_self hz202 hf203 (d_var 5 (P := rV (.ref a198)) rfl rfl) fun _ _ h => h) (d_new (n_lst (r := rS) (xs := [[66, 97, 100, 86, 97, 108, 117, 101]]) (a_cons (P := rS [66, 97, 100, 86, 97, 108, 117, 101]) (d_str (l := [66, 97, 100, 86, 97, 108, 117, 101]) (by decide +kernel)) a_nil) (ls_c ls_n))) (by first | exact errs_ok _ | decide) (by simp [EqR.ok, EqT.ok])) (fun v_ Gs204 s204 h_ => ⟨[], [(a0_, HO.ins (clA mg "Sender") dx159 (nf_Sender.zip [.str (SX.S k158.2.1), .str (SX.S k158.2.2.1), .int k158.2.2.2.1, .int k158.2.2.2.2.1, .ref l160])), (dx159, HO.own a0_), (l160, HO.lst us161), (a1_, HO.lst us113)], (List.Perm.refl _), ⟨_, _, _, _, _, _, rfl, rfl, (Rs.mono s204 h162), (Rs.mono (s201.trans s204) h114), h_⟩⟩)
          · intro z152 _ _ _ sz152 hNz152 hmz152
            obtain ⟨dx153, l154, us155, o157, rfl, rfl, h156⟩ := hNz152
            exact b_ret (P := rB false) d_bl (fun v_ Gs206 s206 h_ => ⟨[], [(a0_, HO.ins (clA mg "Sender") dx153 (nf_Sender.zip [.str (SX.S z152.1), .str (SX.S z152.2.1), .int z152.2.2.1, .int z152.2.2.2.1, .ref l154])), (dx153, HO.own a0_), (l154, HO.lst us155), (a1_, HO.lst us113)], (List.Perm.refl _), ⟨_, _, _, _, _, _, rfl, rfl, (Rs.mono s206 h156), (Rs.mono (sz152.trans s206) h114), h_⟩⟩)
end Ck28

set_option synthInstance.maxSize 10000
namespace Ck28
open PySem L2 PyProof.Rows J
abbrev s_Sender___init__ : Stmt := inClass (PySem.Challenge.pw_corebank_k28_sender.main.body.getD 23 (.Pass ⟨0, 0, 0, 0⟩)) 0
abbrev N_Sender___init__ : List Str := ["self", "me", "other"]
theorem sc_Sender___init__ : FnScope ["self", "me", "other"] ["self", "me", "other"] (defScope s_Sender___init__) := ⟨rfl, rfl, rfl, by decide +kernel, rfl, by decide +kernel, by decide +kernel⟩
theorem ok_Sender___init__ {P : Program} {w : World} {K : PySem.W.Frag} {mg : Str → Option Value} {base : Heap} {f : Addr} {fd : FuncData} (F : Fun K "__init__" "Sender.__init__" s_Sender___init__ f fd) (b : Binds K fd ["self", "me", "other"] []) (M : Mk K (clA mg "Sender") f) {adr : _root_.Fin 7 → Addr} {B0 : Addr} (Er : Errs K mg nm_ adr B0) (K_Sender : ClsK K (clA mg "Sender") nf_Sender) :
    In0 P w K mg base CX0 1 (clA mg "Sender") 3 (sp_Sender___init__ K mg) := by
  have hsl := sizeLine_eq
  refine ⟨f, fd, ["self", "me", "other"], fn_okM (pre := pre_Sender___init__ K mg) (post := post_Sender___init__ K mg) F sc_Sender___init__ b (fun i : ((List Nat) × (List Nat)) => b_Sender___init__ i.1 i.2) (fun i G mc vs h => ?_) (fun cdv A outer s H E i G mc cs vs hr hp => ?_), M, b, rfl⟩
  · obtain ⟨_, _, _, _, h, _⟩ := h
    rw [h]
    rfl
  obtain ⟨me_, other_⟩ := i
  obtain ⟨v1_, v2_, a0_, dx0_, rfl, rfl, h1_, h2_⟩ := hp
  cases h1_
  cases h2_
  show B _ _ _ [some (.ref a0_), some (.str (SX.S me_)), some (.str (SX.S other_))] G ((a0_, HO.ins (clA mg "Sender") dx0_ (nf_Sender.zip [])) :: (dx0_, HO.own a0_) :: cs) _ (b_Sender___init__ me_ other_)
  unfold b_Sender___init__
  refine letV_intro (fun me_1 eme_1 => ?_)
  refine b_fldNew (P := rS me_1) 0 K_Sender rfl (by rw [eme_1]; exact (d_var 1 (P := rS me_) rfl rfl)) (d_var 0 (P := rV (.ref a0_)) rfl rfl) (fun v3 Gs2 s2 h4 => ?_)
  cases h4
  refine letV_intro (fun other_5 eother_5 => ?_)
  refine b_fldNew (P := rS other_5) 0 K_Sender rfl (by rw [eother_5]; exact (d_var 2 (P := rS other_) rfl rfl)) (d_var 0 (P := rV (.ref a0_)) rfl rfl) (fun v7 Gs6 s6 h8 => ?_)
  cases h8
  refine letV_intro (fun last_9 elast_9 => ?_)
  refine b_fldNew (P := rI last_9) 0 K_Sender rfl (by rw [elast_9]; exact d_int) (d_var 0 (P := rV (.ref a0_)) rfl rfl) (fun v11 Gs10 s10 h12 => ?_)
  cases h12
  refine letV_intro (fun dropped_13 edropped_13 => ?_)
  refine b_fldNew (P := rI dropped_13) 0 K_Sender rfl (by rw [edropped_13]; exact d_int) (d_var 0 (P := rV (.ref a0_)) rfl rfl) (fun v15 Gs14 s14 h16 => ?_)
  cases h16
  refine letV_intro (fun kept_17 ekept_17 => ?_)
  refine b_fldNewN 0 K_Sender rfl (n_lst (r := rS) (xs := ([] : (List (List Nat)))) a_nil ls_n) (fun _ => (d_var 0 (P := rV (.ref a0_)) rfl rfl)) (fun l19 us20 Gs18 s18 h21 => ?_)
  rw [← ekept_17] at h21
  exact b_nil ⟨[], [(a0_, HO.ins (clA mg "Sender") dx0_ (nf_Sender.zip [.str (SX.S me_1), .str (SX.S other_5), .int last_9, .int dropped_13, .ref l19])), (dx0_, HO.own a0_), (l19, HO.lst us20)], (perm_to (k := 1) rfl (perm_to (k := 1) rfl (List.Perm.refl _))), ⟨_, _, _, _, _, _, rfl, rfl, h21, rfl⟩⟩
end Ck28

set_option synthInstance.maxSize 10000
namespace Ck28
open PySem L2 PyProof.Rows J
abbrev s_law : Stmt := PySem.Challenge.pw_corebank_k28_sender.main.body.getD 41 (.Pass ⟨0, 0, 0, 0⟩)
abbrev N_law : List Str := ["_law_script", "_law_ends", "_law_end", "_law_beside", "_law_sent", "_law_dropped", "_law_k", "_law_source_here", "_law_which", "_law_last"]
theorem sc_law : FnScope ["_law_script", "_law_ends", "_law_end", "_law_beside", "_law_sent", "_law_dropped", "_law_k", "_law_source_here", "_law_which", "_law_last"] ["_law_script"] (defScope s_law) := ⟨rfl, rfl, rfl, by decide +kernel, rfl, by decide +kernel, by decide +kernel⟩
theorem ok_law {P : Program} {w : World} {K : PySem.W.Frag} {mg : Str → Option Value} {base : Heap} {f : Addr} {fd : FuncData} (F : Fun K "law" "law" s_law f fd) (b : Binds K fd ["_law_script"] []) (hmg : mg "law" = some (.ref f)) {adr : _root_.Fin 7 → Addr} {B0 : Addr} (Er : Errs K mg nm_ adr B0) (K_Sender : ClsK K (clA mg "Sender") nf_Sender) (m_len : mg "len" = none) (g_Sender : mg "Sender" = some (.ref (clA mg "Sender"))) (m_range : mg "range" = none) (F_Sender___init__ : In0 P w K mg base CX0 1 (clA mg "Sender") 3 (sp_Sender___init__ K mg)) (F_Sender_waiting : Mt0 P w K mg base CX0 1 (clA mg "Sender") "waiting" 1 (sp_Sender_waiting K mg)) (F_law_acknowledged : Fn0 P w K mg base CX0 2 "_law_acknowledged" 4 (sp_law_acknowledged K mg)) (F_law_agrees : Fn0 P w K mg base CX0 2 "_law_agrees" 3 (sp_law_agrees K mg)) (F_law_cell : Fn0 P w K mg base CX0 1 "_law_cell" 2 (sp_law_cell K)) (F_law_dispatched : Fn0 P w K mg base CX0 4 "_law_dispatched" 5 (sp_law_dispatched K mg)) (F_law_pick : Fn0 P w K mg base CX0 1 "_law_pick" 2 (sp_law_pick K)) (F_law_source : Fn0 P w K mg base CX0 1 "_law_source" 2 (sp_law_source K)) (F_law_two_names : Fn0 P w K mg base CX0 3 "_law_two_names" 1 (sp_law_two_names K)) (F_law_wrong : Fn0 P w K mg base CX0 4 "_law_wrong" 2 (sp_law_wrong K mg)) :
    FnOk P w K mg base CX0 5 f fd ["_law_script"] (sp_law K) := by
  have hsl := sizeLine_eq
  refine fn_ok F sc_law (fun i : ((List Int)) => b_law i) (fun i G vs h => ?_) (fun cdv A outer s H E script_ G cs vs hr hp => ?_)
  · obtain ⟨v0_, h, _⟩ := h
    rw [h]
    rfl
  obtain ⟨v0_, rfl, h0_, hpre⟩ := hp
  show B _ _ _ [some v0_, none, none, none, none, none, none, none, none, none] G cs _ (b_law script_)
  unfold b_law
  try dsimp only at hpre
  refine letV_intro (fun r8 er8 => ?_)
  have lr8 : r8.length = 2 := by rw [er8]; exact source_len
  refine letV_intro (fun r19 er19 => ?_)
  have fr19 := two_ok (s := r8) (by first | assumption | omega)
  rw [← er19] at fr19
  obtain ⟨lr19, ar19⟩ := fr19
  refine b_setC 1 sc_law.nd ?_
  refine ec_callM F_law_two_names hr (by decide) ?_
  refine ac_cons ?_
  refine ec_callM F_law_source hr (by decide) ?_
  refine ac_cons ?_
  refine ec_D (P := rI (m_law_cell script_ 0)) (d_callQ (P := rI (m_law_cell script_ 0)) (script_, 0) F_law_cell hr (by decide) (a_cons (P := (rL K rI) script_) (d_var 0 (P := (rL K rI) script_) rfl h0_) (a_cons (P := rI 0) d_int a_nil)) (fun _ _ _ h => by obtain ⟨v0, w0, rfl, h0, v1, w1, rfl, h1, rfl⟩ := h; exact ⟨v0, v1, rfl, h0, h1, (by (try dsimp only); first | assumption | omega | (refine ⟨?_, ?_⟩ <;> omega) | (refine ⟨?_, ?_, ?_⟩ <;> omega) | simp_all)⟩) fun _ _ h => h) (fun v2 Gs1 s1 h3 => ?_)
  refine ac_cons ?_
  refine ec_D (P := rI 0) d_int (fun v5 Gs4 s4 h6 => ?_)
  refine ac_nil' (fun Gs7 s7 => ?_)
  refine ⟨((m_law_cell script_ 0), 0), [], cs, (List.Perm.refl _), ⟨_, _, rfl, rfl, (Mono.mono (s4.trans s7) h3), (Mono.mono s7 h6)⟩, ?_⟩
  rintro _ Gs9 mc10 s9 ⟨v11, v12, l14, us15, e_, rfl, rfl, h16⟩
  cases e_
  have h17 : Rs rI Gs9 r8 us15 := by rw [er8]; exact h16
  refine ⟨(l14, HO.lst us15) :: cs, (List.Perm.refl _), ?_⟩
  refine ac_nil' (fun Gs18 s18 => ?_)
  refine ⟨(r8), [(l14, HO.lst us15)], cs, (List.Perm.refl _), ⟨_, _, rfl, rfl, (Rs.mono s18 h17), (by (try dsimp only); first | assumption | omega | (refine ⟨?_, ?_⟩ <;> omega) | (refine ⟨?_, ?_, ?_⟩ <;> omega) | simp_all)⟩, ?_⟩
  rintro v25 Gs20 mc21 s20 ⟨a22, us23, e_, rfl, h24, h26⟩
  cases e_
  have h27 : Rs rI Gs20 r19.2 us23 := by rw [er19]; exact h24
  have h28 : (rL K rS) r19.1 Gs20 v25 := by rw [er19]; exact h26
  refine ⟨(l14, HO.lst us23) :: cs, (List.Perm.refl _), ?_⟩
  intro _
  refine letV_intro (fun ends_29 eends_29 => ?_)
  have h30 : (rL K rS) ends_29 Gs20 v25 := by rw [eends_29]; exact h28
  have hel : ends_29.length = 2 := by rw [eends_29]; exact ar19.1
  have h1 : NameOk (ixg ends_29 0) := by rw [eends_29]; exact ar19.2.1
  have h2 : NameOk (ixg ends_29 1) := by rw [eends_29]; exact ar19.2.2
  refine letV_intro (fun r40 er40 => ?_)
  refine b_setC 2 sc_law.nd ?_
  refine ec_make F_Sender___init__ g_Sender hr (by decide) ?_
  refine ac_cons ?_
  refine ec_D (P := rS (ixg ends_29 0)) (d_ixL (r := rS) (xs := ends_29) (i := 0) (x := (ixg ends_29 0)) (D.imp (P := (rL K rS) ends_29) (d_var 1 (P := (rL K rS) ends_29) rfl h30) fun _ _ => rdL_of) d_int (atI_ixg (by first | (constructor <;> omega) | (simp only [List.length_cons, List.length_nil]; constructor <;> omega) | exact ix_mod (by omega) | (simp only [decide_eq_true_eq, decide_eq_false_iff_not] at *; constructor <;> omega) | (simp only [decide_eq_true_eq, decide_eq_false_iff_not, Bool.and_eq_true, Bool.or_eq_true, Bool.or_eq_false_iff, Bool.not_eq_true', Bool.not_eq_false', Bool.not_not, ne_eq, Int.not_lt, Int.not_le] at *; constructor <;> omega)))) (fun v32 Gs31 s31 h33 => ?_)
  refine ac_cons ?_
  refine ec_D (P := rS (ixg ends_29 1)) (d_ixL (r := rS) (xs := ends_29) (i := 1) (x := (ixg ends_29 1)) (D.imp (P := (rL K rS) ends_29) (d_var 1 (P := (rL K rS) ends_29) rfl (Mono.mono s31 h30)) fun _ _ => rdL_of) d_int (atI_ixg (by first | (constructor <;> omega) | (simp only [List.length_cons, List.length_nil]; constructor <;> omega) | exact ix_mod (by omega) | (simp only [decide_eq_true_eq, decide_eq_false_iff_not] at *; constructor <;> omega) | (simp only [decide_eq_true_eq, decide_eq_false_iff_not, Bool.and_eq_true, Bool.or_eq_true, Bool.or_eq_false_iff, Bool.not_eq_true', Bool.not_eq_false', Bool.not_not, ne_eq, Int.not_lt, Int.not_le] at *; constructor <;> omega)))) (fun v35 Gs34 s34 h36 => ?_)
  refine ac_nil' (fun Gs37 s37 => ?_)
  intro l38 dx39
  refine ⟨((ixg ends_29 0), (ixg ends_29 1)), [(l38, HO.ins (clA mg "Sender") dx39 (nf_Sender.zip [])), (dx39, HO.own l38)], (l14, HO.lst us23) :: cs, (List.Perm.refl _), ⟨_, _, _, _, rfl, rfl, (Mono.mono (s34.trans s37) h33), (Mono.mono s37 h36)⟩, ?_⟩
  rintro v50 Gs41 mc42 s41 ⟨v43, v44, a45, dx46, l47, us48, e_, rfl, h49, h51⟩
  cases e_
  have h52 : Rs rS Gs41 r40.2.2.2.2.2 us48 := by rw [er40]; exact h49
  refine ⟨h51, (l38, HO.ins (clA mg "Sender") dx46 (nf_Sender.zip [.str (SX.S r40.2.1), .str (SX.S r40.2.2.1), .int r40.2.2.2.1, .int r40.2.2.2.2.1, .ref l47])) :: (dx46, HO.own l38) :: (l47, HO.lst us48) :: (l14, HO.lst us23) :: cs, (by rw [er40]; exact (List.Perm.refl _)), ?_⟩
  intro _
  refine letV_intro (fun r63 er63 => ?_)
  refine b_setC 3 sc_law.nd ?_
  refine ec_make F_Sender___init__ g_Sender hr (by decide) ?_
  refine ac_cons ?_
  refine ec_D (P := rS (ixg ends_29 1)) (d_ixL (r := rS) (xs := ends_29) (i := 1) (x := (ixg ends_29 1)) (D.imp (P := (rL K rS) ends_29) (d_var 1 (P := (rL K rS) ends_29) rfl (Mono.mono (s31.trans (s34.trans (s37.trans s41))) h30)) fun _ _ => rdL_of) d_int (atI_ixg (by first | (constructor <;> omega) | (simp only [List.length_cons, List.length_nil]; constructor <;> omega) | exact ix_mod (by omega) | (simp only [decide_eq_true_eq, decide_eq_false_iff_not] at *; constructor <;> omega) | (simp only [decide_eq_true_eq, decide_eq_false_iff_not, Bool.and_eq_true, Bool.or_eq_true, Bool.or_eq_false_iff, Bool.not_eq_true', Bool.not_eq_false', Bool.not_not, ne_eq, Int.not_lt, Int.not_le] at *; constructor <;> omega)))) (fun v55 Gs54 s54 h56 => ?_)
  refine ac_cons ?_
  refine ec_D (P := rS (ixg ends_29 0)) (d_ixL (r := rS) (xs := ends_29) (i := 0) (x := (ixg ends_29 0)) (D.imp (P := (rL K rS) ends_29) (d_var 1 (P := (rL K rS) ends_29) rfl (Mono.mono (s31.trans (s34.trans (s37.trans (s41.trans s54)))) h30)) fun _ _ => rdL_of) d_int (atI_ixg (by first | (constructor <;> omega) | (simp only [List.length_cons, List.length_nil]; constructor <;> omega) | exact ix_mod (by omega) | (simp only [decide_eq_true_eq, decide_eq_false_iff_not] at *; constructor <;> omega) | (simp only [decide_eq_true_eq, decide_eq_false_iff_not, Bool.and_eq_true, Bool.or_eq_true, Bool.or_eq_false_iff, Bool.not_eq_true', Bool.not_eq_false', Bool.not_not, ne_eq, Int.not_lt, Int.not_le] at *; constructor <;> omega)))) (fun v58 Gs57 s57 h59 => ?_)
  refine ac_nil' (fun Gs60 s60 => ?_)
  intro l61 dx62
  refine ⟨((ixg ends_29 1), (ixg ends_29 0)), [(l61, HO.ins (clA mg "Sender") dx62 (nf_Sender.zip [])), (dx62, HO.own l61)], (l38, HO.ins (clA mg "Sender") dx46 (nf_Sender.zip [.str (SX.S r40.2.1), .str (SX.S r40.2.2.1), .int r40.2.2.2.1, .int r40.2.2.2.2.1, .ref l47])) :: (dx46, HO.own l38) :: (l47, HO.lst us48) :: (l14, HO.lst us23) :: cs, (List.Perm.refl _), ⟨_, _, _, _, rfl, rfl, (Mono.mono (s57.trans s60) h56), (Mono.mono s60 h59)⟩, ?_⟩
  rintro v73 Gs64 mc65 s64 ⟨v66, v67, a68, dx69, l70, us71, e_, rfl, h72, h74⟩
  cases e_
  have h75 : Rs rS Gs64 r63.2.2.2.2.2 us71 := by rw [er63]; exact h72
  refine ⟨h74, (l61, HO.ins (clA mg "Sender") dx69 (nf_Sender.zip [.str (SX.S r63.2.1), .str (SX.S r63.2.2.1), .int r63.2.2.2.1, .int r63.2.2.2.2.1, .ref l70])) :: (dx69, HO.own l61) :: (l70, HO.lst us71) :: (l38, HO.ins (clA mg "Sender") dx46 (nf_Sender.zip [.str (SX.S r40.2.1), .str (SX.S r40.2.2.1), .int r40.2.2.2.1, .int r40.2.2.2.2.1, .ref l47])) :: (dx46, HO.own l38) :: (l47, HO.lst us48) :: (l14, HO.lst us23) :: cs, (by rw [er63]; exact (List.Perm.refl _)), ?_⟩
  intro _
  refine b_setN 4 sc_law.nd (n_lst (r := rS) (xs := ([] : (List (List Nat)))) a_nil ls_n) (fun l78 us79 Gs80 s80 h81 => ?_)
  refine letV_intro (fun sent_77 esent_77 => ?_)
  rw [← esent_77] at h81
  have nsent_77 : sent_77.length = 0 := by rw [esent_77]; rfl
  refine b_setV (r := rI) 5 sc_law.nd d_int (fun dropped_82 edropped_82 v84 Gs83 s83 h85 => ?_)
  cases h85
  refine b_for (f := (st_law_1 script_ ends_29)) (s0 := (r40.2, sent_77, dropped_82)) (xs := (rng 1 61)) (fun n_ (z86 : (Mo_Sender × (List (List Nat)) × Int)) σ_ G_ cs_ => ∃ dx89 : Addr, ∃ l90 : Addr, ∃ us91 : List V, ∃ us93 : List V, ∃ o95 : Option V, ∃ o96 : Option V, ∃ o97 : Option V, ∃ o98 : Option V, σ_ = [some v0_, some v25, some (.ref l38), some (.ref l61), some (.ref l78), some (.int z86.2.2), o95, o96, o97, o98] ∧ (l78, HO.lst us93) :: (l61, HO.ins (clA mg "Sender") dx69 (nf_Sender.zip [.str (SX.S r63.2.1), .str (SX.S r63.2.2.1), .int r63.2.2.2.1, .int r63.2.2.2.2.1, .ref l70])) :: (dx69, HO.own l61) :: (l70, HO.lst us71) :: (l38, HO.ins (clA mg "Sender") dx89 (nf_Sender.zip [.str (SX.S z86.1.1), .str (SX.S z86.1.2.1), .int z86.1.2.2.1, .int z86.1.2.2.2.1, .ref l90])) :: (dx89, HO.own l38) :: (l90, HO.lst us91) :: (l14, HO.lst us23) :: cs = cs_ ∧ Rs rS G_ z86.1.2.2.2.2 us91 ∧ Rs rS G_ z86.2.1 us93 ∧ (Snd z86.1 (ixg ends_29 0) (ixg ends_29 1) z86.2.1 z86.2.2 ∧ z86.2.1.length ≤ 13 * n_)) (i_rng2 m_range d_int d_int (by refine ⟨?_, ?_, ?_, ?_⟩ <;> omega)) (tg_name 6 sc_law.nd) rfl PassesOwn.never ?_ ?_ ?_ ?_
  · intro _ s371
    exact ⟨_, _, _, _, _, _, _, _, rfl, rfl, (Rs.mono (s54.trans (s57.trans (s60.trans (s64.trans (s80.trans (s83.trans s371)))))) h52), (Rs.mono (s83.trans s371) h81), by exact ⟨by rw [er40, esent_77, edropped_82]; exact snd_new h1 h2, by rw [esent_77]; exact Nat.le_refl 0⟩⟩
  · intro _ _ _ _ _ _
    trivial
  · intro pre_ x99 post_ z86 _ _ _ _ _ hxsz86 hrez86 s100 hNz86 s101 hSz86
    obtain ⟨dx89, l90, us91, us93, o95, o96, o97, o98, rfl, rfl, h92, h94, hbz86⟩ := hNz86
    obtain ⟨v87, h88, rfl⟩ := hSz86
    have hltz86 : pre_.length < (rng 1 61).length := by rw [hxsz86, List.length_append, List.length_cons]; omega
    have hmemz86 : x99 ∈ (rng 1 61) := by rw [hxsz86]; exact List.mem_append_right _ List.mem_cons_self
    try simp only [rng_length, rng_mem, enumL_length] at hltz86 hmemz86
    show B _ _ _ _ _ _ _ (st_law_1 script_ ends_29 z86 x99)
    unfold st_law_1
    cases h88
    obtain ⟨hS, hL⟩ := hbz86
    have hq60 : pre_.length ≤ 59 := by have q := hltz86; simp at q; omega
    have hL2 : z86.2.1.length ≤ 767 := by omega
    refine b_ifl (t_w (w_or (t_cmp op_lt (nomark _) (d_var 6 (P := rI x99) rfl rfl) (d_lenL (r := rI) m_len (D.imp (P := (rL K rI) script_) (d_var 0 (P := (rL K rI) script_) rfl (Mono.mono (s1.trans (s4.trans (s7.trans (s9.trans (s18.trans (s20.trans (s31.trans (s34.trans (s37.trans (s41.trans (s54.trans (s57.trans (s60.trans (s64.trans (s80.trans (s83.trans (s100.trans s101))))))))))))))))) h0_)) fun _ _ => rdL_of)) fun _ _ _ _ _ _ hx hy _ q => c_lt hx hy q) fun hk105 => (w_or1 (t_cmp op_lt (nomark _) (d_var 6 (P := rI x99) rfl rfl) d_int fun _ _ _ _ _ _ hx hy _ q => c_lt hx hy q)))) ?_ ?_
    · intro hc103 Gs104 s104
      have dhc103 := hc103
      try simp only [decide_eq_true_eq, decide_eq_false_iff_not, Bool.and_eq_true, Bool.and_eq_false_imp, Bool.or_eq_true, Bool.or_eq_false_iff, Bool.not_eq_true', Bool.not_eq_false', Bool.not_not, ne_eq, Int.not_lt, Int.not_le] at dhc103
      refine letV_intro (fun r113 er113 => ?_)
      have lr113 : r113.length = 2 := by rw [er113]; exact source_len
      refine b_setC 7 sc_law.nd ?_
      refine ec_callM F_law_source hr (by decide) ?_
      refine ac_cons ?_
      refine ec_D (P := rI (m_law_cell script_ x99)) (d_callQ (P := rI (m_law_cell script_ x99)) (script_, x99) F_law_cell hr (by decide) (a_cons (P := (rL K rI) script_) (d_var 0 (P := (rL K rI) script_) rfl (Mono.mono (s1.trans (s4.trans (s7.trans (s9.trans (s18.trans (s20.trans (s31.trans (s34.trans (s37.trans (s41.trans (s54.trans (s57.trans (s60.trans (s64.trans (s80.trans (s83.trans (s100.trans (s101.trans s104)))))))))))))))))) h0_)) (a_cons (P := rI x99) (d_var 6 (P := rI x99) rfl rfl) a_nil)) (fun _ _ _ h => by obtain ⟨v0, w0, rfl, h0, v1, w1, rfl, h1, rfl⟩ := h; exact ⟨v0, v1, rfl, h0, h1, (by (try dsimp only); first | assumption | omega | (refine ⟨?_, ?_⟩ <;> omega) | (refine ⟨?_, ?_, ?_⟩ <;> omega) | simp_all)⟩) fun _ _ h => h) (fun v107 Gs106 s106 h108 => ?_)
      refine ac_cons ?_
      refine ec_D (P := rI x99) (d_var 6 (P := rI x99) rfl rfl) (fun v110 Gs109 s109 h111 => ?_)
      refine ac_nil' (fun Gs112 s112 => ?_)
      refine ⟨((m_law_cell script_ x99), x99), [], (l78, HO.lst us93) :: (l61, HO.ins (clA mg "Sender") dx69 (nf_Sender.zip [.str (SX.S r63.2.1), .str (SX.S r63.2.2.1), .int r63.2.2.2.1, .int r63.2.2.2.2.1, .ref l70])) :: (dx69, HO.own l61) :: (l70, HO.lst us71) :: (l38, HO.ins (clA mg "Sender") dx89 (nf_Sender.zip [.str (SX.S z86.1.1), .str (SX.S z86.1.2.1), .int z86.1.2.2.1, .int z86.1.2.2.2.1, .ref l90])) :: (dx89, HO.own l38) :: (l90, HO.lst us91) :: (l14, HO.lst us23) :: cs, (List.Perm.refl _), ⟨_, _, rfl, rfl, (Mono.mono (s109.trans s112) h108), (Mono.mono s112 h111)⟩, ?_⟩
      rintro _ Gs114 mc115 s114 ⟨v116, v117, l119, us120, e_, rfl, rfl, h121⟩
      cases e_
      have h122 : Rs rI Gs114 r113 us120 := by rw [er113]; exact h121
      refine ⟨(l119, HO.lst us120) :: (l78, HO.lst us93) :: (l61, HO.ins (clA mg "Sender") dx69 (nf_Sender.zip [.str (SX.S r63.2.1), .str (SX.S r63.2.2.1), .int r63.2.2.2.1, .int r63.2.2.2.2.1, .ref l70])) :: (dx69, HO.own l61) :: (l70, HO.lst us71) :: (l38, HO.ins (clA mg "Sender") dx89 (nf_Sender.zip [.str (SX.S z86.1.1), .str (SX.S z86.1.2.1), .int z86.1.2.2.1, .int z86.1.2.2.2.1, .ref l90])) :: (dx89, HO.own l38) :: (l90, HO.lst us91) :: (l14, HO.lst us23) :: cs, (List.Perm.refl _), ?_⟩
      intro _
      refine letV_intro (fun source_here_123 esource_here_123 => ?_)
      have h124 : Rs rI Gs114 source_here_123 us120 := by rw [esource_here_123]; exact h122
      have lsource_here_123 : source_here_123.length = 2 := by rw [esource_here_123]; assumption
      refine letV_intro (fun r130 er130 => ?_)
      have fr130 := pick_ok (s := source_here_123) (n := 8) (by first | assumption | omega) (by omega)
      rw [← er130] at fr130
      obtain ⟨lr130, ar130, br130⟩ := fr130
      refine b_setC 8 sc_law.nd ?_
      refine ec_callM F_law_pick hr (by decide) ?_
      refine ac_cons ?_
      refine ec_D (P := rV (.ref l119)) (d_var 7 (P := rV (.ref l119)) rfl rfl) (fun v_ Gs125 s125 hv_ => ?_)
      cases hv_
      refine ac_cons ?_
      refine ec_D (P := rI 8) d_int (fun v127 Gs126 s126 h128 => ?_)
      refine ac_nil' (fun Gs129 s129 => ?_)
      refine ⟨(source_here_123, 8), [(l119, HO.lst us120)], (l78, HO.lst us93) :: (l61, HO.ins (clA mg "Sender") dx69 (nf_Sender.zip [.str (SX.S r63.2.1), .str (SX.S r63.2.2.1), .int r63.2.2.2.1, .int r63.2.2.2.2.1, .ref l70])) :: (dx69, HO.own l61) :: (l70, HO.lst us71) :: (l38, HO.ins (clA mg "Sender") dx89 (nf_Sender.zip [.str (SX.S z86.1.1), .str (SX.S z86.1.2.1), .int z86.1.2.2.1, .int z86.1.2.2.2.1, .ref l90])) :: (dx89, HO.own l38) :: (l90, HO.lst us91) :: (l14, HO.lst us23) :: cs, (List.Perm.refl _), ⟨_, _, _, rfl, rfl, (Rs.mono (s125.trans (s126.trans s129)) h124), (Mono.mono s129 h128), (by exact ⟨by first | assumption | omega, by first | omega | (dsimp only; omega), by first | omega | (dsimp only; omega)⟩)⟩, ?_⟩
      rintro v137 Gs131 mc132 s131 ⟨v133, a134, us135, e_, rfl, h136, h138⟩
      cases e_
      have h139 : Rs rI Gs131 r130.2 us135 := by rw [er130]; exact h136
      have h140 : rI r130.1 Gs131 v137 := by rw [er130]; exact h138
      refine ⟨(l119, HO.lst us135) :: (l78, HO.lst us93) :: (l61, HO.ins (clA mg "Sender") dx69 (nf_Sender.zip [.str (SX.S r63.2.1), .str (SX.S r63.2.2.1), .int r63.2.2.2.1, .int r63.2.2.2.2.1, .ref l70])) :: (dx69, HO.own l61) :: (l70, HO.lst us71) :: (l38, HO.ins (clA mg "Sender") dx89 (nf_Sender.zip [.str (SX.S z86.1.1), .str (SX.S z86.1.2.1), .int z86.1.2.2.1, .int z86.1.2.2.2.1, .ref l90])) :: (dx89, HO.own l38) :: (l90, HO.lst us91) :: (l14, HO.lst us23) :: cs, (List.Perm.refl _), ?_⟩
      intro _
      refine letV_intro (fun which_141 ewhich_141 => ?_)
      have h142 : rI which_141 Gs131 v137 := by rw [ewhich_141]; exact h140
      have hq_ : (v137 : V) = .int which_141 := h142
      rw [hq_]
      refine letV_intro (fun t145 et145 => ?_)
      obtain ⟨tt145, St145, Lt145, lt145⟩ := t_disp1 hS (by assumption) (by omega) et145
      refine b_ifxC (fun G_ cs_ => ∃ dx191 : Addr, ∃ l192 : Addr, ∃ us193 : List V, ∃ us195 : List V, ∃ us197 : List V, cs_ = (l119, HO.lst us197) :: (l78, HO.lst us195) :: (l61, HO.ins (clA mg "Sender") dx69 (nf_Sender.zip [.str (SX.S r63.2.1), .str (SX.S r63.2.2.1), .int r63.2.2.2.1, .int r63.2.2.2.2.1, .ref l70])) :: (dx69, HO.own l61) :: (l70, HO.lst us71) :: (l38, HO.ins (clA mg "Sender") dx191 (nf_Sender.zip [.str (SX.S t145.2.1.1), .str (SX.S t145.2.1.2.1), .int t145.2.1.2.2.1, .int t145.2.1.2.2.2.1, .ref l192])) :: (dx191, HO.own l38) :: (l192, HO.lst us193) :: (l14, HO.lst us23) :: cs ∧ Rs rS G_ t145.2.1.2.2.2.2 us193 ∧ Rs rS G_ t145.2.2.1 us195 ∧ Rs rI G_ t145.2.2.2 us197) ?_ ?_ ?_
      · refine tc_k (kb' := fun z_ G_ cs_ => z_ = t145.1 ∧ ∃ dx146 : Addr, ∃ l147 : Addr, ∃ us148 : List V, ∃ us150 : List V, ∃ us152 : List V, cs_ = (l119, HO.lst us152) :: (l78, HO.lst us150) :: (l61, HO.ins (clA mg "Sender") dx69 (nf_Sender.zip [.str (SX.S r63.2.1), .str (SX.S r63.2.2.1), .int r63.2.2.2.1, .int r63.2.2.2.2.1, .ref l70])) :: (dx69, HO.own l61) :: (l70, HO.lst us71) :: (l38, HO.ins (clA mg "Sender") dx146 (nf_Sender.zip [.str (SX.S t145.2.1.1), .str (SX.S t145.2.1.2.1), .int t145.2.1.2.2.1, .int t145.2.1.2.2.2.1, .ref l147])) :: (dx146, HO.own l38) :: (l147, HO.lst us148) :: (l14, HO.lst us23) :: cs ∧ Rs rS G_ t145.2.1.2.2.2.2 us148 ∧ Rs rS G_ t145.2.2.1 us150 ∧ Rs rI G_ t145.2.2.2 us152) ?_ ?_
        · refine tc_w ?_
          refine wc_and ?_
          refine tc_T (t_cmp op_lt (nomark _) (d_var 8 (P := rI which_141) rfl rfl) d_int fun _ _ _ _ _ _ hx hy _ q => c_lt hx hy q) (fun Gs154 s154 => ?_)
          refine ⟨fun hz155 => ?_, fun hz155 => ?_⟩
          · have dhz155 := hz155
            try simp only [decide_eq_true_eq, decide_eq_false_iff_not, Bool.and_eq_true, Bool.and_eq_false_imp, Bool.or_eq_true, Bool.or_eq_false_iff, Bool.not_eq_true', Bool.not_eq_false', Bool.not_not, ne_eq, Int.not_lt, Int.not_le] at dhz155
            obtain ⟨r166, er166⟩ : ∃ z_, z_ = (m_law_dispatched z86.1 ends_29 z86.2.1 r130.2 1) := ⟨_, rfl⟩
            refine wc_and1 ?_
            refine tc_not ?_
            refine tc_E ?_
            refine ec_callM F_law_dispatched hr (by decide) ?_
            refine ac_cons ?_
            refine ec_D (P := rV (.ref l38)) (d_var 2 (P := rV (.ref l38)) rfl rfl) (fun v_ Gs156 s156 hv_ => ?_)
            cases hv_
            refine ac_cons ?_
            refine ec_D (P := (rL K rS) ends_29) (d_var 1 (P := (rL K rS) ends_29) rfl (Mono.mono (s31.trans (s34.trans (s37.trans (s41.trans (s54.trans (s57.trans (s60.trans (s64.trans (s80.trans (s83.trans (s100.trans (s101.trans (s104.trans (s106.trans (s109.trans (s112.trans (s114.trans (s125.trans (s126.trans (s129.trans (s131.trans (s154.trans s156)))))))))))))))))))))) h30)) (fun v158 Gs157 s157 h159 => ?_)
            refine ac_cons ?_
            refine ec_D (P := rV (.ref l78)) (d_var 4 (P := rV (.ref l78)) rfl rfl) (fun v_ Gs160 s160 hv_ => ?_)
            cases hv_
            refine ac_cons ?_
            refine ec_D (P := rV (.ref l119)) (d_var 7 (P := rV (.ref l119)) rfl rfl) (fun v_ Gs161 s161 hv_ => ?_)
            cases hv_
            refine ac_cons ?_
            refine ec_D (P := rI 1) d_int (fun v163 Gs162 s162 h164 => ?_)
            refine ac_nil' (fun Gs165 s165 => ?_)
            refine ⟨(z86.1, ends_29, z86.2.1, r130.2, 1), [(l38, HO.ins (clA mg "Sender") dx89 (nf_Sender.zip [.str (SX.S z86.1.1), .str (SX.S z86.1.2.1), .int z86.1.2.2.1, .int z86.1.2.2.2.1, .ref l90])), (dx89, HO.own l38), (l90, HO.lst us91), (l78, HO.lst us93), (l119, HO.lst us135)], (l61, HO.ins (clA mg "Sender") dx69 (nf_Sender.zip [.str (SX.S r63.2.1), .str (SX.S r63.2.2.1), .int r63.2.2.2.1, .int r63.2.2.2.2.1, .ref l70])) :: (dx69, HO.own l61) :: (l70, HO.lst us71) :: (l14, HO.lst us23) :: cs, (perm_to (k := 5) rfl (perm_to (k := 5) rfl (perm_to (k := 5) rfl (perm_to (k := 1) rfl (List.Perm.refl _))))), ⟨_, _, _, _, _, _, _, _, _, _, rfl, rfl, (Rs.mono (s101.trans (s104.trans (s106.trans (s109.trans (s112.trans (s114.trans (s125.trans (s126.trans (s129.trans (s131.trans (s154.trans (s156.trans (s157.trans (s160.trans (s161.trans (s162.trans s165)))))))))))))))) h92), (Rs.mono (s101.trans (s104.trans (s106.trans (s109.trans (s112.trans (s114.trans (s125.trans (s126.trans (s129.trans (s131.trans (s154.trans (s156.trans (s157.trans (s160.trans (s161.trans (s162.trans s165)))))))))))))))) h94), (Rs.mono (s154.trans (s156.trans (s157.trans (s160.trans (s161.trans (s162.trans s165)))))) h139), (Mono.mono (s160.trans (s161.trans (s162.trans s165))) h159), (Mono.mono s165 h164), (by (try dsimp only); first | exact ⟨⟨_, hS⟩, by assumption, hel, by decide, by omega⟩ | exact ⟨⟨_, St145⟩, by assumption, hel, by assumption, by omega⟩ | exact ⟨⟨0, by rw [er63]; exact snd_new h2 h1⟩, by assumption, rfl, by decide, by decide⟩)⟩, ?_⟩
            rintro v182 Gs167 mc168 s167 ⟨v169, v170, a171, dx172, l173, us174, a176, us177, a179, us180, e_, rfl, h175, h178, h181, h183⟩
            cases e_
            have h184 : Rs rS Gs167 r166.2.1.2.2.2.2 us174 := by rw [er166]; exact h175
            have h185 : Rs rS Gs167 r166.2.2.1 us177 := by rw [er166]; exact h178
            have h186 : Rs rI Gs167 r166.2.2.2 us180 := by rw [er166]; exact h181
            have h187 : rB r166.1 Gs167 v182 := by rw [er166]; exact h183
            refine ⟨(l119, HO.lst us180) :: (l78, HO.lst us177) :: (l61, HO.ins (clA mg "Sender") dx69 (nf_Sender.zip [.str (SX.S r63.2.1), .str (SX.S r63.2.2.1), .int r63.2.2.2.1, .int r63.2.2.2.2.1, .ref l70])) :: (dx69, HO.own l61) :: (l70, HO.lst us71) :: (l38, HO.ins (clA mg "Sender") dx172 (nf_Sender.zip [.str (SX.S r166.2.1.1), .str (SX.S r166.2.1.2.1), .int r166.2.1.2.2.1, .int r166.2.1.2.2.2.1, .ref l173])) :: (dx172, HO.own l38) :: (l173, HO.lst us174) :: (l14, HO.lst us23) :: cs, (by rw [er166]; exact (perm_to (k := 4) rfl (perm_to (k := 3) rfl (perm_to (k := 3) rfl (perm_to (k := 3) rfl (perm_to (k := 3) rfl (List.Perm.refl _))))))), ?_⟩
            refine ⟨_, h187, ?_⟩
            have hq188 : t145 = (!(r166.1), r166.2.1, r166.2.2.1, r166.2.2.2) := by rw [et145]; (try simp only [letV]); subst er166; rw [if_pos hz155]; (try rfl)
            exact ⟨by rw [hq188], dx172, l173, us174, us177, us180, by rw [hq188], (by rw [hq188]; exact h184), (by rw [hq188]; exact h185), (by rw [hq188]; exact h186)⟩
          · have dhz155 := hz155
            have hq189 : t145 = (false, z86.1, z86.2.1, r130.2) := by rw [et145]; (try simp only [letV]); rw [if_neg (by rw [hz155]; exact Bool.false_ne_true)]; (try rfl)
            exact ⟨by rw [hq189], dx89, l90, us91, us93, us135, by rw [hq189], (by rw [hq189]; exact (Rs.mono (s101.trans (s104.trans (s106.trans (s109.trans (s112.trans (s114.trans (s125.trans (s126.trans (s129.trans (s131.trans s154)))))))))) h92)), (by rw [hq189]; exact (Rs.mono (s101.trans (s104.trans (s106.trans (s109.trans (s112.trans (s114.trans (s125.trans (s126.trans (s129.trans (s131.trans s154)))))))))) h94)), (by rw [hq189]; exact (Rs.mono s154 h139))⟩
        rintro _ Gs190 _ s190 ⟨rfl, dx146, l147, us148, us150, us152, rfl, h149, h151, h153⟩
        refine ⟨_, List.Perm.refl _, ?_⟩
        exact ⟨rfl, dx146, l147, us148, us150, us152, rfl, h149, h151, h153⟩
      · rintro hc143 Gs144 _ s144 ⟨dx191, l192, us193, us195, us197, rfl, h194, h196, h198⟩
        have dhc143 := hc143
        try simp only [decide_eq_true_eq, decide_eq_false_iff_not, Bool.and_eq_true, Bool.and_eq_false_imp, Bool.or_eq_true, Bool.or_eq_false_iff, Bool.not_eq_true', Bool.not_eq_false', Bool.not_not, ne_eq, Int.not_lt, Int.not_le] at dhc143
        exact b_ret (P := rB false) d_bl (fun _ _ _ h => ⟨⟨[(l119, HO.lst us197), (l78, HO.lst us195), (l61, HO.ins (clA mg "Sender") dx69 (nf_Sender.zip [.str (SX.S r63.2.1), .str (SX.S r63.2.2.1), .int r63.2.2.2.1, .int r63.2.2.2.2.1, .ref l70])), (dx69, HO.own l61), (l70, HO.lst us71), (l38, HO.ins (clA mg "Sender") dx191 (nf_Sender.zip [.str (SX.S t145.2.1.1), .str (SX.S t145.2.1.2.1), .int t145.2.1.2.2.1, .int t145.2.1.2.2.2.1, .ref l192])), (dx191, HO.own l38), (l192, HO.lst us193), (l14, HO.lst us23)], rfl⟩, h⟩)
      · rintro hc143 Gs144 _ s144 ⟨dx191, l192, us193, us195, us197, rfl, h194, h196, h198⟩
        have dhc143 := hc143
        try simp only [decide_eq_true_eq, decide_eq_false_iff_not, Bool.and_eq_true, Bool.and_eq_false_imp, Bool.or_eq_true, Bool.or_eq_false_iff, Bool.not_eq_true', Bool.not_eq_false', Bool.not_not, ne_eq, Int.not_lt, Int.not_le] at dhc143
        refine letV_intro (fun t201 et201 => ?_)
        obtain ⟨tt201, St201, Lt201, lt201⟩ := t_disp2 St145 (by assumption) (by omega) et201
        refine b_ifxC (fun G_ cs_ => ∃ dx260 : Addr, ∃ l261 : Addr, ∃ us262 : List V, ∃ us264 : List V, ∃ us266 : List V, cs_ = (l119, HO.lst us266) :: (l78, HO.lst us264) :: (l61, HO.ins (clA mg "Sender") dx69 (nf_Sender.zip [.str (SX.S r63.2.1), .str (SX.S r63.2.2.1), .int r63.2.2.2.1, .int r63.2.2.2.2.1, .ref l70])) :: (dx69, HO.own l61) :: (l70, HO.lst us71) :: (l38, HO.ins (clA mg "Sender") dx260 (nf_Sender.zip [.str (SX.S t201.2.1.1), .str (SX.S t201.2.1.2.1), .int t201.2.1.2.2.1, .int t201.2.1.2.2.2.1, .ref l261])) :: (dx260, HO.own l38) :: (l261, HO.lst us262) :: (l14, HO.lst us23) :: cs ∧ Rs rS G_ t201.2.1.2.2.2.2 us262 ∧ Rs rS G_ t201.2.2.1 us264 ∧ Rs rI G_ t201.2.2.2 us266) ?_ ?_ ?_
        · refine tc_k (kb' := fun z_ G_ cs_ => z_ = t201.1 ∧ ∃ dx202 : Addr, ∃ l203 : Addr, ∃ us204 : List V, ∃ us206 : List V, ∃ us208 : List V, cs_ = (l119, HO.lst us208) :: (l78, HO.lst us206) :: (l61, HO.ins (clA mg "Sender") dx69 (nf_Sender.zip [.str (SX.S r63.2.1), .str (SX.S r63.2.2.1), .int r63.2.2.2.1, .int r63.2.2.2.2.1, .ref l70])) :: (dx69, HO.own l61) :: (l70, HO.lst us71) :: (l38, HO.ins (clA mg "Sender") dx202 (nf_Sender.zip [.str (SX.S t201.2.1.1), .str (SX.S t201.2.1.2.1), .int t201.2.1.2.2.1, .int t201.2.1.2.2.2.1, .ref l203])) :: (dx202, HO.own l38) :: (l203, HO.lst us204) :: (l14, HO.lst us23) :: cs ∧ Rs rS G_ t201.2.1.2.2.2.2 us204 ∧ Rs rS G_ t201.2.2.1 us206 ∧ Rs rI G_ t201.2.2.2 us208) ?_ ?_
          · refine tc_w ?_
            refine wc_and ?_
            refine tc_T (t_cmp op_eq (nomark _) (d_var 8 (P := rI which_141) rfl rfl) d_int fun _ _ _ _ _ _ hx hy _ q => c_eqI hx hy q) (fun Gs210 s210 => ?_)
            refine ⟨fun hz211 => ?_, fun hz211 => ?_⟩
            · have dhz211 := hz211
              try simp only [decide_eq_true_eq, decide_eq_false_iff_not, Bool.and_eq_true, Bool.and_eq_false_imp, Bool.or_eq_true, Bool.or_eq_false_iff, Bool.not_eq_true', Bool.not_eq_false', Bool.not_not, ne_eq, Int.not_lt, Int.not_le] at dhz211
              obtain ⟨r223, er223⟩ : ∃ z_, z_ = (m_law_pick t145.2.2.2 13) := ⟨_, rfl⟩
              have fr223 := pick_ok (s := t145.2.2.2) (n := 13) (by first | assumption | omega) (by omega)
              rw [← er223] at fr223
              obtain ⟨lr223, ar223, br223⟩ := fr223
              obtain ⟨r235, er235⟩ : ∃ z_, z_ = (m_law_dispatched t145.2.1 ends_29 t145.2.2.1 r223.2 r223.1) := ⟨_, rfl⟩
              refine wc_and1 ?_
              refine tc_not ?_
              refine tc_E ?_
              refine ec_callM F_law_dispatched hr (by decide) ?_
              refine ac_cons ?_
              refine ec_D (P := rV (.ref l38)) (d_var 2 (P := rV (.ref l38)) rfl rfl) (fun v_ Gs212 s212 hv_ => ?_)
              cases hv_
              refine ac_cons ?_
              refine ec_D (P := (rL K rS) ends_29) (d_var 1 (P := (rL K rS) ends_29) rfl (Mono.mono (s31.trans (s34.trans (s37.trans (s41.trans (s54.trans (s57.trans (s60.trans (s64.trans (s80.trans (s83.trans (s100.trans (s101.trans (s104.trans (s106.trans (s109.trans (s112.trans (s114.trans (s125.trans (s126.trans (s129.trans (s131.trans (s144.trans (s210.trans s212))))))))))))))))))))))) h30)) (fun v214 Gs213 s213 h215 => ?_)
              refine ac_cons ?_
              refine ec_D (P := rV (.ref l78)) (d_var 4 (P := rV (.ref l78)) rfl rfl) (fun v_ Gs216 s216 hv_ => ?_)
              cases hv_
              refine ac_cons ?_
              refine ec_D (P := rV (.ref l119)) (d_var 7 (P := rV (.ref l119)) rfl rfl) (fun v_ Gs217 s217 hv_ => ?_)
              cases hv_
              refine ac_cons ?_
              refine ec_callM F_law_pick hr (by decide) ?_
              refine ac_cons ?_
              refine ec_D (P := rV (.ref l119)) (d_var 7 (P := rV (.ref l119)) rfl rfl) (fun v_ Gs218 s218 hv_ => ?_)
              cases hv_
              refine ac_cons ?_
              refine ec_D (P := rI 13) d_int (fun v220 Gs219 s219 h221 => ?_)
              refine ac_nil' (fun Gs222 s222 => ?_)
              refine ⟨(t145.2.2.2, 13), [(l119, HO.lst us197)], (l78, HO.lst us195) :: (l61, HO.ins (clA mg "Sender") dx69 (nf_Sender.zip [.str (SX.S r63.2.1), .str (SX.S r63.2.2.1), .int r63.2.2.2.1, .int r63.2.2.2.2.1, .ref l70])) :: (dx69, HO.own l61) :: (l70, HO.lst us71) :: (l38, HO.ins (clA mg "Sender") dx191 (nf_Sender.zip [.str (SX.S t145.2.1.1), .str (SX.S t145.2.1.2.1), .int t145.2.1.2.2.1, .int t145.2.1.2.2.2.1, .ref l192])) :: (dx191, HO.own l38) :: (l192, HO.lst us193) :: (l14, HO.lst us23) :: cs, (List.Perm.refl _), ⟨_, _, _, rfl, rfl, (Rs.mono (s210.trans (s212.trans (s213.trans (s216.trans (s217.trans (s218.trans (s219.trans s222))))))) h198), (Mono.mono s222 h221), (by exact ⟨by first | assumption | omega, by first | omega | (dsimp only; omega), by first | omega | (dsimp only; omega)⟩)⟩, ?_⟩
              rintro v230 Gs224 mc225 s224 ⟨v226, a227, us228, e_, rfl, h229, h231⟩
              cases e_
              have h232 : Rs rI Gs224 r223.2 us228 := by rw [er223]; exact h229
              have h233 : rI r223.1 Gs224 v230 := by rw [er223]; exact h231
              refine ⟨(l119, HO.lst us228) :: (l78, HO.lst us195) :: (l61, HO.ins (clA mg "Sender") dx69 (nf_Sender.zip [.str (SX.S r63.2.1), .str (SX.S r63.2.2.1), .int r63.2.2.2.1, .int r63.2.2.2.2.1, .ref l70])) :: (dx69, HO.own l61) :: (l70, HO.lst us71) :: (l38, HO.ins (clA mg "Sender") dx191 (nf_Sender.zip [.str (SX.S t145.2.1.1), .str (SX.S t145.2.1.2.1), .int t145.2.1.2.2.1, .int t145.2.1.2.2.2.1, .ref l192])) :: (dx191, HO.own l38) :: (l192, HO.lst us193) :: (l14, HO.lst us23) :: cs, (List.Perm.refl _), ?_⟩
              refine ac_nil' (fun Gs234 s234 => ?_)
              refine ⟨(t145.2.1, ends_29, t145.2.2.1, r223.2, r223.1), [(l38, HO.ins (clA mg "Sender") dx191 (nf_Sender.zip [.str (SX.S t145.2.1.1), .str (SX.S t145.2.1.2.1), .int t145.2.1.2.2.1, .int t145.2.1.2.2.2.1, .ref l192])), (dx191, HO.own l38), (l192, HO.lst us193), (l78, HO.lst us195), (l119, HO.lst us228)], (l61, HO.ins (clA mg "Sender") dx69 (nf_Sender.zip [.str (SX.S r63.2.1), .str (SX.S r63.2.2.1), .int r63.2.2.2.1, .int r63.2.2.2.2.1, .ref l70])) :: (dx69, HO.own l61) :: (l70, HO.lst us71) :: (l14, HO.lst us23) :: cs, (perm_to (k := 5) rfl (perm_to (k := 5) rfl (perm_to (k := 5) rfl (perm_to (k := 1) rfl (List.Perm.refl _))))), ⟨_, _, _, _, _, _, _, _, _, _, rfl, rfl, (Rs.mono (s210.trans (s212.trans (s213.trans (s216.trans (s217.trans (s218.trans (s219.trans (s222.trans (s224.trans s234))))))))) h194), (Rs.mono (s210.trans (s212.trans (s213.trans (s216.trans (s217.trans (s218.trans (s219.trans (s222.trans (s224.trans s234))))))))) h196), (Rs.mono s234 h232), (Mono.mono (s216.trans (s217.trans (s218.trans (s219.trans (s222.trans (s224.trans s234)))))) h215), (Mono.mono s234 h233), (by (try dsimp only); first | exact ⟨⟨_, hS⟩, by assumption, hel, by decide, by omega⟩ | exact ⟨⟨_, St145⟩, by assumption, hel, by assumption, by omega⟩ | exact ⟨⟨0, by rw [er63]; exact snd_new h2 h1⟩, by assumption, rfl, by decide, by decide⟩)⟩, ?_⟩
              rintro v251 Gs236 mc237 s236 ⟨v238, v239, a240, dx241, l242, us243, a245, us246, a248, us249, e_, rfl, h244, h247, h250, h252⟩
              cases e_
              have h253 : Rs rS Gs236 r235.2.1.2.2.2.2 us243 := by rw [er235]; exact h244
              have h254 : Rs rS Gs236 r235.2.2.1 us246 := by rw [er235]; exact h247
              have h255 : Rs rI Gs236 r235.2.2.2 us249 := by rw [er235]; exact h250
              have h256 : rB r235.1 Gs236 v251 := by rw [er235]; exact h252
              refine ⟨(l119, HO.lst us249) :: (l78, HO.lst us246) :: (l61, HO.ins (clA mg "Sender") dx69 (nf_Sender.zip [.str (SX.S r63.2.1), .str (SX.S r63.2.2.1), .int r63.2.2.2.1, .int r63.2.2.2.2.1, .ref l70])) :: (dx69, HO.own l61) :: (l70, HO.lst us71) :: (l38, HO.ins (clA mg "Sender") dx241 (nf_Sender.zip [.str (SX.S r235.2.1.1), .str (SX.S r235.2.1.2.1), .int r235.2.1.2.2.1, .int r235.2.1.2.2.2.1, .ref l242])) :: (dx241, HO.own l38) :: (l242, HO.lst us243) :: (l14, HO.lst us23) :: cs, (by rw [er235]; exact (perm_to (k := 4) rfl (perm_to (k := 3) rfl (perm_to (k := 3) rfl (perm_to (k := 3) rfl (perm_to (k := 3) rfl (List.Perm.refl _))))))), ?_⟩
              refine ⟨_, h256, ?_⟩
              have hq257 : t201 = (!(r235.1), r235.2.1, r235.2.2.1, r235.2.2.2) := by rw [et201]; (try simp only [letV]); subst er223; subst er235; rw [if_pos hz211]; (try rfl)
              exact ⟨by rw [hq257], dx241, l242, us243, us246, us249, by rw [hq257], (by rw [hq257]; exact h253), (by rw [hq257]; exact h254), (by rw [hq257]; exact h255)⟩
            · have dhz211 := hz211
              have hq258 : t201 = (false, t145.2.1, t145.2.2.1, t145.2.2.2) := by rw [et201]; (try simp only [letV]); rw [if_neg (by rw [hz211]; exact Bool.false_ne_true)]; (try rfl)
              exact ⟨by rw [hq258], dx191, l192, us193, us195, us197, by rw [hq258], (by rw [hq258]; exact (Rs.mono s210 h194)), (by rw [hq258]; exact (Rs.mono s210 h196)), (by rw [hq258]; exact (Rs.mono s210 h198))⟩
          rintro _ Gs259 _ s259 ⟨rfl, dx202, l203, us204, us206, us208, rfl, h205, h207, h209⟩
          refine ⟨_, List.Perm.refl _, ?_⟩
          exact ⟨rfl, dx202, l203, us204, us206, us208, rfl, h205, h207, h209⟩
        · rintro hc199 Gs200 _ s200 ⟨dx260, l261, us262, us264, us266, rfl, h263, h265, h267⟩
          have dhc199 := hc199
          try simp only [decide_eq_true_eq, decide_eq_false_iff_not, Bool.and_eq_true, Bool.and_eq_false_imp, Bool.or_eq_true, Bool.or_eq_false_iff, Bool.not_eq_true', Bool.not_eq_false', Bool.not_not, ne_eq, Int.not_lt, Int.not_le] at dhc199
          exact b_ret (P := rB false) d_bl (fun _ _ _ h => ⟨⟨[(l119, HO.lst us266), (l78, HO.lst us264), (l61, HO.ins (clA mg "Sender") dx69 (nf_Sender.zip [.str (SX.S r63.2.1), .str (SX.S r63.2.2.1), .int r63.2.2.2.1, .int r63.2.2.2.2.1, .ref l70])), (dx69, HO.own l61), (l70, HO.lst us71), (l38, HO.ins (clA mg "Sender") dx260 (nf_Sender.zip [.str (SX.S t201.2.1.1), .str (SX.S t201.2.1.2.1), .int t201.2.1.2.2.1, .int t201.2.1.2.2.2.1, .ref l261])), (dx260, HO.own l38), (l261, HO.lst us262), (l14, HO.lst us23)], rfl⟩, h⟩)
        · rintro hc199 Gs200 _ s200 ⟨dx260, l261, us262, us264, us266, rfl, h263, h265, h267⟩
          have dhc199 := hc199
          try simp only [decide_eq_true_eq, decide_eq_false_iff_not, Bool.and_eq_true, Bool.and_eq_false_imp, Bool.or_eq_true, Bool.or_eq_false_iff, Bool.not_eq_true', Bool.not_eq_false', Bool.not_not, ne_eq, Int.not_lt, Int.not_le] at dhc199
          refine letV_intro (fun t270 et270 => ?_)
          obtain ⟨tt270, St270, lt270⟩ := t_wrong St201 (by assumption) et270
          refine b_ifxC (fun G_ cs_ => ∃ dx301 : Addr, ∃ l302 : Addr, ∃ us303 : List V, ∃ us305 : List V, cs_ = (l119, HO.lst us305) :: (l78, HO.lst us264) :: (l61, HO.ins (clA mg "Sender") dx69 (nf_Sender.zip [.str (SX.S r63.2.1), .str (SX.S r63.2.2.1), .int r63.2.2.2.1, .int r63.2.2.2.2.1, .ref l70])) :: (dx69, HO.own l61) :: (l70, HO.lst us71) :: (l38, HO.ins (clA mg "Sender") dx301 (nf_Sender.zip [.str (SX.S t270.2.1.1), .str (SX.S t270.2.1.2.1), .int t270.2.1.2.2.1, .int t270.2.1.2.2.2.1, .ref l302])) :: (dx301, HO.own l38) :: (l302, HO.lst us303) :: (l14, HO.lst us23) :: cs ∧ Rs rS G_ t270.2.1.2.2.2.2 us303 ∧ Rs rI G_ t270.2.2 us305) ?_ ?_ ?_
          · refine tc_k (kb' := fun z_ G_ cs_ => z_ = t270.1 ∧ ∃ dx271 : Addr, ∃ l272 : Addr, ∃ us273 : List V, ∃ us275 : List V, cs_ = (l119, HO.lst us275) :: (l78, HO.lst us264) :: (l61, HO.ins (clA mg "Sender") dx69 (nf_Sender.zip [.str (SX.S r63.2.1), .str (SX.S r63.2.2.1), .int r63.2.2.2.1, .int r63.2.2.2.2.1, .ref l70])) :: (dx69, HO.own l61) :: (l70, HO.lst us71) :: (l38, HO.ins (clA mg "Sender") dx271 (nf_Sender.zip [.str (SX.S t270.2.1.1), .str (SX.S t270.2.1.2.1), .int t270.2.1.2.2.1, .int t270.2.1.2.2.2.1, .ref l272])) :: (dx271, HO.own l38) :: (l272, HO.lst us273) :: (l14, HO.lst us23) :: cs ∧ Rs rS G_ t270.2.1.2.2.2.2 us273 ∧ Rs rI G_ t270.2.2 us275) ?_ ?_
            · refine tc_w ?_
              refine wc_and ?_
              refine tc_T (t_cmp op_eq (nomark _) (d_var 8 (P := rI which_141) rfl rfl) d_int fun _ _ _ _ _ _ hx hy _ q => c_eqI hx hy q) (fun Gs277 s277 => ?_)
              refine ⟨fun hz278 => ?_, fun hz278 => ?_⟩
              · have dhz278 := hz278
                try simp only [decide_eq_true_eq, decide_eq_false_iff_not, Bool.and_eq_true, Bool.and_eq_false_imp, Bool.or_eq_true, Bool.or_eq_false_iff, Bool.not_eq_true', Bool.not_eq_false', Bool.not_not, ne_eq, Int.not_lt, Int.not_le] at dhz278
                obtain ⟨r282, er282⟩ : ∃ z_, z_ = (m_law_wrong t201.2.1 t201.2.2.2) := ⟨_, rfl⟩
                have lr282 : r282.2.2.length = 2 := by rw [er282]; exact (wrong_ok (by assumption)).2.2
                refine wc_and1 ?_
                refine tc_not ?_
                refine tc_E ?_
                refine ec_callM F_law_wrong hr (by decide) ?_
                refine ac_cons ?_
                refine ec_D (P := rV (.ref l38)) (d_var 2 (P := rV (.ref l38)) rfl rfl) (fun v_ Gs279 s279 hv_ => ?_)
                cases hv_
                refine ac_cons ?_
                refine ec_D (P := rV (.ref l119)) (d_var 7 (P := rV (.ref l119)) rfl rfl) (fun v_ Gs280 s280 hv_ => ?_)
                cases hv_
                refine ac_nil' (fun Gs281 s281 => ?_)
                refine ⟨(t201.2.1, t201.2.2.2), [(l38, HO.ins (clA mg "Sender") dx260 (nf_Sender.zip [.str (SX.S t201.2.1.1), .str (SX.S t201.2.1.2.1), .int t201.2.1.2.2.1, .int t201.2.1.2.2.2.1, .ref l261])), (dx260, HO.own l38), (l261, HO.lst us262), (l119, HO.lst us266)], (l78, HO.lst us264) :: (l61, HO.ins (clA mg "Sender") dx69 (nf_Sender.zip [.str (SX.S r63.2.1), .str (SX.S r63.2.2.1), .int r63.2.2.2.1, .int r63.2.2.2.2.1, .ref l70])) :: (dx69, HO.own l61) :: (l70, HO.lst us71) :: (l14, HO.lst us23) :: cs, (perm_to (k := 5) rfl (perm_to (k := 5) rfl (perm_to (k := 5) rfl (List.Perm.refl _)))), ⟨_, _, _, _, _, _, rfl, rfl, (Rs.mono (s277.trans (s279.trans (s280.trans s281))) h263), (Rs.mono (s277.trans (s279.trans (s280.trans s281))) h267), (by exact ⟨by assumption, St201.names⟩)⟩, ?_⟩
                rintro v293 Gs283 mc284 s283 ⟨a285, dx286, l287, us288, a290, us291, e_, rfl, h289, h292, h294⟩
                cases e_
                have h295 : Rs rS Gs283 r282.2.1.2.2.2.2 us288 := by rw [er282]; exact h289
                have h296 : Rs rI Gs283 r282.2.2 us291 := by rw [er282]; exact h292
                have h297 : rB r282.1 Gs283 v293 := by rw [er282]; exact h294
                refine ⟨(l119, HO.lst us291) :: (l78, HO.lst us264) :: (l61, HO.ins (clA mg "Sender") dx69 (nf_Sender.zip [.str (SX.S r63.2.1), .str (SX.S r63.2.2.1), .int r63.2.2.2.1, .int r63.2.2.2.2.1, .ref l70])) :: (dx69, HO.own l61) :: (l70, HO.lst us71) :: (l38, HO.ins (clA mg "Sender") dx286 (nf_Sender.zip [.str (SX.S r282.2.1.1), .str (SX.S r282.2.1.2.1), .int r282.2.1.2.2.1, .int r282.2.1.2.2.2.1, .ref l287])) :: (dx286, HO.own l38) :: (l287, HO.lst us288) :: (l14, HO.lst us23) :: cs, (by rw [er282]; exact (perm_to (k := 3) rfl (perm_to (k := 3) rfl (perm_to (k := 3) rfl (perm_to (k := 3) rfl (perm_to (k := 3) rfl (List.Perm.refl _))))))), ?_⟩
                refine ⟨_, h297, ?_⟩
                have hq298 : t270 = (!(r282.1), r282.2.1, r282.2.2) := by rw [et270]; (try simp only [letV]); subst er282; rw [if_pos hz278]; (try rfl)
                exact ⟨by rw [hq298], dx286, l287, us288, us291, by rw [hq298], (by rw [hq298]; exact h295), (by rw [hq298]; exact h296)⟩
              · have dhz278 := hz278
                have hq299 : t270 = (false, t201.2.1, t201.2.2.2) := by rw [et270]; (try simp only [letV]); rw [if_neg (by rw [hz278]; exact Bool.false_ne_true)]; (try rfl)
                exact ⟨by rw [hq299], dx260, l261, us262, us266, by rw [hq299], (by rw [hq299]; exact (Rs.mono s277 h263)), (by rw [hq299]; exact (Rs.mono s277 h267))⟩
            rintro _ Gs300 _ s300 ⟨rfl, dx271, l272, us273, us275, rfl, h274, h276⟩
            refine ⟨_, List.Perm.refl _, ?_⟩
            exact ⟨rfl, dx271, l272, us273, us275, rfl, h274, h276⟩
          · rintro hc268 Gs269 _ s269 ⟨dx301, l302, us303, us305, rfl, h304, h306⟩
            have dhc268 := hc268
            try simp only [decide_eq_true_eq, decide_eq_false_iff_not, Bool.and_eq_true, Bool.and_eq_false_imp, Bool.or_eq_true, Bool.or_eq_false_iff, Bool.not_eq_true', Bool.not_eq_false', Bool.not_not, ne_eq, Int.not_lt, Int.not_le] at dhc268
            exact b_ret (P := rB false) d_bl (fun _ _ _ h => ⟨⟨[(l119, HO.lst us305), (l78, HO.lst us264), (l61, HO.ins (clA mg "Sender") dx69 (nf_Sender.zip [.str (SX.S r63.2.1), .str (SX.S r63.2.2.1), .int r63.2.2.2.1, .int r63.2.2.2.2.1, .ref l70])), (dx69, HO.own l61), (l70, HO.lst us71), (l38, HO.ins (clA mg "Sender") dx301 (nf_Sender.zip [.str (SX.S t270.2.1.1), .str (SX.S t270.2.1.2.1), .int t270.2.1.2.2.1, .int t270.2.1.2.2.2.1, .ref l302])), (dx301, HO.own l38), (l302, HO.lst us303), (l14, HO.lst us23)], rfl⟩, h⟩)
          · rintro hc268 Gs269 _ s269 ⟨dx301, l302, us303, us305, rfl, h304, h306⟩
            have dhc268 := hc268
            try simp only [decide_eq_true_eq, decide_eq_false_iff_not, Bool.and_eq_true, Bool.and_eq_false_imp, Bool.or_eq_true, Bool.or_eq_false_iff, Bool.not_eq_true', Bool.not_eq_false', Bool.not_not, ne_eq, Int.not_lt, Int.not_le] at dhc268
            refine b_if (S' := (Int × Mo_Sender × (List Int))) (fun (z310 : (Int × Mo_Sender × (List Int))) σ_ G_ cs_ => ∃ dx311 : Addr, ∃ l312 : Addr, ∃ us313 : List V, ∃ us315 : List V, ∃ o317 : Option V, σ_ = [some v0_, some v25, some (.ref l38), some (.ref l61), some (.ref l78), some (.int z310.1), some (.int x99), some (.ref l119), some (.int which_141), o317] ∧ (l119, HO.lst us315) :: (l78, HO.lst us264) :: (l61, HO.ins (clA mg "Sender") dx69 (nf_Sender.zip [.str (SX.S r63.2.1), .str (SX.S r63.2.2.1), .int r63.2.2.2.1, .int r63.2.2.2.2.1, .ref l70])) :: (dx69, HO.own l61) :: (l70, HO.lst us71) :: (l38, HO.ins (clA mg "Sender") dx311 (nf_Sender.zip [.str (SX.S z310.2.1.1), .str (SX.S z310.2.1.2.1), .int z310.2.1.2.2.1, .int z310.2.1.2.2.2.1, .ref l312])) :: (dx311, HO.own l38) :: (l312, HO.lst us313) :: (l14, HO.lst us23) :: cs = cs_ ∧ Rs rS G_ z310.2.1.2.2.2.2 us313 ∧ Rs rI G_ z310.2.2 us315 ∧ (z310.2.2.length = 2)) (t_w (w_or (t_cmp op_eq (nomark _) (d_var 8 (P := rI which_141) rfl rfl) d_int fun _ _ _ _ _ _ hx hy _ q => c_eqI hx hy q) fun hk309 => (w_or1 (t_cmp op_eq (nomark _) (d_var 8 (P := rI which_141) rfl rfl) d_int fun _ _ _ _ _ _ hx hy _ q => c_eqI hx hy q)))) ?_ ?_ ?_
            · intro hc307 Gs308 s308
              have dhc307 := hc307
              try simp only [decide_eq_true_eq, decide_eq_false_iff_not, Bool.and_eq_true, Bool.and_eq_false_imp, Bool.or_eq_true, Bool.or_eq_false_iff, Bool.not_eq_true', Bool.not_eq_false', Bool.not_not, ne_eq, Int.not_lt, Int.not_le] at dhc307
              refine letV_intro (fun r325 er325 => ?_)
              have lr325 : r325.2.2.length = 2 := by rw [er325]; exact (acked_ok St270 (by assumption)).2
              refine b_setC 5 sc_law.nd ?_
              refine ec_callM F_law_acknowledged hr (by decide) ?_
              refine ac_cons ?_
              refine ec_D (P := rV (.ref l38)) (d_var 2 (P := rV (.ref l38)) rfl rfl) (fun v_ Gs318 s318 hv_ => ?_)
              cases hv_
              refine ac_cons ?_
              refine ec_D (P := rV (.ref l78)) (d_var 4 (P := rV (.ref l78)) rfl rfl) (fun v_ Gs319 s319 hv_ => ?_)
              cases hv_
              refine ac_cons ?_
              refine ec_D (P := rI z86.2.2) (d_var 5 (P := rI z86.2.2) rfl rfl) (fun v321 Gs320 s320 h322 => ?_)
              refine ac_cons ?_
              refine ec_D (P := rV (.ref l119)) (d_var 7 (P := rV (.ref l119)) rfl rfl) (fun v_ Gs323 s323 hv_ => ?_)
              cases hv_
              refine ac_nil' (fun Gs324 s324 => ?_)
              refine ⟨((t270.2.1, t201.2.2.1, z86.2.2, t270.2.2), [(l78, HO.lst us264)]), [(l38, HO.ins (clA mg "Sender") dx301 (nf_Sender.zip [.str (SX.S t270.2.1.1), .str (SX.S t270.2.1.2.1), .int t270.2.1.2.2.1, .int t270.2.1.2.2.2.1, .ref l302])), (dx301, HO.own l38), (l302, HO.lst us303), (l119, HO.lst us305), (l78, HO.lst us264)], (l61, HO.ins (clA mg "Sender") dx69 (nf_Sender.zip [.str (SX.S r63.2.1), .str (SX.S r63.2.2.1), .int r63.2.2.2.1, .int r63.2.2.2.2.1, .ref l70])) :: (dx69, HO.own l61) :: (l70, HO.lst us71) :: (l14, HO.lst us23) :: cs, (perm_to (k := 5) rfl (perm_to (k := 5) rfl (perm_to (k := 5) rfl (List.Perm.refl _)))), ⟨_, _, _, _, _, _, _, _, _, rfl, rfl, rfl, (Rs.mono (s308.trans (s318.trans (s319.trans (s320.trans (s323.trans s324))))) h304), (Rs.mono (s308.trans (s318.trans (s319.trans (s320.trans (s323.trans s324))))) h306), (Rs.mono (s269.trans (s308.trans (s318.trans (s319.trans (s320.trans (s323.trans s324)))))) h265), (Mono.mono (s323.trans s324) h322), (by exact ⟨St270.2.2.2.1, St270.2.2.2.2.1, St270.2.2.2.2.2.1, by assumption⟩)⟩, ?_⟩
              rintro v338 Gs326 mc327 s326 ⟨v328, a329, dx330, l331, us332, a334, us335, a337, e_, rfl, h333, h336, h339⟩
              cases e_
              have h340 : Rs rS Gs326 r325.2.1.2.2.2.2 us332 := by rw [er325]; exact h333
              have h341 : Rs rI Gs326 r325.2.2 us335 := by rw [er325]; exact h336
              have h342 : rI r325.1 Gs326 v338 := by rw [er325]; exact h339
              refine ⟨(l119, HO.lst us335) :: (l78, HO.lst us264) :: (l61, HO.ins (clA mg "Sender") dx69 (nf_Sender.zip [.str (SX.S r63.2.1), .str (SX.S r63.2.2.1), .int r63.2.2.2.1, .int r63.2.2.2.2.1, .ref l70])) :: (dx69, HO.own l61) :: (l70, HO.lst us71) :: (l38, HO.ins (clA mg "Sender") dx330 (nf_Sender.zip [.str (SX.S r325.2.1.1), .str (SX.S r325.2.1.2.1), .int r325.2.1.2.2.1, .int r325.2.1.2.2.2.1, .ref l331])) :: (dx330, HO.own l38) :: (l331, HO.lst us332) :: (l14, HO.lst us23) :: cs, (by rw [er325]; exact (perm_to (k := 3) rfl (perm_to (k := 3) rfl (perm_to (k := 3) rfl (perm_to (k := 3) rfl (perm_to (k := 3) rfl (List.Perm.refl _))))))), ?_⟩
              intro _
              refine letV_intro (fun dropped_343 edropped_343 => ?_)
              have h344 : rI dropped_343 Gs326 v338 := by rw [edropped_343]; exact h342
              have hq_ : (v338 : V) = .int dropped_343 := h344
              rw [hq_]
              refine b_ifx (t_cmp op_lt (nomark _) (d_var 5 (P := rI dropped_343) rfl rfl) d_int fun _ _ _ _ _ _ hx hy _ q => c_lt hx hy q) ?_ ?_
              · intro hc345 Gs346 s346
                have dhc345 := hc345
                try simp only [decide_eq_true_eq, decide_eq_false_iff_not, Bool.and_eq_true, Bool.and_eq_false_imp, Bool.or_eq_true, Bool.or_eq_false_iff, Bool.not_eq_true', Bool.not_eq_false', Bool.not_not, ne_eq, Int.not_lt, Int.not_le] at dhc345
                exact b_ret (P := rB false) d_bl (fun _ _ _ h => ⟨⟨[(l119, HO.lst us335), (l78, HO.lst us264), (l61, HO.ins (clA mg "Sender") dx69 (nf_Sender.zip [.str (SX.S r63.2.1), .str (SX.S r63.2.2.1), .int r63.2.2.2.1, .int r63.2.2.2.2.1, .ref l70])), (dx69, HO.own l61), (l70, HO.lst us71), (l38, HO.ins (clA mg "Sender") dx330 (nf_Sender.zip [.str (SX.S r325.2.1.1), .str (SX.S r325.2.1.2.1), .int r325.2.1.2.2.1, .int r325.2.1.2.2.2.1, .ref l331])), (dx330, HO.own l38), (l331, HO.lst us332), (l14, HO.lst us23)], rfl⟩, h⟩)
              · intro hc345 Gs346 s346
                have dhc345 := hc345
                try simp only [decide_eq_true_eq, decide_eq_false_iff_not, Bool.and_eq_true, Bool.and_eq_false_imp, Bool.or_eq_true, Bool.or_eq_false_iff, Bool.not_eq_true', Bool.not_eq_false', Bool.not_not, ne_eq, Int.not_lt, Int.not_le] at dhc345
                exact b_nil (by refine ⟨_, _, _, _, _, rfl, rfl, (Rs.mono s346 h340), (Rs.mono s346 h341), (by first | assumption | omega | (simp only [List.length_cons, List.length_nil] at *; omega))⟩)
            · intro hc307 Gs308 s308
              have dhc307 := hc307
              try simp only [decide_eq_true_eq, decide_eq_false_iff_not, Bool.and_eq_true, Bool.and_eq_false_imp, Bool.or_eq_true, Bool.or_eq_false_iff, Bool.not_eq_true', Bool.not_eq_false', Bool.not_not, ne_eq, Int.not_lt, Int.not_le] at dhc307
              exact b_nil (by refine ⟨_, _, _, _, _, rfl, rfl, (Rs.mono s308 h304), (Rs.mono s308 h306), (by first | assumption | omega | (simp only [List.length_cons, List.length_nil] at *; omega))⟩)
            · intro z310 _ _ _ sz310 hNz310 hmz310
              obtain ⟨dx311, l312, us313, us315, o317, rfl, rfl, h314, h316, hiz310_2⟩ := hNz310
              have hjz310 : Snd z310.2.1 (ixg ends_29 0) (ixg ends_29 1) t201.2.2.1 z310.1 := by unfold letV at hmz310; dsimp only at hmz310; (split at hmz310 <;> first | (cases hmz310; exact St270) | (split at hmz310 <;> first | (cases hmz310; done) | (cases hmz310; exact (acked_ok St270 (by assumption)).1)))
              have hzs347 := h316
              refine b_freeze 0 rfl (fun s347 h348 => ?_)
              have kh348 : (rL K rI) z310.2.2 _ (.ref l119) := ⟨_, _, rfl, SqL.of h348, Rs.mono s347 hzs347⟩
              refine b_if (S' := Unit) (fun (z351 : Unit) σ_ G_ cs_ => ∃ o352 : Option V, σ_ = [some v0_, some v25, some (.ref l38), some (.ref l61), some (.ref l78), some (.int z310.1), some (.int x99), some (.ref l119), some (.int which_141), o352] ∧ (l78, HO.lst us264) :: (l61, HO.ins (clA mg "Sender") dx69 (nf_Sender.zip [.str (SX.S r63.2.1), .str (SX.S r63.2.2.1), .int r63.2.2.2.1, .int r63.2.2.2.2.1, .ref l70])) :: (dx69, HO.own l61) :: (l70, HO.lst us71) :: (l38, HO.ins (clA mg "Sender") dx311 (nf_Sender.zip [.str (SX.S z310.2.1.1), .str (SX.S z310.2.1.2.1), .int z310.2.1.2.2.1, .int z310.2.1.2.2.2.1, .ref l312])) :: (dx311, HO.own l38) :: (l312, HO.lst us313) :: (l14, HO.lst us23) :: cs = cs_) (t_cmp op_eq (nomark _) (d_var 8 (P := rI which_141) rfl rfl) d_int fun _ _ _ _ _ _ hx hy _ q => c_eqI hx hy q) ?_ ?_ ?_
              · intro hc349 Gs350 s350
                have dhc349 := hc349
                try simp only [decide_eq_true_eq, decide_eq_false_iff_not, Bool.and_eq_true, Bool.and_eq_false_imp, Bool.or_eq_true, Bool.or_eq_false_iff, Bool.not_eq_true', Bool.not_eq_false', Bool.not_not, ne_eq, Int.not_lt, Int.not_le] at dhc349
                refine letV_intro (fun r354 er354 => ?_)
                try have wr354 : r354.length ≤ 2000 := by rw [er354]; exact (Snd.names (by assumption)).2.2
                refine b_appE ?_
                refine ec_methM0 F_Sender_waiting K_Sender.cl hr (by decide) (d_var 2 (P := rV (.ref l38)) rfl rfl) (List.mem_cons_of_mem _ (List.mem_cons_of_mem _ (List.mem_cons_of_mem _ (List.mem_cons_of_mem _ List.mem_cons_self)))) (lookup_zip_no (by decide +kernel)) ?_
                intro Gs353 s353
                refine ⟨((z310.2.1), [(l38, HO.ins (clA mg "Sender") dx311 (nf_Sender.zip [.str (SX.S z310.2.1.1), .str (SX.S z310.2.1.2.1), .int z310.2.1.2.2.1, .int z310.2.1.2.2.2.1, .ref l312])), (dx311, HO.own l38), (l312, HO.lst us313)]), [(l38, HO.ins (clA mg "Sender") dx311 (nf_Sender.zip [.str (SX.S z310.2.1.1), .str (SX.S z310.2.1.2.1), .int z310.2.1.2.2.1, .int z310.2.1.2.2.2.1, .ref l312])), (dx311, HO.own l38), (l312, HO.lst us313)], (l78, HO.lst us264) :: (l61, HO.ins (clA mg "Sender") dx69 (nf_Sender.zip [.str (SX.S r63.2.1), .str (SX.S r63.2.2.1), .int r63.2.2.2.1, .int r63.2.2.2.2.1, .ref l70])) :: (dx69, HO.own l61) :: (l70, HO.lst us71) :: (l14, HO.lst us23) :: cs, (perm_to (k := 4) rfl (perm_to (k := 4) rfl (perm_to (k := 4) rfl (List.Perm.refl _)))), ⟨_, _, _, _, rfl, rfl, rfl, (Rs.mono (s347.trans (s350.trans s353)) h314)⟩, ?_⟩
                rintro _ Gs355 mc356 s355 ⟨a357, l359, us360, e_, rfl, rfl, h361⟩
                cases e_
                have h362 : Rs rS Gs355 r354 us360 := by rw [er354]; exact h361
                refine ⟨(l359, HO.lst us360) :: (l78, HO.lst us264) :: (l61, HO.ins (clA mg "Sender") dx69 (nf_Sender.zip [.str (SX.S r63.2.1), .str (SX.S r63.2.2.1), .int r63.2.2.2.1, .int r63.2.2.2.2.1, .ref l70])) :: (dx69, HO.own l61) :: (l70, HO.lst us71) :: (l38, HO.ins (clA mg "Sender") dx311 (nf_Sender.zip [.str (SX.S z310.2.1.1), .str (SX.S z310.2.1.2.1), .int z310.2.1.2.2.1, .int z310.2.1.2.2.2.1, .ref l312])) :: (dx311, HO.own l38) :: (l312, HO.lst us313) :: (l14, HO.lst us23) :: cs, (perm_to (k := 0) rfl (perm_to (k := 3) rfl (perm_to (k := 3) rfl (perm_to (k := 3) rfl (perm_to (k := 3) rfl (List.Perm.refl _)))))), ?_⟩
                refine ⟨_, _, rfl, List.mem_cons_self, ?_⟩
                refine ec_D (P := rS [109, 111, 114, 101]) (d_str (l := [109, 111, 114, 101]) (by decide +kernel)) (fun v364 Gs363 s363 h365 => ?_)
                refine ⟨0, us360, rfl, (by (have hq := Rs.length h362; omega)), fun _ => ?_⟩
                have h367 := Rs.snoc h365 (Rs.mono s363 h362)
                refine b_freeze 0 rfl (fun s368 _ => ?_)
                exact b_nil (by refine ⟨_, rfl, rfl⟩)
              · intro hc349 Gs350 s350
                have dhc349 := hc349
                try simp only [decide_eq_true_eq, decide_eq_false_iff_not, Bool.and_eq_true, Bool.and_eq_false_imp, Bool.or_eq_true, Bool.or_eq_false_iff, Bool.not_eq_true', Bool.not_eq_false', Bool.not_not, ne_eq, Int.not_lt, Int.not_le] at dhc349
                exact b_nil (by refine ⟨_, rfl, rfl⟩)
              · intro z351 _ _ _ sz351 hNz351 hmz351
                obtain ⟨o352, rfl, rfl⟩ := hNz351
                refine b_ifx (t_not (t_val (d_callR (P := rB (m_law_agrees z310.2.1 t201.2.2.1 z310.1)) (z310.2.1, t201.2.2.1, z310.1) F_law_agrees hr (by decide) (a_cons (P := rV (.ref l38)) (d_var 2 (P := rV (.ref l38)) rfl rfl) (a_cons (P := rV (.ref l78)) (d_var 4 (P := rV (.ref l78)) rfl rfl) (a_cons (P := rI z310.1) (d_var 5 (P := rI z310.1) rfl rfl) a_nil))) (fun _ _ s_ h => by obtain ⟨v0, w0, rfl, h0, v1, w1, rfl, h1, v2, w2, rfl, h2, rfl⟩ := h; cases h0; cases h1; exact ⟨[(l38, HO.ins (clA mg "Sender") dx311 (nf_Sender.zip [.str (SX.S z310.2.1.1), .str (SX.S z310.2.1.2.1), .int z310.2.1.2.2.1, .int z310.2.1.2.2.2.1, .ref l312])), (dx311, HO.own l38), (l312, HO.lst us313), (l78, HO.lst us264)], (l61, HO.ins (clA mg "Sender") dx69 (nf_Sender.zip [.str (SX.S r63.2.1), .str (SX.S r63.2.2.1), .int r63.2.2.2.1, .int r63.2.2.2.2.1, .ref l70])) :: (dx69, HO.own l61) :: (l70, HO.lst us71) :: (l14, HO.lst us23) :: cs, (perm_to (k := 4) rfl (perm_to (k := 4) rfl (perm_to (k := 4) rfl (List.Perm.refl _)))), ⟨_, _, _, _, _, _, _, rfl, rfl, (Rs.mono (s347.trans (sz351.trans s_)) h314), (Rs.mono (s269.trans (sz310.trans (s347.trans (sz351.trans s_)))) h265), h2, (by first | exact Snd.txts hjz310 | (rw [er63]; exact (snd_new h2 h1).txts))⟩⟩) fun _ _ h => h))) ?_ ?_
                · intro hc369 Gs370 s370
                  have dhc369 := hc369
                  try simp only [decide_eq_true_eq, decide_eq_false_iff_not, Bool.and_eq_true, Bool.and_eq_false_imp, Bool.or_eq_true, Bool.or_eq_false_iff, Bool.not_eq_true', Bool.not_eq_false', Bool.not_not, ne_eq, Int.not_lt, Int.not_le] at dhc369
                  exact b_ret (P := rB false) d_bl (fun _ _ _ h => ⟨⟨[(l78, HO.lst us264), (l61, HO.ins (clA mg "Sender") dx69 (nf_Sender.zip [.str (SX.S r63.2.1), .str (SX.S r63.2.2.1), .int r63.2.2.2.1, .int r63.2.2.2.2.1, .ref l70])), (dx69, HO.own l61), (l70, HO.lst us71), (l38, HO.ins (clA mg "Sender") dx311 (nf_Sender.zip [.str (SX.S z310.2.1.1), .str (SX.S z310.2.1.2.1), .int z310.2.1.2.2.1, .int z310.2.1.2.2.2.1, .ref l312])), (dx311, HO.own l38), (l312, HO.lst us313), (l14, HO.lst us23)], rfl⟩, h⟩)
                · intro hc369 Gs370 s370
                  have dhc369 := hc369
                  try simp only [decide_eq_true_eq, decide_eq_false_iff_not, Bool.and_eq_true, Bool.and_eq_false_imp, Bool.or_eq_true, Bool.or_eq_false_iff, Bool.not_eq_true', Bool.not_eq_false', Bool.not_not, ne_eq, Int.not_lt, Int.not_le] at dhc369
                  exact b_nil (by refine ⟨_, _, _, _, _, _, _, _, rfl, rfl, (Rs.mono (s347.trans (sz351.trans s370)) h314), (Rs.mono (s269.trans (sz310.trans (s347.trans (sz351.trans s370)))) h265), by first | exact ⟨hS, by dsimp only; omega⟩ | exact ⟨hjz310, by dsimp only; omega⟩⟩)
    · intro hc103 Gs104 s104
      have dhc103 := hc103
      try simp only [decide_eq_true_eq, decide_eq_false_iff_not, Bool.and_eq_true, Bool.and_eq_false_imp, Bool.or_eq_true, Bool.or_eq_false_iff, Bool.not_eq_true', Bool.not_eq_false', Bool.not_not, ne_eq, Int.not_lt, Int.not_le] at dhc103
      exact b_nil (by refine ⟨_, _, _, _, _, _, _, _, rfl, rfl, (Rs.mono (s101.trans s104) h92), (Rs.mono (s101.trans s104) h94), by first | exact ⟨hS, by dsimp only; omega⟩ | exact ⟨hjz310, by dsimp only; omega⟩⟩)
  · intro n_ z86 _ _ _ hnz86 s372 hNz86 hfz86
    obtain ⟨dx89, l90, us91, us93, o95, o96, o97, o98, rfl, rfl, h92, h94, hbz86⟩ := hNz86
    try simp only [rng_length, enumL_length] at hnz86
    have hzs373 := h94
    refine b_freeze 0 rfl (fun s373 h374 => ?_)
    have kh374 : (rL K rS) z86.2.1 _ (.ref l78) := ⟨_, _, rfl, SqL.of h374, Rs.mono s373 hzs373⟩
    refine letV_intro (fun r382 er382 => ?_)
    have lr382 : r382.length = 2 := by rw [er382]; exact source_len
    refine b_setC 9 sc_law.nd ?_
    refine ec_callM F_law_source hr (by decide) ?_
    refine ac_cons ?_
    refine ec_D (P := rI (m_law_cell script_ 1)) (d_callQ (P := rI (m_law_cell script_ 1)) (script_, 1) F_law_cell hr (by decide) (a_cons (P := (rL K rI) script_) (d_var 0 (P := (rL K rI) script_) rfl (Mono.mono (s1.trans (s4.trans (s7.trans (s9.trans (s18.trans (s20.trans (s31.trans (s34.trans (s37.trans (s41.trans (s54.trans (s57.trans (s60.trans (s64.trans (s80.trans (s83.trans (s372.trans s373))))))))))))))))) h0_)) (a_cons (P := rI 1) d_int a_nil)) (fun _ _ _ h => by obtain ⟨v0, w0, rfl, h0, v1, w1, rfl, h1, rfl⟩ := h; exact ⟨v0, v1, rfl, h0, h1, (by (try dsimp only); first | assumption | omega | (refine ⟨?_, ?_⟩ <;> omega) | (refine ⟨?_, ?_, ?_⟩ <;> omega) | simp_all)⟩) fun _ _ h => h) (fun v376 Gs375 s375 h377 => ?_)
    refine ac_cons ?_
    refine ec_D (P := rI 99) d_int (fun v379 Gs378 s378 h380 => ?_)
    refine ac_nil' (fun Gs381 s381 => ?_)
    refine ⟨((m_law_cell script_ 1), 99), [], (l61, HO.ins (clA mg "Sender") dx69 (nf_Sender.zip [.str (SX.S r63.2.1), .str (SX.S r63.2.2.1), .int r63.2.2.2.1, .int r63.2.2.2.2.1, .ref l70])) :: (dx69, HO.own l61) :: (l70, HO.lst us71) :: (l38, HO.ins (clA mg "Sender") dx89 (nf_Sender.zip [.str (SX.S z86.1.1), .str (SX.S z86.1.2.1), .int z86.1.2.2.1, .int z86.1.2.2.2.1, .ref l90])) :: (dx89, HO.own l38) :: (l90, HO.lst us91) :: (l14, HO.lst us23) :: cs, (List.Perm.refl _), ⟨_, _, rfl, rfl, (Mono.mono (s378.trans s381) h377), (Mono.mono s381 h380)⟩, ?_⟩
    rintro _ Gs383 mc384 s383 ⟨v385, v386, l388, us389, e_, rfl, rfl, h390⟩
    cases e_
    have h391 : Rs rI Gs383 r382 us389 := by rw [er382]; exact h390
    refine ⟨(l388, HO.lst us389) :: (l61, HO.ins (clA mg "Sender") dx69 (nf_Sender.zip [.str (SX.S r63.2.1), .str (SX.S r63.2.2.1), .int r63.2.2.2.1, .int r63.2.2.2.2.1, .ref l70])) :: (dx69, HO.own l61) :: (l70, HO.lst us71) :: (l38, HO.ins (clA mg "Sender") dx89 (nf_Sender.zip [.str (SX.S z86.1.1), .str (SX.S z86.1.2.1), .int z86.1.2.2.1, .int z86.1.2.2.2.1, .ref l90])) :: (dx89, HO.own l38) :: (l90, HO.lst us91) :: (l14, HO.lst us23) :: cs, (List.Perm.refl _), ?_⟩
    intro _
    refine letV_intro (fun last_392 elast_392 => ?_)
    have h393 : Rs rI Gs383 last_392 us389 := by rw [elast_392]; exact h391
    have llast_392 : last_392.length = 2 := by rw [elast_392]; assumption
    refine letV_intro (fun t394 et394 => ?_)
    refine b_retC ?_
    refine ec_kd (k' := fun v_ G_ cs_ => v_ = .bl t394.1 ∧ ∃ loc_ : Cells, ∃ dx447 : Addr, ∃ l448 : Addr, ∃ us449 : List V, ∃ us451 : List V, cs_.Perm (loc_ ++ ((l388, HO.lst us451) :: (l61, HO.ins (clA mg "Sender") dx447 (nf_Sender.zip [.str (SX.S t394.2.1.1), .str (SX.S t394.2.1.2.1), .int t394.2.1.2.2.1, .int t394.2.1.2.2.2.1, .ref l448])) :: (dx447, HO.own l61) :: (l448, HO.lst us449) :: (l38, HO.ins (clA mg "Sender") dx89 (nf_Sender.zip [.str (SX.S z86.1.1), .str (SX.S z86.1.2.1), .int z86.1.2.2.1, .int z86.1.2.2.2.1, .ref l90])) :: (dx89, HO.own l38) :: (l90, HO.lst us91) :: (l14, HO.lst us23) :: cs)) ∧ Rs rS G_ t394.2.1.2.2.2.2 us449 ∧ Rs rI G_ t394.2.2 us451) ?_ ?_
    · skip
      obtain ⟨r404, er404⟩ : ∃ z_, z_ = (m_law_agrees r63.2 ([] : (List (List Nat))) 0) := ⟨_, rfl⟩
      refine ec_and ?_
      refine ec_callR F_law_agrees hr (by decide) ?_
      refine ac_cons ?_
      refine ec_D (P := rV (.ref l61)) (d_var 3 (P := rV (.ref l61)) rfl rfl) (fun v_ Gs395 s395 hv_ => ?_)
      cases hv_
      refine ac_cons ?_
      refine ec_N (n_lst (r := rS) (xs := ([] : (List (List Nat)))) a_nil ls_n) (fun l396 us397 Gs398 s398 h399 => ?_)
      refine ac_cons ?_
      refine ec_D (P := rI 0) d_int (fun v401 Gs400 s400 h402 => ?_)
      refine ac_nil' (fun Gs403 s403 => ?_)
      refine ⟨(r63.2, ([] : (List (List Nat))), 0), [(l61, HO.ins (clA mg "Sender") dx69 (nf_Sender.zip [.str (SX.S r63.2.1), .str (SX.S r63.2.2.1), .int r63.2.2.2.1, .int r63.2.2.2.2.1, .ref l70])), (dx69, HO.own l61), (l70, HO.lst us71), (l396, HO.lst us397)], (l388, HO.lst us389) :: (l38, HO.ins (clA mg "Sender") dx89 (nf_Sender.zip [.str (SX.S z86.1.1), .str (SX.S z86.1.2.1), .int z86.1.2.2.1, .int z86.1.2.2.2.1, .ref l90])) :: (dx89, HO.own l38) :: (l90, HO.lst us91) :: (l14, HO.lst us23) :: cs, (perm_to (k := 2) rfl (perm_to (k := 2) rfl (perm_to (k := 2) rfl (List.Perm.refl _)))), ⟨_, _, _, _, _, _, _, rfl, rfl, (Rs.mono (s80.trans (s83.trans (s372.trans (s373.trans (s375.trans (s378.trans (s381.trans (s383.trans (s395.trans (s398.trans (s400.trans s403))))))))))) h75), (Rs.mono (s400.trans s403) h399), (Mono.mono s403 h402), (by first | exact Snd.txts hjz310 | (rw [er63]; exact (snd_new h2 h1).txts))⟩, fun v406 Gs405 s405 h407 => ?_⟩
      have h408 : rB r404 Gs405 v406 := by rw [er404]; exact h407
      refine ⟨_, h408, fun hz409 => ?_, fun hz409 => ?_⟩
      · have dhz409 := hz409
        try simp only [decide_eq_true_eq, decide_eq_false_iff_not, Bool.and_eq_true, Bool.and_eq_false_imp, Bool.or_eq_true, Bool.or_eq_false_iff, Bool.not_eq_true', Bool.not_eq_false', Bool.not_not, ne_eq, Int.not_lt, Int.not_le] at dhz409
        obtain ⟨r423, er423⟩ : ∃ z_, z_ = (m_law_dispatched r63.2 [(ixg ends_29 1), (ixg ends_29 0)] ([] : (List (List Nat))) last_392 2) := ⟨_, rfl⟩
        refine ec_one ?_
        refine ec_callM F_law_dispatched hr (by decide) ?_
        refine ac_cons ?_
        refine ec_D (P := rV (.ref l61)) (d_var 3 (P := rV (.ref l61)) rfl rfl) (fun v_ Gs410 s410 hv_ => ?_)
        cases hv_
        refine ac_cons ?_
        refine ec_D (P := (rL K rS) [(ixg ends_29 1), (ixg ends_29 0)]) (d_new (n_lst (r := rS) (xs := [(ixg ends_29 1), (ixg ends_29 0)]) (a_cons (P := rS (ixg ends_29 1)) (d_ixL (r := rS) (xs := ends_29) (i := 1) (x := (ixg ends_29 1)) (D.imp (P := (rL K rS) ends_29) (d_var 1 (P := (rL K rS) ends_29) rfl (Mono.mono (s31.trans (s34.trans (s37.trans (s41.trans (s54.trans (s57.trans (s60.trans (s64.trans (s80.trans (s83.trans (s372.trans (s373.trans (s375.trans (s378.trans (s381.trans (s383.trans (s395.trans (s398.trans (s400.trans (s403.trans (s405.trans s410))))))))))))))))))))) h30)) fun _ _ => rdL_of) d_int (atI_ixg (by first | (constructor <;> omega) | (simp only [List.length_cons, List.length_nil]; constructor <;> omega) | exact ix_mod (by omega) | (simp only [decide_eq_true_eq, decide_eq_false_iff_not] at *; constructor <;> omega) | (simp only [decide_eq_true_eq, decide_eq_false_iff_not, Bool.and_eq_true, Bool.or_eq_true, Bool.or_eq_false_iff, Bool.not_eq_true', Bool.not_eq_false', Bool.not_not, ne_eq, Int.not_lt, Int.not_le] at *; constructor <;> omega)))) (a_cons (P := rS (ixg ends_29 0)) (d_ixL (r := rS) (xs := ends_29) (i := 0) (x := (ixg ends_29 0)) (D.imp (P := (rL K rS) ends_29) (d_var 1 (P := (rL K rS) ends_29) rfl (Mono.mono (s31.trans (s34.trans (s37.trans (s41.trans (s54.trans (s57.trans (s60.trans (s64.trans (s80.trans (s83.trans (s372.trans (s373.trans (s375.trans (s378.trans (s381.trans (s383.trans (s395.trans (s398.trans (s400.trans (s403.trans (s405.trans s410))))))))))))))))))))) h30)) fun _ _ => rdL_of) d_int (atI_ixg (by first | (constructor <;> omega) | (simp only [List.length_cons, List.length_nil]; constructor <;> omega) | exact ix_mod (by omega) | (simp only [decide_eq_true_eq, decide_eq_false_iff_not] at *; constructor <;> omega) | (simp only [decide_eq_true_eq, decide_eq_false_iff_not, Bool.and_eq_true, Bool.or_eq_true, Bool.or_eq_false_iff, Bool.not_eq_true', Bool.not_eq_false', Bool.not_not, ne_eq, Int.not_lt, Int.not_le] at *; constructor <;> omega)))) a_nil)) (ls_c (ls_c ls_n)))) (fun v412 Gs411 s411 h413 => ?_)
        refine ac_cons ?_
        refine ec_N (n_lst (r := rS) (xs := ([] : (List (List Nat)))) a_nil ls_n) (fun l414 us415 Gs416 s416 h417 => ?_)
        refine ac_cons ?_
        refine ec_D (P := rV (.ref l388)) (d_var 9 (P := rV (.ref l388)) rfl rfl) (fun v_ Gs418 s418 hv_ => ?_)
        cases hv_
        refine ac_cons ?_
        refine ec_D (P := rI 2) d_int (fun v420 Gs419 s419 h421 => ?_)
        refine ac_nil' (fun Gs422 s422 => ?_)
        refine ⟨(r63.2, [(ixg ends_29 1), (ixg ends_29 0)], ([] : (List (List Nat))), last_392, 2), [(l61, HO.ins (clA mg "Sender") dx69 (nf_Sender.zip [.str (SX.S r63.2.1), .str (SX.S r63.2.2.1), .int r63.2.2.2.1, .int r63.2.2.2.2.1, .ref l70])), (dx69, HO.own l61), (l70, HO.lst us71), (l414, HO.lst us415), (l388, HO.lst us389)], (l396, HO.lst us397) :: (l38, HO.ins (clA mg "Sender") dx89 (nf_Sender.zip [.str (SX.S z86.1.1), .str (SX.S z86.1.2.1), .int z86.1.2.2.1, .int z86.1.2.2.2.1, .ref l90])) :: (dx89, HO.own l38) :: (l90, HO.lst us91) :: (l14, HO.lst us23) :: cs, (perm_to (k := 3) rfl (perm_to (k := 3) rfl (perm_to (k := 3) rfl (perm_to (k := 0) rfl (perm_to (k := 1) rfl (List.Perm.refl _)))))), ⟨_, _, _, _, _, _, _, _, _, _, rfl, rfl, (Rs.mono (s80.trans (s83.trans (s372.trans (s373.trans (s375.trans (s378.trans (s381.trans (s383.trans (s395.trans (s398.trans (s400.trans (s403.trans (s405.trans (s410.trans (s411.trans (s416.trans (s418.trans (s419.trans s422)))))))))))))))))) h75), (Rs.mono (s418.trans (s419.trans s422)) h417), (Rs.mono (s395.trans (s398.trans (s400.trans (s403.trans (s405.trans (s410.trans (s411.trans (s416.trans (s418.trans (s419.trans s422)))))))))) h393), (Mono.mono (s416.trans (s418.trans (s419.trans s422))) h413), (Mono.mono s422 h421), (by (try dsimp only); first | exact ⟨⟨_, hS⟩, by assumption, hel, by decide, by omega⟩ | exact ⟨⟨_, St145⟩, by assumption, hel, by assumption, by omega⟩ | exact ⟨⟨0, by rw [er63]; exact snd_new h2 h1⟩, by assumption, rfl, by decide, by decide⟩)⟩, ?_⟩
        rintro v439 Gs424 mc425 s424 ⟨v426, v427, a428, dx429, l430, us431, a433, us434, a436, us437, e_, rfl, h432, h435, h438, h440⟩
        cases e_
        have h441 : Rs rS Gs424 r423.2.1.2.2.2.2 us431 := by rw [er423]; exact h432
        have h442 : Rs rS Gs424 r423.2.2.1 us434 := by rw [er423]; exact h435
        have h443 : Rs rI Gs424 r423.2.2.2 us437 := by rw [er423]; exact h438
        have h444 : rB r423.1 Gs424 v439 := by rw [er423]; exact h440
        refine ⟨(l414, HO.lst us434) :: (l396, HO.lst us397) :: (l388, HO.lst us437) :: (l61, HO.ins (clA mg "Sender") dx429 (nf_Sender.zip [.str (SX.S r423.2.1.1), .str (SX.S r423.2.1.2.1), .int r423.2.1.2.2.1, .int r423.2.1.2.2.2.1, .ref l430])) :: (dx429, HO.own l61) :: (l430, HO.lst us431) :: (l38, HO.ins (clA mg "Sender") dx89 (nf_Sender.zip [.str (SX.S z86.1.1), .str (SX.S z86.1.2.1), .int z86.1.2.2.1, .int z86.1.2.2.2.1, .ref l90])) :: (dx89, HO.own l38) :: (l90, HO.lst us91) :: (l14, HO.lst us23) :: cs, (by rw [er423]; exact (perm_to (k := 3) rfl (perm_to (k := 4) rfl (perm_to (k := 3) rfl (List.Perm.refl _))))), ?_⟩
        have hq445 : t394 = (r423.1, r423.2.1, r423.2.2.2) := by rw [et394]; (try simp only [letV]); subst er404; subst er423; rw [if_pos hz409]; (try rfl)
        exact ⟨by rw [show (v439 : V) = .bl r423.1 from h444]; rw [hq445], [(l414, HO.lst us434), (l396, HO.lst us397)], dx429, l430, us431, us437, (by rw [hq445]; exact (List.Perm.refl _)), (by rw [hq445]; exact h441), (by rw [hq445]; exact h443)⟩
      · have dhz409 := hz409
        have hq446 : t394 = (false, r63.2, last_392) := by rw [et394]; (try simp only [letV]); subst er404; rw [if_neg (by rw [hz409]; exact Bool.false_ne_true)]; (try rfl)
        exact ⟨by rw [hq446], [(l396, HO.lst us397)], dx69, l70, us71, us389, (by rw [hq446]; exact (List.Perm.refl _)), (by rw [hq446]; exact (Rs.mono (s80.trans (s83.trans (s372.trans (s373.trans (s375.trans (s378.trans (s381.trans (s383.trans (s395.trans (s398.trans (s400.trans (s403.trans s405)))))))))))) h75)), (by rw [hq446]; exact (Rs.mono (s395.trans (s398.trans (s400.trans (s403.trans s405)))) h393))⟩
    rintro _ Gs453 _ s453 ⟨rfl, loc454, dx447, l448, us449, us451, pm455, h450, h452⟩
    refine ⟨loc454, _, pm455, ?_⟩
    have h456 : rB t394.1 Gs453 (.bl t394.1) := rfl
    exact fun _ => ⟨⟨[(l388, HO.lst us451), (l61, HO.ins (clA mg "Sender") dx447 (nf_Sender.zip [.str (SX.S t394.2.1.1), .str (SX.S t394.2.1.2.1), .int t394.2.1.2.2.1, .int t394.2.1.2.2.2.1, .ref l448])), (dx447, HO.own l61), (l448, HO.lst us449), (l38, HO.ins (clA mg "Sender") dx89 (nf_Sender.zip [.str (SX.S z86.1.1), .str (SX.S z86.1.2.1), .int z86.1.2.2.1, .int z86.1.2.2.2.1, .ref l90])), (dx89, HO.own l38), (l90, HO.lst us91), (l14, HO.lst us23)], rfl⟩, h456⟩
end Ck28

set_option synthInstance.maxSize 10000
namespace Ck28
open PySem L2 PyProof.Rows J
theorem all_mk {l : PySem.W.OpenLaw} {w : World} {K : PySem.W.Frag} {h : Heap} {mg : Str → Option Value} {fa f1 f2 f3 f4 f5 f6 f7 f8 f9 f10 f11 f12 f13 f14 f15 f16 f17 f18 f19 f20 f21 f22 f23 f24 f25 f26 f27 : Addr} (X : K.In h) (G : h.Ns mainGlobals mg) (hfa : mg "law" = some (.ref fa))
    {C_Sender : Addr} {od1 an1 od2 an2 od3 an3 od4 an4 od5 an5 od6 an6 od7 an7 od8 an8 od9 an9 od10 an10 od11 an11 od12 an12 od13 an13 od14 an14 od15 an15 od16 an16 od17 an17 od18 an18 od19 an19 od20 an20 od21 an21 od22 an22 od23 an23 od24 an24 od25 an25 od26 an26 od27 an27 : Option Addr} {sl1 sl2 sl3 sl4 sl5 sl6 sl7 sl8 sl9 sl10 sl11 sl12 sl13 sl14 sl15 sl16 sl17 sl18 sl19 sl20 sl21 sl22 sl23 sl24 sl25 sl26 sl27 : Array (Option Value)} {oc1 kV1 dc1 pm1 cd1 ct1 oc2 kV2 dc2 pm2 cd2 ct2 oc3 kV3 dc3 pm3 cd3 ct3 oc4 kV4 dc4 pm4 cd4 ct4 oc5 kV5 dc5 pm5 cd5 ct5 oc6 kV6 dc6 pm6 cd6 ct6 oc7 kV7 dc7 pm7 cd7 ct7 oc8 kV8 dc8 pm8 cd8 ct8 oc9 kV9 dc9 pm9 cd9 ct9 oc10 kV10 dc10 pm10 cd10 ct10 oc11 kV11 dc11 pm11 cd11 ct11 oc12 kV12 dc12 pm12 cd12 ct12 oc13 kV13 dc13 pm13 cd13 ct13 oc14 kV14 dc14 pm14 cd14 ct14 oc15 kV15 dc15 pm15 cd15 ct15 oc16 kV16 dc16 pm16 cd16 ct16 oc17 kV17 dc17 pm17 cd17 ct17 oc18 kV18 dc18 pm18 cd18 ct18 oc19 kV19 dc19 pm19 cd19 ct19 oc20 kV20 dc20 pm20 cd20 ct20 oc21 kV21 dc21 pm21 cd21 ct21 oc22 kV22 dc22 pm22 cd22 ct22 oc23 kV23 dc23 pm23 cd23 ct23 oc24 kV24 dc24 pm24 cd24 ct24 oc25 kV25 dc25 pm25 cd25 ct25 oc26 kV26 dc26 pm26 cd26 ct26 oc27 kV27 dc27 pm27 cd27 ct27 : Value}
    (a1 : PySem.W.nsIn K mainGlobals "_law_pick" = some (some (.ref f1))) (l1 : K.lookup f1 = some ⟨oc1, od1, .func (PySem.W.fnOf "_law_pick" "_law_pick" (defArgs s_law_pick) (defBody s_law_pick) (defScope s_law_pick) .none kV1 dc1 pm1 an1 cd1 ct1), sl1⟩) (c1 : PySem.W.codeIn K cd1 "_law_pick" = true) (k1 : PySem.W.keepIn K (.ref f1) = true)
    (a2 : PySem.W.nsIn K mainGlobals "_law_name" = some (some (.ref f2))) (l2 : K.lookup f2 = some ⟨oc2, od2, .func (PySem.W.fnOf "_law_name" "_law_name" (defArgs s_law_name) (defBody s_law_name) (defScope s_law_name) .none kV2 dc2 pm2 an2 cd2 ct2), sl2⟩) (c2 : PySem.W.codeIn K cd2 "_law_name" = true) (k2 : PySem.W.keepIn K (.ref f2) = true)
    (a3 : PySem.W.nsIn K mainGlobals "_law_two_names" = some (some (.ref f3))) (l3 : K.lookup f3 = some ⟨oc3, od3, .func (PySem.W.fnOf "_law_two_names" "_law_two_names" (defArgs s_law_two_names) (defBody s_law_two_names) (defScope s_law_two_names) .none kV3 dc3 pm3 an3 cd3 ct3), sl3⟩) (c3 : PySem.W.codeIn K cd3 "_law_two_names" = true) (k3 : PySem.W.keepIn K (.ref f3) = true)
    (a4 : PySem.W.nsIn K mainGlobals "_law_source" = some (some (.ref f4))) (l4 : K.lookup f4 = some ⟨oc4, od4, .func (PySem.W.fnOf "_law_source" "_law_source" (defArgs s_law_source) (defBody s_law_source) (defScope s_law_source) .none kV4 dc4 pm4 an4 cd4 ct4), sl4⟩) (c4 : PySem.W.codeIn K cd4 "_law_source" = true) (k4 : PySem.W.keepIn K (.ref f4) = true)
    (a5 : PySem.W.nsIn K mainGlobals "_law_cell" = some (some (.ref f5))) (l5 : K.lookup f5 = some ⟨oc5, od5, .func (PySem.W.fnOf "_law_cell" "_law_cell" (defArgs s_law_cell) (defBody s_law_cell) (defScope s_law_cell) .none kV5 dc5 pm5 an5 cd5 ct5), sl5⟩) (c5 : PySem.W.codeIn K cd5 "_law_cell" = true) (k5 : PySem.W.keepIn K (.ref f5) = true)
    (a6 : PySem.W.nsIn K mainGlobals "_law_is_number" = some (some (.ref f6))) (l6 : K.lookup f6 = some ⟨oc6, od6, .func (PySem.W.fnOf "_law_is_number" "_law_is_number" (defArgs s_law_is_number) (defBody s_law_is_number) (defScope s_law_is_number) .none kV6 dc6 pm6 an6 cd6 ct6), sl6⟩) (c6 : PySem.W.codeIn K cd6 "_law_is_number" = true) (k6 : PySem.W.keepIn K (.ref f6) = true)
    (a7 : PySem.W.findIn K (.ref C_Sender) "waiting" = some (some (.ref f7))) (i7 : PySem.W.isFn K (.ref f7) = true) (l7 : K.lookup f7 = some ⟨oc7, od7, .func (PySem.W.fnOf "waiting" "Sender.waiting" (defArgs s_Sender_waiting) (defBody s_Sender_waiting) (defScope s_Sender_waiting) .none kV7 dc7 pm7 an7 cd7 ct7), sl7⟩) (c7 : PySem.W.codeIn K cd7 "Sender.waiting" = true) (k7 : PySem.W.keepIn K (.ref f7) = true)
    (a8 : PySem.W.findIn K (.ref C_Sender) "sent" = some (some (.ref f8))) (i8 : PySem.W.isFn K (.ref f8) = true) (l8 : K.lookup f8 = some ⟨oc8, od8, .func (PySem.W.fnOf "sent" "Sender.sent" (defArgs s_Sender_sent) (defBody s_Sender_sent) (defScope s_Sender_sent) .none kV8 dc8 pm8 an8 cd8 ct8), sl8⟩) (c8 : PySem.W.codeIn K cd8 "Sender.sent" = true) (k8 : PySem.W.keepIn K (.ref f8) = true)
    (a9 : PySem.W.findIn K (.ref C_Sender) "acknowledged" = some (some (.ref f9))) (i9 : PySem.W.isFn K (.ref f9) = true) (l9 : K.lookup f9 = some ⟨oc9, od9, .func (PySem.W.fnOf "acknowledged" "Sender.acknowledged" (defArgs s_Sender_acknowledged) (defBody s_Sender_acknowledged) (defScope s_Sender_acknowledged) .none kV9 dc9 pm9 an9 cd9 ct9), sl9⟩) (c9 : PySem.W.codeIn K cd9 "Sender.acknowledged" = true) (k9 : PySem.W.keepIn K (.ref f9) = true)
    (a10 : PySem.W.nsIn K mainGlobals "_law_agrees" = some (some (.ref f10))) (l10 : K.lookup f10 = some ⟨oc10, od10, .func (PySem.W.fnOf "_law_agrees" "_law_agrees" (defArgs s_law_agrees) (defBody s_law_agrees) (defScope s_law_agrees) .none kV10 dc10 pm10 an10 cd10 ct10), sl10⟩) (c10 : PySem.W.codeIn K cd10 "_law_agrees" = true) (k10 : PySem.W.keepIn K (.ref f10) = true)
    (a11 : PySem.W.nsIn K mainGlobals "_law_kind" = some (some (.ref f11))) (l11 : K.lookup f11 = some ⟨oc11, od11, .func (PySem.W.fnOf "_law_kind" "_law_kind" (defArgs s_law_kind) (defBody s_law_kind) (defScope s_law_kind) .none kV11 dc11 pm11 an11 cd11 ct11), sl11⟩) (c11 : PySem.W.codeIn K cd11 "_law_kind" = true) (k11 : PySem.W.keepIn K (.ref f11) = true)
    (a12 : PySem.W.nsIn K mainGlobals "_law_text" = some (some (.ref f12))) (l12 : K.lookup f12 = some ⟨oc12, od12, .func (PySem.W.fnOf "_law_text" "_law_text" (defArgs s_law_text) (defBody s_law_text) (defScope s_law_text) .none kV12 dc12 pm12 an12 cd12 ct12), sl12⟩) (c12 : PySem.W.codeIn K cd12 "_law_text" = true) (k12 : PySem.W.keepIn K (.ref f12) = true)
    (a13 : PySem.W.nsIn K mainGlobals "_law_check" = some (some (.ref f13))) (l13 : K.lookup f13 = some ⟨oc13, od13, .func (PySem.W.fnOf "_law_check" "_law_check" (defArgs s_law_check) (defBody s_law_check) (defScope s_law_check) .none kV13 dc13 pm13 an13 cd13 ct13), sl13⟩) (c13 : PySem.W.codeIn K cd13 "_law_check" = true) (k13 : PySem.W.keepIn K (.ref f13) = true)
    (a14 : PySem.W.nsIn K mainGlobals "_law_written" = some (some (.ref f14))) (l14 : K.lookup f14 = some ⟨oc14, od14, .func (PySem.W.fnOf "_law_written" "_law_written" (defArgs s_law_written) (defBody s_law_written) (defScope s_law_written) .none kV14 dc14 pm14 an14 cd14 ct14), sl14⟩) (c14 : PySem.W.codeIn K cd14 "_law_written" = true) (k14 : PySem.W.keepIn K (.ref f14) = true)
    (a15 : PySem.W.nsIn K mainGlobals "check_number" = some (some (.ref f15))) (l15 : K.lookup f15 = some ⟨oc15, od15, .func (PySem.W.fnOf "check_number" "check_number" (defArgs s_check_number) (defBody s_check_number) (defScope s_check_number) .none kV15 dc15 pm15 an15 cd15 ct15), sl15⟩) (c15 : PySem.W.codeIn K cd15 "check_number" = true) (k15 : PySem.W.keepIn K (.ref f15) = true)
    (a16 : PySem.W.nsIn K mainGlobals "is_name" = some (some (.ref f16))) (l16 : K.lookup f16 = some ⟨oc16, od16, .func (PySem.W.fnOf "is_name" "is_name" (defArgs s_is_name) (defBody s_is_name) (defScope s_is_name) .none kV16 dc16 pm16 an16 cd16 ct16), sl16⟩) (c16 : PySem.W.codeIn K cd16 "is_name" = true) (k16 : PySem.W.keepIn K (.ref f16) = true)
    (a17 : PySem.W.nsIn K mainGlobals "is_field" = some (some (.ref f17))) (l17 : K.lookup f17 = some ⟨oc17, od17, .func (PySem.W.fnOf "is_field" "is_field" (defArgs s_is_field) (defBody s_is_field) (defScope s_is_field) .none kV17 dc17 pm17 an17 cd17 ct17), sl17⟩) (c17 : PySem.W.codeIn K cd17 "is_field" = true) (k17 : PySem.W.keepIn K (.ref f17) = true)
    (a18 : PySem.W.nsIn K mainGlobals "write_letter" = some (some (.ref f18))) (l18 : K.lookup f18 = some ⟨oc18, od18, .func (PySem.W.fnOf "write_letter" "write_letter" (defArgs s_write_letter) (defBody s_write_letter) (defScope s_write_letter) .none kV18 dc18 pm18 an18 cd18 ct18), sl18⟩) (c18 : PySem.W.codeIn K cd18 "write_letter" = true) (k18 : PySem.W.keepIn K (.ref f18) = true)
    (a19 : PySem.W.findIn K (.ref C_Sender) "dispatch" = some (some (.ref f19))) (i19 : PySem.W.isFn K (.ref f19) = true) (l19 : K.lookup f19 = some ⟨oc19, od19, .func (PySem.W.fnOf "dispatch" "Sender.dispatch" (defArgs s_Sender_dispatch) (defBody s_Sender_dispatch) (defScope s_Sender_dispatch) .none kV19 dc19 pm19 an19 cd19 ct19), sl19⟩) (c19 : PySem.W.codeIn K cd19 "Sender.dispatch" = true) (k19 : PySem.W.keepIn K (.ref f19) = true)
    (a20 : PySem.W.nsIn K mainGlobals "_law_dispatched" = some (some (.ref f20))) (l20 : K.lookup f20 = some ⟨oc20, od20, .func (PySem.W.fnOf "_law_dispatched" "_law_dispatched" (defArgs s_law_dispatched) (defBody s_law_dispatched) (defScope s_law_dispatched) .none kV20 dc20 pm20 an20 cd20 ct20), sl20⟩) (c20 : PySem.W.codeIn K cd20 "_law_dispatched" = true) (k20 : PySem.W.keepIn K (.ref f20) = true)
    (a21 : PySem.W.nsIn K mainGlobals "_law_errors" = some (some (.ref f21))) (l21 : K.lookup f21 = some ⟨oc21, od21, .func (PySem.W.fnOf "_law_errors" "_law_errors" (defArgs s_law_errors) (defBody s_law_errors) (defScope s_law_errors) .none kV21 dc21 pm21 an21 cd21 ct21), sl21⟩) (c21 : PySem.W.codeIn K cd21 "_law_errors" = true) (k21 : PySem.W.keepIn K (.ref f21) = true)
    (a22 : PySem.W.findIn K (.ref C_Sender) "acknowledge" = some (some (.ref f22))) (i22 : PySem.W.isFn K (.ref f22) = true) (l22 : K.lookup f22 = some ⟨oc22, od22, .func (PySem.W.fnOf "acknowledge" "Sender.acknowledge" (defArgs s_Sender_acknowledge) (defBody s_Sender_acknowledge) (defScope s_Sender_acknowledge) .none kV22 dc22 pm22 an22 cd22 ct22), sl22⟩) (c22 : PySem.W.codeIn K cd22 "Sender.acknowledge" = true) (k22 : PySem.W.keepIn K (.ref f22) = true)
    (a23 : PySem.W.nsIn K mainGlobals "_law_acknowledged" = some (some (.ref f23))) (l23 : K.lookup f23 = some ⟨oc23, od23, .func (PySem.W.fnOf "_law_acknowledged" "_law_acknowledged" (defArgs s_law_acknowledged) (defBody s_law_acknowledged) (defScope s_law_acknowledged) .none kV23 dc23 pm23 an23 cd23 ct23), sl23⟩) (c23 : PySem.W.codeIn K cd23 "_law_acknowledged" = true) (k23 : PySem.W.keepIn K (.ref f23) = true)
    (a24 : PySem.W.nsIn K mainGlobals "_law_bad_name" = some (some (.ref f24))) (l24 : K.lookup f24 = some ⟨oc24, od24, .func (PySem.W.fnOf "_law_bad_name" "_law_bad_name" (defArgs s_law_bad_name) (defBody s_law_bad_name) (defScope s_law_bad_name) .none kV24 dc24 pm24 an24 cd24 ct24), sl24⟩) (c24 : PySem.W.codeIn K cd24 "_law_bad_name" = true) (k24 : PySem.W.keepIn K (.ref f24) = true)
    (a25 : PySem.W.nsIn K mainGlobals "_law_wrong" = some (some (.ref f25))) (l25 : K.lookup f25 = some ⟨oc25, od25, .func (PySem.W.fnOf "_law_wrong" "_law_wrong" (defArgs s_law_wrong) (defBody s_law_wrong) (defScope s_law_wrong) .none kV25 dc25 pm25 an25 cd25 ct25), sl25⟩) (c25 : PySem.W.codeIn K cd25 "_law_wrong" = true) (k25 : PySem.W.keepIn K (.ref f25) = true)
    (a26 : PySem.W.findIn K (.ref C_Sender) "__init__" = some (some (.ref f26))) (i26 : PySem.W.isFn K (.ref f26) = true) (l26 : K.lookup f26 = some ⟨oc26, od26, .func (PySem.W.fnOf "__init__" "Sender.__init__" (defArgs s_Sender___init__) (defBody s_Sender___init__) (defScope s_Sender___init__) .none kV26 dc26 pm26 an26 cd26 ct26), sl26⟩) (c26 : PySem.W.codeIn K cd26 "Sender.__init__" = true) (k26 : PySem.W.keepIn K (.ref f26) = true)
    (a27 : PySem.W.nsIn K mainGlobals "law" = some (some (.ref f27))) (l27 : K.lookup f27 = some ⟨oc27, od27, .func (PySem.W.fnOf "law" "law" (defArgs s_law) (defBody s_law) (defScope s_law) .none kV27 dc27 pm27 an27 cd27 ct27), sl27⟩) (c27 : PySem.W.codeIn K cd27 "law" = true) (k27 : PySem.W.keepIn K (.ref f27) = true)
    (aC_Sender : PySem.W.nsIn K mainGlobals "Sender" = some (some (.ref C_Sender))) (pg_Sender : PySem.W.plainGet K C_Sender Str.empty = true) (hd_Sender : PySem.W.hasDictIn K C_Sender = true) (po_Sender : PySem.W.plainOver K C_Sender = true) (sa_Sender : PySem.W.findIn K (.ref C_Sender) "__setattr__" = some (some (.builtin "object.__setattr__"))) (mk_Sender : PySem.W.makesIn K C_Sender = true) (kc_Sender : PySem.W.keepIn K (.ref C_Sender) = true)
    (na_Sender_me : PySem.W.findIn K (.ref C_Sender) "me" = some none)
    (na_Sender_other : PySem.W.findIn K (.ref C_Sender) "other" = some none)
    (na_Sender_last : PySem.W.findIn K (.ref C_Sender) "last" = some none)
    (na_Sender_dropped : PySem.W.findIn K (.ref C_Sender) "dropped" = some none)
    (na_Sender_kept : PySem.W.findIn K (.ref C_Sender) "kept" = some none)
    (z_ValueError : PySem.W.nsIn K mainGlobals "ValueError" = some none)
    (z_all : PySem.W.nsIn K mainGlobals "all" = some none)
    (z_bool : PySem.W.nsIn K mainGlobals "bool" = some none)
    (z_enumerate : PySem.W.nsIn K mainGlobals "enumerate" = some none)
    (z_int : PySem.W.nsIn K mainGlobals "int" = some none)
    (z_isinstance : PySem.W.nsIn K mainGlobals "isinstance" = some none)
    (z_len : PySem.W.nsIn K mainGlobals "len" = some none)
    (z_list : PySem.W.nsIn K mainGlobals "list" = some none)
    (z_max : PySem.W.nsIn K mainGlobals "max" = some none)
    (z_ord : PySem.W.nsIn K mainGlobals "ord" = some none)
    (z_range : PySem.W.nsIn K mainGlobals "range" = some none)
    (z_str : PySem.W.nsIn K mainGlobals "str" = some none)
    {tk_ACK : Tok} (y_ACK : PySem.W.nsIn K mainGlobals "ACK" = some (some (.str "ack" tk_ACK)))
    {tk_DIGITS : Tok} (y_DIGITS : PySem.W.nsIn K mainGlobals "DIGITS" = some (some (.str "0123456789" tk_DIGITS)))
    {tk_LETTERS : Tok} (y_LETTERS : PySem.W.nsIn K mainGlobals "LETTERS" = some (some (.str "abcdefghijklmnopqrstuvwxyz" tk_LETTERS)))
    {tk_MODULUS : Tok} (y_MODULUS : PySem.W.nsIn K mainGlobals "MODULUS" = some (some (.int 9973 tk_MODULUS)))
    {tk_MOST_FIELDS : Tok} (y_MOST_FIELDS : PySem.W.nsIn K mainGlobals "MOST_FIELDS" = some (some (.int 8 tk_MOST_FIELDS)))
    {tk_MOST_NUMBER : Tok} (y_MOST_NUMBER : PySem.W.nsIn K mainGlobals "MOST_NUMBER" = some (some (.int 999999 tk_MOST_NUMBER)))
    {tk_MOST_SIGNS : Tok} (y_MOST_SIGNS : PySem.W.nsIn K mainGlobals "MOST_SIGNS" = some (some (.int 40 tk_MOST_SIGNS)))
    {eB e0 e1 e2 e3 e4 e5 e6 : Addr} (bB : PySem.W.nsIn K mainGlobals "BankError" = some (some (.ref eB))) (bB1 : PySem.W.subIn K (.ref eB) (.type "BaseException") = some true) (bB2 : PySem.W.hasDictIn K eB = true) (bB3 : PySem.W.typeIn K (.ref eB) = some (.type "type"))
    (ea0 : PySem.W.nsIn K mainGlobals "BadValue" = some (some (.ref e0))) (ex0 : PySem.W.excIn K e0 [.type "ValueError", .type "Exception", .type "BaseException", .type "object"] "ValueError.__new__" = true) (ek0 : PySem.W.keepIn K (.ref e0) = true) (eb0 : PySem.W.subIn K (.ref e0) (.type "BaseException") = some true) (et0 : PySem.W.typeIn K (.ref e0) = some (.type "type"))
    (eg0 : PySem.W.findIn K (.ref e0) "__getattribute__" = some (some (.builtin "BaseException.__getattribute__"))) (eh0 : PySem.W.findIn K (.ref e0) "__getattr__" = some none) (ed0 : PySem.W.hasDictIn K e0 = true) (ec0 : PySem.W.findIn K (.ref e0) "__class__" = some (some (.builtin "object.__class__"))) (em0 : PySem.W.mroIn K e0 (.type "object") = some true) (ey0 : PySem.W.subIn K (.ref e0) (.ref eB) = some true)
    (eq0_0 : PySem.W.subIn K (.ref e0) (.ref e0) = some true)
    (eq0_1 : PySem.W.subIn K (.ref e0) (.ref e1) = some false)
    (eq0_2 : PySem.W.subIn K (.ref e0) (.ref e2) = some false)
    (eq0_3 : PySem.W.subIn K (.ref e0) (.ref e3) = some false)
    (eq0_4 : PySem.W.subIn K (.ref e0) (.ref e4) = some false)
    (eq0_5 : PySem.W.subIn K (.ref e0) (.ref e5) = some false)
    (eq0_6 : PySem.W.subIn K (.ref e0) (.ref e6) = some false)
    (ea1 : PySem.W.nsIn K mainGlobals "BadDay" = some (some (.ref e1))) (ex1 : PySem.W.excIn K e1 [.type "ValueError", .type "Exception", .type "BaseException", .type "object"] "ValueError.__new__" = true) (ek1 : PySem.W.keepIn K (.ref e1) = true) (eb1 : PySem.W.subIn K (.ref e1) (.type "BaseException") = some true) (et1 : PySem.W.typeIn K (.ref e1) = some (.type "type"))
    (eg1 : PySem.W.findIn K (.ref e1) "__getattribute__" = some (some (.builtin "BaseException.__getattribute__"))) (eh1 : PySem.W.findIn K (.ref e1) "__getattr__" = some none) (ed1 : PySem.W.hasDictIn K e1 = true) (ec1 : PySem.W.findIn K (.ref e1) "__class__" = some (some (.builtin "object.__class__"))) (em1 : PySem.W.mroIn K e1 (.type "object") = some true) (ey1 : PySem.W.subIn K (.ref e1) (.ref eB) = some true)
    (eq1_0 : PySem.W.subIn K (.ref e1) (.ref e0) = some false)
    (eq1_1 : PySem.W.subIn K (.ref e1) (.ref e1) = some true)
    (eq1_2 : PySem.W.subIn K (.ref e1) (.ref e2) = some false)
    (eq1_3 : PySem.W.subIn K (.ref e1) (.ref e3) = some false)
    (eq1_4 : PySem.W.subIn K (.ref e1) (.ref e4) = some false)
    (eq1_5 : PySem.W.subIn K (.ref e1) (.ref e5) = some false)
    (eq1_6 : PySem.W.subIn K (.ref e1) (.ref e6) = some false)
    (ea2 : PySem.W.nsIn K mainGlobals "Missing" = some (some (.ref e2))) (ex2 : PySem.W.excIn K e2 [.type "ValueError", .type "Exception", .type "BaseException", .type "object"] "ValueError.__new__" = true) (ek2 : PySem.W.keepIn K (.ref e2) = true) (eb2 : PySem.W.subIn K (.ref e2) (.type "BaseException") = some true) (et2 : PySem.W.typeIn K (.ref e2) = some (.type "type"))
    (eg2 : PySem.W.findIn K (.ref e2) "__getattribute__" = some (some (.builtin "BaseException.__getattribute__"))) (eh2 : PySem.W.findIn K (.ref e2) "__getattr__" = some none) (ed2 : PySem.W.hasDictIn K e2 = true) (ec2 : PySem.W.findIn K (.ref e2) "__class__" = some (some (.builtin "object.__class__"))) (em2 : PySem.W.mroIn K e2 (.type "object") = some true) (ey2 : PySem.W.subIn K (.ref e2) (.ref eB) = some true)
    (eq2_0 : PySem.W.subIn K (.ref e2) (.ref e0) = some false)
    (eq2_1 : PySem.W.subIn K (.ref e2) (.ref e1) = some false)
    (eq2_2 : PySem.W.subIn K (.ref e2) (.ref e2) = some true)
    (eq2_3 : PySem.W.subIn K (.ref e2) (.ref e3) = some false)
    (eq2_4 : PySem.W.subIn K (.ref e2) (.ref e4) = some false)
    (eq2_5 : PySem.W.subIn K (.ref e2) (.ref e5) = some false)
    (eq2_6 : PySem.W.subIn K (.ref e2) (.ref e6) = some false)
    (ea3 : PySem.W.nsIn K mainGlobals "Refused" = some (some (.ref e3))) (ex3 : PySem.W.excIn K e3 [.type "ValueError", .type "Exception", .type "BaseException", .type "object"] "ValueError.__new__" = true) (ek3 : PySem.W.keepIn K (.ref e3) = true) (eb3 : PySem.W.subIn K (.ref e3) (.type "BaseException") = some true) (et3 : PySem.W.typeIn K (.ref e3) = some (.type "type"))
    (eg3 : PySem.W.findIn K (.ref e3) "__getattribute__" = some (some (.builtin "BaseException.__getattribute__"))) (eh3 : PySem.W.findIn K (.ref e3) "__getattr__" = some none) (ed3 : PySem.W.hasDictIn K e3 = true) (ec3 : PySem.W.findIn K (.ref e3) "__class__" = some (some (.builtin "object.__class__"))) (em3 : PySem.W.mroIn K e3 (.type "object") = some true) (ey3 : PySem.W.subIn K (.ref e3) (.ref eB) = some true)
    (eq3_0 : PySem.W.subIn K (.ref e3) (.ref e0) = some false)
    (eq3_1 : PySem.W.subIn K (.ref e3) (.ref e1) = some false)
    (eq3_2 : PySem.W.subIn K (.ref e3) (.ref e2) = some false)
    (eq3_3 : PySem.W.subIn K (.ref e3) (.ref e3) = some true)
    (eq3_4 : PySem.W.subIn K (.ref e3) (.ref e4) = some false)
    (eq3_5 : PySem.W.subIn K (.ref e3) (.ref e5) = some false)
    (eq3_6 : PySem.W.subIn K (.ref e3) (.ref e6) = some false)
    (ea4 : PySem.W.nsIn K mainGlobals "Full" = some (some (.ref e4))) (ex4 : PySem.W.excIn K e4 [.type "ValueError", .type "Exception", .type "BaseException", .type "object"] "ValueError.__new__" = true) (ek4 : PySem.W.keepIn K (.ref e4) = true) (eb4 : PySem.W.subIn K (.ref e4) (.type "BaseException") = some true) (et4 : PySem.W.typeIn K (.ref e4) = some (.type "type"))
    (eg4 : PySem.W.findIn K (.ref e4) "__getattribute__" = some (some (.builtin "BaseException.__getattribute__"))) (eh4 : PySem.W.findIn K (.ref e4) "__getattr__" = some none) (ed4 : PySem.W.hasDictIn K e4 = true) (ec4 : PySem.W.findIn K (.ref e4) "__class__" = some (some (.builtin "object.__class__"))) (em4 : PySem.W.mroIn K e4 (.type "object") = some true) (ey4 : PySem.W.subIn K (.ref e4) (.ref eB) = some true)
    (eq4_0 : PySem.W.subIn K (.ref e4) (.ref e0) = some false)
    (eq4_1 : PySem.W.subIn K (.ref e4) (.ref e1) = some false)
    (eq4_2 : PySem.W.subIn K (.ref e4) (.ref e2) = some false)
    (eq4_3 : PySem.W.subIn K (.ref e4) (.ref e3) = some false)
    (eq4_4 : PySem.W.subIn K (.ref e4) (.ref e4) = some true)
    (eq4_5 : PySem.W.subIn K (.ref e4) (.ref e5) = some false)
    (eq4_6 : PySem.W.subIn K (.ref e4) (.ref e6) = some false)
    (ea5 : PySem.W.nsIn K mainGlobals "NotAllowed" = some (some (.ref e5))) (ex5 : PySem.W.excIn K e5 [.type "ValueError", .type "Exception", .type "BaseException", .type "object"] "ValueError.__new__" = true) (ek5 : PySem.W.keepIn K (.ref e5) = true) (eb5 : PySem.W.subIn K (.ref e5) (.type "BaseException") = some true) (et5 : PySem.W.typeIn K (.ref e5) = some (.type "type"))
    (eg5 : PySem.W.findIn K (.ref e5) "__getattribute__" = some (some (.builtin "BaseException.__getattribute__"))) (eh5 : PySem.W.findIn K (.ref e5) "__getattr__" = some none) (ed5 : PySem.W.hasDictIn K e5 = true) (ec5 : PySem.W.findIn K (.ref e5) "__class__" = some (some (.builtin "object.__class__"))) (em5 : PySem.W.mroIn K e5 (.type "object") = some true) (ey5 : PySem.W.subIn K (.ref e5) (.ref eB) = some true)
    (eq5_0 : PySem.W.subIn K (.ref e5) (.ref e0) = some false)
    (eq5_1 : PySem.W.subIn K (.ref e5) (.ref e1) = some false)
    (eq5_2 : PySem.W.subIn K (.ref e5) (.ref e2) = some false)
    (eq5_3 : PySem.W.subIn K (.ref e5) (.ref e3) = some false)
    (eq5_4 : PySem.W.subIn K (.ref e5) (.ref e4) = some false)
    (eq5_5 : PySem.W.subIn K (.ref e5) (.ref e5) = some true)
    (eq5_6 : PySem.W.subIn K (.ref e5) (.ref e6) = some false)
    (ea6 : PySem.W.nsIn K mainGlobals "Damaged" = some (some (.ref e6))) (ex6 : PySem.W.excIn K e6 [.type "ValueError", .type "Exception", .type "BaseException", .type "object"] "ValueError.__new__" = true) (ek6 : PySem.W.keepIn K (.ref e6) = true) (eb6 : PySem.W.subIn K (.ref e6) (.type "BaseException") = some true) (et6 : PySem.W.typeIn K (.ref e6) = some (.type "type"))
    (eg6 : PySem.W.findIn K (.ref e6) "__getattribute__" = some (some (.builtin "BaseException.__getattribute__"))) (eh6 : PySem.W.findIn K (.ref e6) "__getattr__" = some none) (ed6 : PySem.W.hasDictIn K e6 = true) (ec6 : PySem.W.findIn K (.ref e6) "__class__" = some (some (.builtin "object.__class__"))) (em6 : PySem.W.mroIn K e6 (.type "object") = some true) (ey6 : PySem.W.subIn K (.ref e6) (.ref eB) = some true)
    (eq6_0 : PySem.W.subIn K (.ref e6) (.ref e0) = some false)
    (eq6_1 : PySem.W.subIn K (.ref e6) (.ref e1) = some false)
    (eq6_2 : PySem.W.subIn K (.ref e6) (.ref e2) = some false)
    (eq6_3 : PySem.W.subIn K (.ref e6) (.ref e3) = some false)
    (eq6_4 : PySem.W.subIn K (.ref e6) (.ref e4) = some false)
    (eq6_5 : PySem.W.subIn K (.ref e6) (.ref e5) = some false)
    (eq6_6 : PySem.W.subIn K (.ref e6) (.ref e6) = some true)
    (eN : PySem.W.specialIn K (.builtin "object.__class__") "__get__" = some (some (.builtin "getset_descriptor.__get__"))) (eT : PySem.W.takesIn K (.builtin "object.__class__") = some true)
    : ∃ fd : FuncData, (∀ (s : Shared) (v : Value), BindsTo s fd ⟨[v], []⟩ [("_law_script", v)]) ∧ ∀ base : Heap, K.In base → base.Ns mainGlobals mg → FnOk l.prog w K mg base CX0 5 fa fd ["_law_script"] (sp_law K) := by
  have e := hfa.symm.trans (PySem.W.mg_of X G a27)
  cases e
  have F1 := fun_mk (st := s_law_pick) l1 c1 k1
  have b1 := F1.binds (ps := ["_law_source_here", "_law_many"]) fun _ _ _ _ _ _ us hl => match us, hl with | [_, _], _ => rfl
  have g1 := PySem.W.mg_of X G a1
  have F2 := fun_mk (st := s_law_name) l2 c2 k2
  have b2 := F2.binds (ps := ["_law_source_here"]) fun _ _ _ _ _ _ us hl => match us, hl with | [_], _ => rfl
  have g2 := PySem.W.mg_of X G a2
  have F3 := fun_mk (st := s_law_two_names) l3 c3 k3
  have b3 := F3.binds (ps := ["_law_source_here"]) fun _ _ _ _ _ _ us hl => match us, hl with | [_], _ => rfl
  have g3 := PySem.W.mg_of X G a3
  have F4 := fun_mk (st := s_law_source) l4 c4 k4
  have b4 := F4.binds (ps := ["_law_cell_here", "_law_k"]) fun _ _ _ _ _ _ us hl => match us, hl with | [_, _], _ => rfl
  have g4 := PySem.W.mg_of X G a4
  have F5 := fun_mk (st := s_law_cell) l5 c5 k5
  have b5 := F5.binds (ps := ["_law_script", "_law_k"]) fun _ _ _ _ _ _ us hl => match us, hl with | [_, _], _ => rfl
  have g5 := PySem.W.mg_of X G a5
  have F6 := fun_mk (st := s_law_is_number) l6 c6 k6
  have b6 := F6.binds (ps := ["_law_actual", "_law_expected"]) fun _ _ _ _ _ _ us hl => match us, hl with | [_, _], _ => rfl
  have g6 := PySem.W.mg_of X G a6
  have F7 := fun_mk (st := s_Sender_waiting) l7 c7 k7
  have b7 := F7.binds (ps := ["self"]) fun _ _ _ _ _ _ us hl => match us, hl with | [_], _ => rfl
  have F8 := fun_mk (st := s_Sender_sent) l8 c8 k8
  have b8 := F8.binds (ps := ["self"]) fun _ _ _ _ _ _ us hl => match us, hl with | [_], _ => rfl
  have F9 := fun_mk (st := s_Sender_acknowledged) l9 c9 k9
  have b9 := F9.binds (ps := ["self"]) fun _ _ _ _ _ _ us hl => match us, hl with | [_], _ => rfl
  have F10 := fun_mk (st := s_law_agrees) l10 c10 k10
  have b10 := F10.binds (ps := ["_law_end", "_law_sent", "_law_dropped"]) fun _ _ _ _ _ _ us hl => match us, hl with | [_, _, _], _ => rfl
  have g10 := PySem.W.mg_of X G a10
  have F11 := fun_mk (st := s_law_kind) l11 c11 k11
  have b11 := F11.binds (ps := ["_law_source_here"]) fun _ _ _ _ _ _ us hl => match us, hl with | [_], _ => rfl
  have g11 := PySem.W.mg_of X G a11
  have F12 := fun_mk (st := s_law_text) l12 c12 k12
  have b12 := F12.binds (ps := ["_law_source_here", "_law_most"]) fun _ _ _ _ _ _ us hl => match us, hl with | [_, _], _ => rfl
  have g12 := PySem.W.mg_of X G a12
  have F13 := fun_mk (st := s_law_check) l13 c13 k13
  have b13 := F13.binds (ps := ["_law_body"]) fun _ _ _ _ _ _ us hl => match us, hl with | [_], _ => rfl
  have g13 := PySem.W.mg_of X G a13
  have F14 := fun_mk (st := s_law_written) l14 c14 k14
  have b14 := F14.binds (ps := ["_law_kind_here", "_law_sender", "_law_receiver", "_law_digits", "_law_fields"]) fun _ _ _ _ _ _ us hl => match us, hl with | [_, _, _, _, _], _ => rfl
  have g14 := PySem.W.mg_of X G a14
  have F15 := fun_mk (st := s_check_number) l15 c15 k15
  have b15 := F15.binds (ps := ["body"]) fun _ _ _ _ _ _ us hl => match us, hl with | [_], _ => rfl
  have g15 := PySem.W.mg_of X G a15
  have F16 := fun_mk (st := s_is_name) l16 c16 k16
  have b16 := F16.binds (ps := ["text"]) fun _ _ _ _ _ _ us hl => match us, hl with | [_], _ => rfl
  have g16 := PySem.W.mg_of X G a16
  have F17 := fun_mk (st := s_is_field) l17 c17 k17
  have b17 := F17.binds (ps := ["text"]) fun _ _ _ _ _ _ us hl => match us, hl with | [_], _ => rfl
  have g17 := PySem.W.mg_of X G a17
  have F18 := fun_mk (st := s_write_letter) l18 c18 k18
  have b18 := F18.binds (ps := ["letter"]) fun _ _ _ _ _ _ us hl => match us, hl with | [_], _ => rfl
  have g18 := PySem.W.mg_of X G a18
  have F19 := fun_mk (st := s_Sender_dispatch) l19 c19 k19
  have b19 := F19.binds (ps := ["self", "kind", "fields"]) fun _ _ _ _ _ _ us hl => match us, hl with | [_, _, _], _ => rfl
  have F20 := fun_mk (st := s_law_dispatched) l20 c20 k20
  have b20 := F20.binds (ps := ["_law_end", "_law_ends", "_law_sent", "_law_source_here", "_law_many"]) fun _ _ _ _ _ _ us hl => match us, hl with | [_, _, _, _, _], _ => rfl
  have g20 := PySem.W.mg_of X G a20
  have F21 := fun_mk (st := s_law_errors) l21 c21 k21
  have b21 := F21.binds (ps := ["_law_e"]) fun _ _ _ _ _ _ us hl => match us, hl with | [_], _ => rfl
  have g21 := PySem.W.mg_of X G a21
  have F22 := fun_mk (st := s_Sender_acknowledge) l22 c22 k22
  have b22 := F22.binds (ps := ["self", "number"]) fun _ _ _ _ _ _ us hl => match us, hl with | [_, _], _ => rfl
  have F23 := fun_mk (st := s_law_acknowledged) l23 c23 k23
  have b23 := F23.binds (ps := ["_law_end", "_law_sent", "_law_dropped", "_law_source_here"]) fun _ _ _ _ _ _ us hl => match us, hl with | [_, _, _, _], _ => rfl
  have g23 := PySem.W.mg_of X G a23
  have F24 := fun_mk (st := s_law_bad_name) l24 c24 k24
  have b24 := F24.binds (ps := ["_law_source_here"]) fun _ _ _ _ _ _ us hl => match us, hl with | [_], _ => rfl
  have g24 := PySem.W.mg_of X G a24
  have F25 := fun_mk (st := s_law_wrong) l25 c25 k25
  have b25 := F25.binds (ps := ["_law_end", "_law_source_here"]) fun _ _ _ _ _ _ us hl => match us, hl with | [_, _], _ => rfl
  have g25 := PySem.W.mg_of X G a25
  have F26 := fun_mk (st := s_Sender___init__) l26 c26 k26
  have b26 := F26.binds (ps := ["self", "me", "other"]) fun _ _ _ _ _ _ us hl => match us, hl with | [_, _, _], _ => rfl
  have F27 := fun_mk (st := s_law) l27 c27 k27
  have b27 := F27.binds (ps := ["_law_script"]) fun _ _ _ _ _ _ us hl => match us, hl with | [_], _ => rfl
  have g27 := PySem.W.mg_of X G a27
  have g_Sender := PySem.W.mg_of X G aC_Sender
  have e_Sender : clA mg "Sender" = C_Sender := clA_of g_Sender
  have K_Sender : ClsK K C_Sender nf_Sender := ⟨⟨pg_Sender, hd_Sender, po_Sender, sa_Sender⟩, by decide +kernel, by simp only [nf_Sender, List.mem_cons, List.not_mem_nil, or_false]; rintro f (rfl | rfl | rfl | rfl | rfl) <;> assumption, by decide⟩
  have M7 : Meth K C_Sender "waiting" f7 := ⟨a7, i7, F7.kp⟩
  have M8 : Meth K C_Sender "sent" f8 := ⟨a8, i8, F8.kp⟩
  have M9 : Meth K C_Sender "acknowledged" f9 := ⟨a9, i9, F9.kp⟩
  have M19 : Meth K C_Sender "dispatch" f19 := ⟨a19, i19, F19.kp⟩
  have M22 : Meth K C_Sender "acknowledge" f22 := ⟨a22, i22, F22.kp⟩
  have M26 : Mk K C_Sender f26 := ⟨mk_Sender, a26, i26, kc_Sender⟩
  rw [← e_Sender] at K_Sender g_Sender
  rw [← e_Sender] at M7
  rw [← e_Sender] at M8
  rw [← e_Sender] at M9
  rw [← e_Sender] at M19
  rw [← e_Sender] at M22
  rw [← e_Sender] at M26
  have m_ValueError := PySem.W.mg_none_of X G z_ValueError
  have m_all := PySem.W.mg_none_of X G z_all
  have m_bool := PySem.W.mg_none_of X G z_bool
  have m_enumerate := PySem.W.mg_none_of X G z_enumerate
  have m_int := PySem.W.mg_none_of X G z_int
  have m_isinstance := PySem.W.mg_none_of X G z_isinstance
  have m_len := PySem.W.mg_none_of X G z_len
  have m_list := PySem.W.mg_none_of X G z_list
  have m_max := PySem.W.mg_none_of X G z_max
  have m_ord := PySem.W.mg_none_of X G z_ord
  have m_range := PySem.W.mg_none_of X G z_range
  have m_str := PySem.W.mg_none_of X G z_str
  have c_ACK : GlobR mg "ACK" (rS k_ACK) := ⟨.str "ack", _, PySem.W.mg_of X G y_ACK, ⟨_, rfl⟩, fun _ => (show V.str "ack" = V.str (SX.S k_ACK) from congrArg V.str (by decide +kernel))⟩
  have c_DIGITS : GlobR mg "DIGITS" (rS k_DIGITS) := ⟨.str "0123456789", _, PySem.W.mg_of X G y_DIGITS, ⟨_, rfl⟩, fun _ => (show V.str "0123456789" = V.str (SX.S k_DIGITS) from congrArg V.str (by decide +kernel))⟩
  have c_LETTERS : GlobR mg "LETTERS" (rS k_LETTERS) := ⟨.str "abcdefghijklmnopqrstuvwxyz", _, PySem.W.mg_of X G y_LETTERS, ⟨_, rfl⟩, fun _ => (show V.str "abcdefghijklmnopqrstuvwxyz" = V.str (SX.S k_LETTERS) from congrArg V.str (by decide +kernel))⟩
  have c_MODULUS : GlobR mg "MODULUS" (rI 9973) := ⟨.int 9973, _, PySem.W.mg_of X G y_MODULUS, ⟨_, rfl⟩, fun _ => rfl⟩
  have c_MOST_FIELDS : GlobR mg "MOST_FIELDS" (rI 8) := ⟨.int 8, _, PySem.W.mg_of X G y_MOST_FIELDS, ⟨_, rfl⟩, fun _ => rfl⟩
  have c_MOST_NUMBER : GlobR mg "MOST_NUMBER" (rI 999999) := ⟨.int 999999, _, PySem.W.mg_of X G y_MOST_NUMBER, ⟨_, rfl⟩, fun _ => rfl⟩
  have c_MOST_SIGNS : GlobR mg "MOST_SIGNS" (rI 40) := ⟨.int 40, _, PySem.W.mg_of X G y_MOST_SIGNS, ⟨_, rfl⟩, fun _ => rfl⟩
  let adr : _root_.Fin 7 → Addr := fun i => match i with | 0 => e0 | 1 => e1 | 2 => e2 | 3 => e3 | 4 => e4 | 5 => e5 | 6 => e6
  have Er : Errs K mg nm_ adr eB := ⟨fun i => match i with | 0 => ⟨ex0, PySem.W.mg_of X G ea0, ek0, eb0, et0, ⟨eg0, eh0, eb0, ed0, ec0, eN, eT, em0⟩, PySem.W.exm_ref bB1 bB2 bB3 ey0⟩ | 1 => ⟨ex1, PySem.W.mg_of X G ea1, ek1, eb1, et1, ⟨eg1, eh1, eb1, ed1, ec1, eN, eT, em1⟩, PySem.W.exm_ref bB1 bB2 bB3 ey1⟩ | 2 => ⟨ex2, PySem.W.mg_of X G ea2, ek2, eb2, et2, ⟨eg2, eh2, eb2, ed2, ec2, eN, eT, em2⟩, PySem.W.exm_ref bB1 bB2 bB3 ey2⟩ | 3 => ⟨ex3, PySem.W.mg_of X G ea3, ek3, eb3, et3, ⟨eg3, eh3, eb3, ed3, ec3, eN, eT, em3⟩, PySem.W.exm_ref bB1 bB2 bB3 ey3⟩ | 4 => ⟨ex4, PySem.W.mg_of X G ea4, ek4, eb4, et4, ⟨eg4, eh4, eb4, ed4, ec4, eN, eT, em4⟩, PySem.W.exm_ref bB1 bB2 bB3 ey4⟩ | 5 => ⟨ex5, PySem.W.mg_of X G ea5, ek5, eb5, et5, ⟨eg5, eh5, eb5, ed5, ec5, eN, eT, em5⟩, PySem.W.exm_ref bB1 bB2 bB3 ey5⟩ | 6 => ⟨ex6, PySem.W.mg_of X G ea6, ek6, eb6, et6, ⟨eg6, eh6, eb6, ed6, ec6, eN, eT, em6⟩, PySem.W.exm_ref bB1 bB2 bB3 ey6⟩, fun i j => match i, j with | 0, 0 => kit_ref ed0 et0 eq0_0 eq0_0 | 0, 1 => kit_ref ed1 et1 eq0_1 eq1_1 | 0, 2 => kit_ref ed2 et2 eq0_2 eq2_2 | 0, 3 => kit_ref ed3 et3 eq0_3 eq3_3 | 0, 4 => kit_ref ed4 et4 eq0_4 eq4_4 | 0, 5 => kit_ref ed5 et5 eq0_5 eq5_5 | 0, 6 => kit_ref ed6 et6 eq0_6 eq6_6 | 1, 0 => kit_ref ed0 et0 eq1_0 eq0_0 | 1, 1 => kit_ref ed1 et1 eq1_1 eq1_1 | 1, 2 => kit_ref ed2 et2 eq1_2 eq2_2 | 1, 3 => kit_ref ed3 et3 eq1_3 eq3_3 | 1, 4 => kit_ref ed4 et4 eq1_4 eq4_4 | 1, 5 => kit_ref ed5 et5 eq1_5 eq5_5 | 1, 6 => kit_ref ed6 et6 eq1_6 eq6_6 | 2, 0 => kit_ref ed0 et0 eq2_0 eq0_0 | 2, 1 => kit_ref ed1 et1 eq2_1 eq1_1 | 2, 2 => kit_ref ed2 et2 eq2_2 eq2_2 | 2, 3 => kit_ref ed3 et3 eq2_3 eq3_3 | 2, 4 => kit_ref ed4 et4 eq2_4 eq4_4 | 2, 5 => kit_ref ed5 et5 eq2_5 eq5_5 | 2, 6 => kit_ref ed6 et6 eq2_6 eq6_6 | 3, 0 => kit_ref ed0 et0 eq3_0 eq0_0 | 3, 1 => kit_ref ed1 et1 eq3_1 eq1_1 | 3, 2 => kit_ref ed2 et2 eq3_2 eq2_2 | 3, 3 => kit_ref ed3 et3 eq3_3 eq3_3 | 3, 4 => kit_ref ed4 et4 eq3_4 eq4_4 | 3, 5 => kit_ref ed5 et5 eq3_5 eq5_5 | 3, 6 => kit_ref ed6 et6 eq3_6 eq6_6 | 4, 0 => kit_ref ed0 et0 eq4_0 eq0_0 | 4, 1 => kit_ref ed1 et1 eq4_1 eq1_1 | 4, 2 => kit_ref ed2 et2 eq4_2 eq2_2 | 4, 3 => kit_ref ed3 et3 eq4_3 eq3_3 | 4, 4 => kit_ref ed4 et4 eq4_4 eq4_4 | 4, 5 => kit_ref ed5 et5 eq4_5 eq5_5 | 4, 6 => kit_ref ed6 et6 eq4_6 eq6_6 | 5, 0 => kit_ref ed0 et0 eq5_0 eq0_0 | 5, 1 => kit_ref ed1 et1 eq5_1 eq1_1 | 5, 2 => kit_ref ed2 et2 eq5_2 eq2_2 | 5, 3 => kit_ref ed3 et3 eq5_3 eq3_3 | 5, 4 => kit_ref ed4 et4 eq5_4 eq4_4 | 5, 5 => kit_ref ed5 et5 eq5_5 eq5_5 | 5, 6 => kit_ref ed6 et6 eq5_6 eq6_6 | 6, 0 => kit_ref ed0 et0 eq6_0 eq0_0 | 6, 1 => kit_ref ed1 et1 eq6_1 eq1_1 | 6, 2 => kit_ref ed2 et2 eq6_2 eq2_2 | 6, 3 => kit_ref ed3 et3 eq6_3 eq3_3 | 6, 4 => kit_ref ed4 et4 eq6_4 eq4_4 | 6, 5 => kit_ref ed5 et5 eq6_5 eq5_5 | 6, 6 => kit_ref ed6 et6 eq6_6 eq6_6, PySem.W.mg_of X G bB⟩
  have O_law_pick := fun base : Heap => ok_law_pick (P := l.prog) (w := w) (base := base) F1 b1 g1 Er m_int
  have O_law_name := fun base : Heap => ok_law_name (P := l.prog) (w := w) (base := base) F2 b2 g2 Er m_range (O_law_pick base)
  have O_law_two_names := fun base : Heap => ok_law_two_names (P := l.prog) (w := w) (base := base) F3 b3 g3 Er (O_law_name base)
  have O_law_source := fun base : Heap => ok_law_source (P := l.prog) (w := w) (base := base) F4 b4 g4 Er m_int
  have O_law_cell := fun base : Heap => ok_law_cell (P := l.prog) (w := w) (base := base) F5 b5 g5 Er m_len
  have O_law_is_number := fun base : Heap => ok_law_is_number (P := l.prog) (w := w) (base := base) F6 b6 g6 Er m_bool m_int m_isinstance
  have O_Sender_waiting := fun base : Heap => ok_Sender_waiting (P := l.prog) (w := w) (base := base) F7 b7 M7 Er K_Sender m_list
  have O_Sender_sent := fun base : Heap => ok_Sender_sent (P := l.prog) (w := w) (base := base) F8 b8 M8 Er K_Sender
  have O_Sender_acknowledged := fun base : Heap => ok_Sender_acknowledged (P := l.prog) (w := w) (base := base) F9 b9 M9 Er K_Sender
  have O_law_agrees := fun base : Heap => ok_law_agrees (P := l.prog) (w := w) (base := base) F10 b10 g10 Er K_Sender m_isinstance m_len m_list (O_Sender_acknowledged base) (O_Sender_sent base) (O_Sender_waiting base) (O_law_is_number base)
  have O_law_kind := fun base : Heap => ok_law_kind (P := l.prog) (w := w) (base := base) F11 b11 g11 Er (O_law_name base) (O_law_pick base)
  have O_law_text := fun base : Heap => ok_law_text (P := l.prog) (w := w) (base := base) F12 b12 g12 Er m_len m_range (O_law_pick base)
  have O_law_check := fun base : Heap => ok_law_check (P := l.prog) (w := w) (base := base) F13 b13 g13 Er m_int m_len m_ord m_range m_str
  have O_law_written := fun base : Heap => ok_law_written (P := l.prog) (w := w) (base := base) F14 b14 g14 Er (O_law_check base)
  have O_check_number := fun base : Heap => ok_check_number (P := l.prog) (w := w) (base := base) F15 b15 g15 Er c_MODULUS m_enumerate m_ord m_str
  have O_is_name := fun base : Heap => ok_is_name (P := l.prog) (w := w) (base := base) F16 b16 g16 Er m_all c_DIGITS c_LETTERS m_len
  have O_is_field := fun base : Heap => ok_is_field (P := l.prog) (w := w) (base := base) F17 b17 g17 Er c_MOST_SIGNS m_len
  have O_write_letter := fun base : Heap => ok_write_letter (P := l.prog) (w := w) (base := base) F18 b18 g18 Er c_MOST_FIELDS c_MOST_NUMBER m_len m_str (O_check_number base) (O_is_field base) (O_is_name base)
  have O_Sender_dispatch := fun base : Heap => ok_Sender_dispatch (P := l.prog) (w := w) (base := base) F19 b19 M19 Er K_Sender c_ACK (O_write_letter base)
  have O_law_dispatched := fun base : Heap => ok_law_dispatched (P := l.prog) (w := w) (base := base) F20 b20 g20 Er K_Sender m_isinstance m_len m_list m_range m_str (O_Sender_dispatch base) (O_law_kind base) (O_law_pick base) (O_law_text base) (O_law_written base)
  have O_law_errors := fun base : Heap => ok_law_errors (P := l.prog) (w := w) (base := base) F21 b21 g21 Er m_ValueError m_isinstance
  have O_Sender_acknowledge := fun base : Heap => ok_Sender_acknowledge (P := l.prog) (w := w) (base := base) F22 b22 M22 Er K_Sender
  have O_law_acknowledged := fun base : Heap => ok_law_acknowledged (P := l.prog) (w := w) (base := base) F23 b23 g23 Er K_Sender m_len m_max (O_Sender_acknowledge base) (O_law_errors base) (O_law_pick base)
  have O_law_bad_name := fun base : Heap => ok_law_bad_name (P := l.prog) (w := w) (base := base) F24 b24 g24 Er m_len (O_law_name base) (O_law_pick base)
  have O_law_wrong := fun base : Heap => ok_law_wrong (P := l.prog) (w := w) (base := base) F25 b25 g25 Er K_Sender (O_Sender_dispatch base) (O_law_bad_name base) (O_law_errors base) (O_law_pick base) (O_law_text base)
  have O_Sender___init__ := fun base : Heap => ok_Sender___init__ (P := l.prog) (w := w) (base := base) F26 b26 M26 Er K_Sender
  exact ⟨PySem.W.fnOf "law" "law" (defArgs s_law) (defBody s_law) (defScope s_law) .none kV27 dc27 pm27 an27 cd27 ct27, fun s v => .of_eq rfl, fun base _ _ => ok_law F27 b27 g27 Er K_Sender m_len g_Sender m_range (O_Sender___init__ base) (O_Sender_waiting base) (O_law_acknowledged base) (O_law_agrees base) (O_law_cell base) (O_law_dispatched base) (O_law_pick base) (O_law_source base) (O_law_two_names base) (O_law_wrong base)⟩
theorem walk {l : PySem.W.OpenLaw} {q : Program} {loose : List Str} {XP : (Str → Option Value) → Heap → Prop} {YP : World → Heap → Prop} {d : DefRec} {K : Params → PySem.W.Frag} (hn : l.most = some 63) (hdf : d.params.defaults = [])
    (hY : ∀ (w : World) (h : Heap), YP w h → (K w.params).In h)
    (F : ∀ (w : World) (mg : Str → Option Value) (fa : Addr) (h : Heap), (K w.params).In h → h.Ns mainGlobals mg → mg d.name = some (.ref fa) →
      ∃ fd : FuncData, (∀ (s : Shared) (u : Value), BindsTo s fd ⟨[u], []⟩ [("_law_script", u)]) ∧ ∀ base : Heap, (K w.params).In base → base.Ns mainGlobals mg → FnOk l.prog w (K w.params) mg base CX0 5 fa fd ["_law_script"] (sp_law (K w.params))) :
    PySem.W.WalkO q loose XP YP l.row.toRowW d [] (fun f vs => PySem.call f vs) :=
  L2.walk_of (n := 63) (k := 5) (x := "_law_script") (CX := fun _ => CX0) (sp := fun w => sp_law (K w.params)) hn (by decide) hdf ⟨rfl, by decide, by decide⟩ hY F
    (fun w H a ns hl _ hS => ⟨ns, H, [], Desc.refl H, ⟨.ref a, rfl, ⟨a, ns.map V.int, rfl, hS, Rs.of_map (fun _ => rfl) ns⟩, hl⟩, fun v _ _ _ _ hv => hv.trans (congrArg V.bl (law_true ns))⟩) fun _ _ _ _ _ z => z
end Ck28
open PySem PySem.W PyProof.Rows in
set_option maxRecDepth 100000 in
set_option maxHeartbeats 0 in
theorem PySem.Challenge.cw_corebank_k28_sender_holds : PySem.Challenge.rw_corebank_k28_sender.Holds := by
  w_on; o_law; k_head; (case hw => w_witness2)
  k_fill
  refine Ck28.walk (l := PySem.Challenge.rw_corebank_k28_sender) rfl rfl (fun w h Y => PySem.W.kIn_of Y) ?F
  case F =>
    intro w mg fa h KX G hmg
    refine' Ck28.all_mk KX G hmg ?a1 ?l1 ?c1 ?k1 ?a2 ?l2 ?c2 ?k2 ?a3 ?l3 ?c3 ?k3 ?a4 ?l4 ?c4 ?k4 ?a5 ?l5 ?c5 ?k5 ?a6 ?l6 ?c6 ?k6 ?a7 ?i7 ?l7 ?c7 ?k7 ?a8 ?i8 ?l8 ?c8 ?k8 ?a9 ?i9 ?l9 ?c9 ?k9 ?a10 ?l10 ?c10 ?k10 ?a11 ?l11 ?c11 ?k11 ?a12 ?l12 ?c12 ?k12 ?a13 ?l13 ?c13 ?k13 ?a14 ?l14 ?c14 ?k14 ?a15 ?l15 ?c15 ?k15 ?a16 ?l16 ?c16 ?k16 ?a17 ?l17 ?c17 ?k17 ?a18 ?l18 ?c18 ?k18 ?a19 ?i19 ?l19 ?c19 ?k19 ?a20 ?l20 ?c20 ?k20 ?a21 ?l21 ?c21 ?k21 ?a22 ?i22 ?l22 ?c22 ?k22 ?a23 ?l23 ?c23 ?k23 ?a24 ?l24 ?c24 ?k24 ?a25 ?l25 ?c25 ?k25 ?a26 ?i26 ?l26 ?c26 ?k26 ?a27 ?l27 ?c27 ?k27 ?aC_Sender ?pg_Sender ?hd_Sender ?po_Sender ?sa_Sender ?mk_Sender ?kc_Sender ?na_Sender_me ?na_Sender_other ?na_Sender_last ?na_Sender_dropped ?na_Sender_kept ?z_ValueError ?z_all ?z_bool ?z_enumerate ?z_int ?z_isinstance ?z_len ?z_list ?z_max ?z_ord ?z_range ?z_str ?y_ACK ?y_DIGITS ?y_LETTERS ?y_MODULUS ?y_MOST_FIELDS ?y_MOST_NUMBER ?y_MOST_SIGNS ?bB ?bB1 ?bB2 ?bB3 ?ea0 ?ex0 ?ek0 ?eb0 ?et0 ?eg0 ?eh0 ?ed0 ?ec0 ?em0 ?ey0 ?eq0_0 ?eq0_1 ?eq0_2 ?eq0_3 ?eq0_4 ?eq0_5 ?eq0_6 ?ea1 ?ex1 ?ek1 ?eb1 ?et1 ?eg1 ?eh1 ?ed1 ?ec1 ?em1 ?ey1 ?eq1_0 ?eq1_1 ?eq1_2 ?eq1_3 ?eq1_4 ?eq1_5 ?eq1_6 ?ea2 ?ex2 ?ek2 ?eb2 ?et2 ?eg2 ?eh2 ?ed2 ?ec2 ?em2 ?ey2 ?eq2_0 ?eq2_1 ?eq2_2 ?eq2_3 ?eq2_4 ?eq2_5 ?eq2_6 ?ea3 ?ex3 ?ek3 ?eb3 ?et3 ?eg3 ?eh3 ?ed3 ?ec3 ?em3 ?ey3 ?eq3_0 ?eq3_1 ?eq3_2 ?eq3_3 ?eq3_4 ?eq3_5 ?eq3_6 ?ea4 ?ex4 ?ek4 ?eb4 ?et4 ?eg4 ?eh4 ?ed4 ?ec4 ?em4 ?ey4 ?eq4_0 ?eq4_1 ?eq4_2 ?eq4_3 ?eq4_4 ?eq4_5 ?eq4_6 ?ea5 ?ex5 ?ek5 ?eb5 ?et5 ?eg5 ?eh5 ?ed5 ?ec5 ?em5 ?ey5 ?eq5_0 ?eq5_1 ?eq5_2 ?eq5_3 ?eq5_4 ?eq5_5 ?eq5_6 ?ea6 ?ex6 ?ek6 ?eb6 ?et6 ?eg6 ?eh6 ?ed6 ?ec6 ?em6 ?ey6 ?eq6_0 ?eq6_1 ?eq6_2 ?eq6_3 ?eq6_4 ?eq6_5 ?eq6_6 ?eN ?eT
    (case aC_Sender => k_is)
    (case a1 => k_is)
    (case l1 => k_is)
    (case c1 => k_is)
    (case k1 => k_is)
    (case a2 => k_is)
    (case l2 => k_is)
    (case c2 => k_is)
    (case k2 => k_is)
    (case a3 => k_is)
    (case l3 => k_is)
    (case c3 => k_is)
    (case k3 => k_is)
    (case a4 => k_is)
    (case l4 => k_is)
    (case c4 => k_is)
    (case k4 => k_is)
    (case a5 => k_is)
    (case l5 => k_is)
    (case c5 => k_is)
    (case k5 => k_is)
    (case a6 => k_is)
    (case l6 => k_is)
    (case c6 => k_is)
    (case k6 => k_is)
    (case a7 => k_is)
    (case i7 => k_is)
    (case l7 => k_is)
    (case c7 => k_is)
    (case k7 => k_is)
    (case a8 => k_is)
    (case i8 => k_is)
    (case l8 => k_is)
    (case c8 => k_is)
    (case k8 => k_is)
    (case a9 => k_is)
    (case i9 => k_is)
    (case l9 => k_is)
    (case c9 => k_is)
    (case k9 => k_is)
    (case a10 => k_is)
    (case l10 => k_is)
    (case c10 => k_is)
    (case k10 => k_is)
    (case a11 => k_is)
    (case l11 => k_is)
    (case c11 => k_is)
    (case k11 => k_is)
    (case a12 => k_is)
    (case l12 => k_is)
    (case c12 => k_is)
    (case k12 => k_is)
    (case a13 => k_is)
    (case l13 => k_is)
    (case c13 => k_is)
    (case k13 => k_is)
    (case a14 => k_is)
    (case l14 => k_is)
    (case c14 => k_is)
    (case k14 => k_is)
    (case a15 => k_is)
    (case l15 => k_is)
    (case c15 => k_is)
    (case k15 => k_is)
    (case a16 => k_is)
    (case l16 => k_is)
    (case c16 => k_is)
    (case k16 => k_is)
    (case a17 => k_is)
    (case l17 => k_is)
    (case c17 => k_is)
    (case k17 => k_is)
    (case a18 => k_is)
    (case l18 => k_is)
    (case c18 => k_is)
    (case k18 => k_is)
    (case a19 => k_is)
    (case i19 => k_is)
    (case l19 => k_is)
    (case c19 => k_is)
    (case k19 => k_is)
    (case a20 => k_is)
    (case l20 => k_is)
    (case c20 => k_is)
    (case k20 => k_is)
    (case a21 => k_is)
    (case l21 => k_is)
    (case c21 => k_is)
    (case k21 => k_is)
    (case a22 => k_is)
    (case i22 => k_is)
    (case l22 => k_is)
    (case c22 => k_is)
    (case k22 => k_is)
    (case a23 => k_is)
    (case l23 => k_is)
    (case c23 => k_is)
    (case k23 => k_is)
    (case a24 => k_is)
    (case l24 => k_is)
    (case c24 => k_is)
    (case k24 => k_is)
    (case a25 => k_is)
    (case l25 => k_is)
    (case c25 => k_is)
    (case k25 => k_is)
    (case a26 => k_is)
    (case i26 => k_is)
    (case l26 => k_is)
    (case c26 => k_is)
    (case k26 => k_is)
    (case a27 => k_is)
    (case l27 => k_is)
    (case c27 => k_is)
    (case k27 => k_is)
    (case pg_Sender => k_is)
    (case hd_Sender => k_is)
    (case po_Sender => k_is)
    (case sa_Sender => k_is)
    (case mk_Sender => k_is)
    (case kc_Sender => k_is)
    (case na_Sender_me => k_is)
    (case na_Sender_other => k_is)
    (case na_Sender_last => k_is)
    (case na_Sender_dropped => k_is)
    (case na_Sender_kept => k_is)
    (case z_ValueError => k_is)
    (case z_all => k_is)
    (case z_bool => k_is)
    (case z_enumerate => k_is)
    (case z_int => k_is)
    (case z_isinstance => k_is)
    (case z_len => k_is)
    (case z_list => k_is)
    (case z_max => k_is)
    (case z_ord => k_is)
    (case z_range => k_is)
    (case z_str => k_is)
    (case y_ACK => k_is)
    (case y_DIGITS => k_is)
    (case y_LETTERS => k_is)
    (case y_MODULUS => k_is)
    (case y_MOST_FIELDS => k_is)
    (case y_MOST_NUMBER => k_is)
    (case y_MOST_SIGNS => k_is)
    (case bB => k_is)
    (case bB1 => k_is)
    (case bB2 => k_is)
    (case bB3 => k_is)
    (case ea0 => k_is)
    (case ex0 => k_exc)
    (case ek0 => k_is)
    (case eb0 => k_is)
    (case et0 => k_is)
    (case eg0 => k_is)
    (case eh0 => k_is)
    (case ed0 => k_is)
    (case ec0 => k_is)
    (case em0 => k_is)
    (case ey0 => k_is)
    (case ea1 => k_is)
    (case ex1 => k_exc)
    (case ek1 => k_is)
    (case eb1 => k_is)
    (case et1 => k_is)
    (case eg1 => k_is)
    (case eh1 => k_is)
    (case ed1 => k_is)
    (case ec1 => k_is)
    (case em1 => k_is)
    (case ey1 => k_is)
    (case ea2 => k_is)
    (case ex2 => k_exc)
    (case ek2 => k_is)
    (case eb2 => k_is)
    (case et2 => k_is)
    (case eg2 => k_is)
    (case eh2 => k_is)
    (case ed2 => k_is)
    (case ec2 => k_is)
    (case em2 => k_is)
    (case ey2 => k_is)
    (case ea3 => k_is)
    (case ex3 => k_exc)
    (case ek3 => k_is)
    (case eb3 => k_is)
    (case et3 => k_is)
    (case eg3 => k_is)
    (case eh3 => k_is)
    (case ed3 => k_is)
    (case ec3 => k_is)
    (case em3 => k_is)
    (case ey3 => k_is)
    (case ea4 => k_is)
    (case ex4 => k_exc)
    (case ek4 => k_is)
    (case eb4 => k_is)
    (case et4 => k_is)
    (case eg4 => k_is)
    (case eh4 => k_is)
    (case ed4 => k_is)
    (case ec4 => k_is)
    (case em4 => k_is)
    (case ey4 => k_is)
    (case ea5 => k_is)
    (case ex5 => k_exc)
    (case ek5 => k_is)
    (case eb5 => k_is)
    (case et5 => k_is)
    (case eg5 => k_is)
    (case eh5 => k_is)
    (case ed5 => k_is)
    (case ec5 => k_is)
    (case em5 => k_is)
    (case ey5 => k_is)
    (case ea6 => k_is)
    (case ex6 => k_exc)
    (case ek6 => k_is)
    (case eb6 => k_is)
    (case et6 => k_is)
    (case eg6 => k_is)
    (case eh6 => k_is)
    (case ed6 => k_is)
    (case ec6 => k_is)
    (case em6 => k_is)
    (case ey6 => k_is)
    (case eN => k_is)
    (case eT => k_is)
    (case eq0_0 => first | rfl | k_is)
    (case eq0_1 => first | rfl | k_is)
    (case eq0_2 => first | rfl | k_is)
    (case eq0_3 => first | rfl | k_is)
    (case eq0_4 => first | rfl | k_is)
    (case eq0_5 => first | rfl | k_is)
    (case eq0_6 => first | rfl | k_is)
    (case eq1_0 => first | rfl | k_is)
    (case eq1_1 => first | rfl | k_is)
    (case eq1_2 => first | rfl | k_is)
    (case eq1_3 => first | rfl | k_is)
    (case eq1_4 => first | rfl | k_is)
    (case eq1_5 => first | rfl | k_is)
    (case eq1_6 => first | rfl | k_is)
    (case eq2_0 => first | rfl | k_is)
    (case eq2_1 => first | rfl | k_is)
    (case eq2_2 => first | rfl | k_is)
    (case eq2_3 => first | rfl | k_is)
    (case eq2_4 => first | rfl | k_is)
    (case eq2_5 => first | rfl | k_is)
    (case eq2_6 => first | rfl | k_is)
    (case eq3_0 => first | rfl | k_is)
    (case eq3_1 => first | rfl | k_is)
    (case eq3_2 => first | rfl | k_is)
    (case eq3_3 => first | rfl | k_is)
    (case eq3_4 => first | rfl | k_is)
    (case eq3_5 => first | rfl | k_is)
    (case eq3_6 => first | rfl | k_is)
    (case eq4_0 => first | rfl | k_is)
    (case eq4_1 => first | rfl | k_is)
    (case eq4_2 => first | rfl | k_is)
    (case eq4_3 => first | rfl | k_is)
    (case eq4_4 => first | rfl | k_is)
    (case eq4_5 => first | rfl | k_is)
    (case eq4_6 => first | rfl | k_is)
    (case eq5_0 => first | rfl | k_is)
    (case eq5_1 => first | rfl | k_is)
    (case eq5_2 => first | rfl | k_is)
    (case eq5_3 => first | rfl | k_is)
    (case eq5_4 => first | rfl | k_is)
    (case eq5_5 => first | rfl | k_is)
    (case eq5_6 => first | rfl | k_is)
    (case eq6_0 => first | rfl | k_is)
    (case eq6_1 => first | rfl | k_is)
    (case eq6_2 => first | rfl | k_is)
    (case eq6_3 => first | rfl | k_is)
    (case eq6_4 => first | rfl | k_is)
    (case eq6_5 => first | rfl | k_is)
    (case eq6_6 => first | rfl | k_is)

