import PyProof.Rows.All
import Wide.All
import OpenK.AllK
import Wide.FinOn
import HandS.ForMost
import HandS.ForExc
import HandS.Walk
import HandS.Codes
import HandS.Wide
import HandS.IsInst
import HandS.SortInts
import HandS.SortKw
import HandS.WordsExc
import HandS.ExcOwn
import HandS.TryOnly
import HandS.HotCalls
import HandS.ExcIs
import KE.KIsAll
import HandS.TupLe
import HandS.Text
import KE.DataCmp
import HandS.TupAny
import HandS.StrMore
import HandS.Conv
import PyProof.Rows.StrPadFill
import PyProof.StrOps2
import PySem.Challenge.RW_corebank_k03_whole_parse
set_option Elab.async false
set_option linter.all false
set_option maxRecDepth 100000
set_option maxHeartbeats 4000000
set_option Elab.async false
/-! J: a layer of our own over the hand layer. The abstract heap is split: G, what never changes any more; cs, the cells that may still change, one after another. -/
namespace J
open PySem L2

/-! ### heaps in two parts -/
abbrev Cells := List (Addr × HO)
structure Desc (G : Hp) (cs : Cells) (H : Hp) : Prop where
  same : Same G H
  nd : (cs.map Prod.fst).Nodup
  cell : ∀ c ∈ cs, H c.1 = some c.2 ∧ G c.1 = none
theorem Desc.at_ {G H : Hp} {cs : Cells} (d : Desc G cs H) {a : Addr} {o : HO} (h : (a, o) ∈ cs) : H a = some o := (d.cell _ h).1
theorem Desc.new {G H : Hp} {cs : Cells} (d : Desc G cs H) {p : Addr} (hp : H p = none) (o : HO) : Desc (upd G p o) cs (upd H p o) := by
  refine ⟨fun a u e => ?_, d.nd, fun c hc => ?_⟩
  · by_cases h : a = p
    · subst h
      rw [upd_same] at e
      rw [upd_same]
      exact e
    · rw [upd_ne h] at e
      rw [upd_ne h]
      exact d.same a u e
  · obtain ⟨h1, h2⟩ := d.cell c hc
    have ne : c.1 ≠ p := ne_of_none h1 hp
    rw [upd_ne ne, upd_ne ne]
    exact ⟨h1, h2⟩
theorem Same.fresh {G H : Hp} (s : Same G H) {p : Addr} (hp : H p = none) (o : HO) : Same G (upd G p o) := fun a u e => by
  have ne : a ≠ p := fun z => by
    subst z
    rw [s a u e] at hp
    cases hp
  rw [upd_ne ne]
  exact e
theorem Desc.newCell {G H : Hp} {cs : Cells} (d : Desc G cs H) {p : Addr} (hp : H p = none) (o : HO) : Desc G ((p, o) :: cs) (upd H p o) := by
  refine ⟨fun a u e => ?_, ?_, fun c hc => ?_⟩
  · have ne : a ≠ p := ne_of_none (d.same a u e) hp
    rw [upd_ne ne]
    exact d.same a u e
  · refine List.nodup_cons.mpr ⟨fun hm => ?_, d.nd⟩
    obtain ⟨c, hc, e⟩ := List.mem_map.mp hm
    have e2 : c.1 = p := e
    have q := (d.cell c hc).1
    rw [e2, hp] at q
    cases q
  · rcases List.mem_cons.mp hc with e | hc
    · subst e
      exact ⟨upd_same, d.same.free hp⟩
    · obtain ⟨h1, h2⟩ := d.cell c hc
      have ne : c.1 ≠ p := ne_of_none h1 hp
      rw [upd_ne ne]
      exact ⟨h1, h2⟩
theorem nd_of_set {cs : Cells} {k : Nat} {a : Addr} {o o' : HO} (h : cs[k]? = some (a, o)) : (cs.set k (a, o')).map Prod.fst = cs.map Prod.fst := by
  induction cs generalizing k with
  | nil => cases k <;> rfl
  | cons c cs ih =>
    cases k with
    | zero =>
      have e : c = (a, o) := Option.some.inj h
      subst e
      rfl
    | succ k =>
      show c.1 :: (cs.set k (a, o')).map Prod.fst = c.1 :: cs.map Prod.fst
      rw [ih (k := k) h]
theorem mem_set_cases {cs : Cells} {k : Nat} {a : Addr} {o o' : HO} (nd : (cs.map Prod.fst).Nodup) (h : cs[k]? = some (a, o)) {c : Addr × HO} (hc : c ∈ cs.set k (a, o')) : c = (a, o') ∨ (c ∈ cs ∧ c.1 ≠ a) := by
  induction cs generalizing k with
  | nil => cases k <;> cases h
  | cons d cs ih =>
    have nd1 : d.1 ∉ cs.map Prod.fst := (List.nodup_cons.mp nd).1
    have nd2 : (cs.map Prod.fst).Nodup := (List.nodup_cons.mp nd).2
    cases k with
    | zero =>
      have e : d = (a, o) := Option.some.inj h
      subst e
      rcases List.mem_cons.mp hc with e | hc
      · exact .inl e
      · refine .inr ⟨List.mem_cons_of_mem _ hc, fun z => nd1 ?_⟩
        show a ∈ cs.map Prod.fst
        rw [← z]
        exact List.mem_map.mpr ⟨c, hc, rfl⟩
    | succ k =>
      have hm : (a, o) ∈ cs := List.mem_of_getElem? (i := k) h
      rcases List.mem_cons.mp hc with e | hc
      · refine .inr ⟨List.mem_cons.mpr (.inl e), fun z => nd1 ?_⟩
        rw [e] at z
        rw [z]
        exact List.mem_map.mpr ⟨(a, o), hm, rfl⟩
      · rcases ih nd2 (k := k) h hc with e | ⟨h1, h2⟩
        · exact .inl e
        · exact .inr ⟨List.mem_cons_of_mem _ h1, h2⟩
theorem Desc.write {G H : Hp} {cs : Cells} (d : Desc G cs H) {k : Nat} {a : Addr} {o : HO} (h : cs[k]? = some (a, o)) (o' : HO) : Desc G (cs.set k (a, o')) (upd H a o') := by
  have hm : (a, o) ∈ cs := List.mem_of_getElem? h
  obtain ⟨ha, hg⟩ := d.cell _ hm
  refine ⟨fun b u e => ?_, ?_, fun c hc => ?_⟩
  · have ne : b ≠ a := fun z => by
      subst z
      rw [hg] at e
      cases e
    rw [upd_ne ne]
    exact d.same b u e
  · rw [nd_of_set h]
    exact d.nd
  · rcases mem_set_cases d.nd h hc with e | ⟨h1, h2⟩
    · subst e
      exact ⟨upd_same, hg⟩
    · rw [upd_ne h2]
      exact d.cell c h1
theorem Desc.freeze {G H : Hp} {cs : Cells} {a : Addr} {o : HO} (d : Desc G ((a, o) :: cs) H) : Same G (upd G a o) ∧ Desc (upd G a o) cs H := by
  obtain ⟨ha, hg⟩ := d.cell (a, o) List.mem_cons_self
  refine ⟨fun b u e => ?_, fun b u e => ?_, (List.nodup_cons.mp d.nd).2, fun c hc => ?_⟩
  · have ne : b ≠ a := fun z => by
      subst z
      rw [hg] at e
      cases e
    rw [upd_ne ne]
    exact e
  · by_cases z : b = a
    · subst z
      rw [upd_same] at e
      cases e
      exact ha
    · rw [upd_ne z] at e
      exact d.same b u e
  · obtain ⟨h1, h2⟩ := d.cell c (List.mem_cons_of_mem _ hc)
    have ne : c.1 ≠ a := fun z => (List.nodup_cons.mp d.nd).1 (by
      show a ∈ cs.map Prod.fst
      rw [← z]
      exact List.mem_map.mpr ⟨c, hc, rfl⟩)
    rw [upd_ne ne]
    exact ⟨h1, h2⟩
theorem Desc.forget {G H : Hp} {cs : Cells} {c : Addr × HO} (d : Desc G (c :: cs) H) : Desc G cs H :=
  ⟨d.same, (List.nodup_cons.mp d.nd).2, fun x hx => d.cell x (List.mem_cons_of_mem _ hx)⟩
theorem Desc.perm {G H : Hp} {cs cs' : Cells} (d : Desc G cs H) (p : cs.Perm cs') : Desc G cs' H :=
  ⟨d.same, (p.map Prod.fst).nodup_iff.mp d.nd, fun x hx => d.cell x (p.mem_iff.mpr hx)⟩
theorem Desc.refl (H : Hp) : Desc H [] H := ⟨Same.refl H, List.nodup_nil, fun _ h => nomatch h⟩
theorem seqT {K : PySem.W.Frag} {H H' : Hp} {a : Addr} {xs : List V} (e : Same H H') (h : SqT K H a xs) : SqT K H' a xs := by
  rcases h with (h | ⟨o, h⟩) | h
  · exact .inl (.inl (e _ _ h))
  · exact .inl (.inr ⟨o, e _ _ h⟩)
  · exact .inr h

/-! ### judgements by what the machine does -/
section
variable (X : Cx)
structure wE (e : Expr) (σ : L2.St) (H : Hp) (Q : VK) : Prop where
  run : ∀ pins s, Inv X pins σ H s → wpAny (model X.prog X.w) X.A (eval e X.env) (EP X pins σ Q) X.xe s
structure wT (e : Expr) (σ : L2.St) (H : Hp) (Q : Bool → Hp → Prop) : Prop where
  run : ∀ pins s, Inv X pins σ H s → wpAny (model X.prog X.w) X.A (isTrue e X.env (eval e X.env)) (TP X pins σ Q) X.xe s
structure wW (e : Expr) (σ : L2.St) (H : Hp) (Q : Bool → Hp → Prop) : Prop where
  run : ∀ (whole : Sem Value) pins s, Inv X pins σ H s → wpAny (model X.prog X.w) X.A (isTrue e X.env whole) (TP X pins σ Q) X.xe s
structure wA (es : List Expr) (σ : L2.St) (H : Hp) (Q : List V → Hp → Prop) : Prop where
  run : ∀ (pos : Pos) pins s, Inv X pins σ H s → wpAny (model X.prog X.w) X.A (spliced (backTo pos (starEach es X.env))) (AP X pins σ Q) X.xe s
structure wS (st : Stmt) (D : Ends) (σ : L2.St) (H : Hp) : Prop where
  run : ∀ pins s, Inv X pins σ H s → wpAny (model X.prog X.w) X.A (exec st X.env) (SP X pins D) X.xe s
structure wSs (st : List Stmt) (D : Ends) (σ : L2.St) (H : Hp) : Prop where
  run : ∀ pins s, Inv X pins σ H s → wpAny (model X.prog X.w) X.A (execs st X.env) (SP X pins D) X.xe s
theorem sE (e : Expr) : PE X e (wE X e) := ⟨fun pins s _ _ _ I h => h.run pins s I⟩
theorem sT (e : Expr) : PT X e (wT X e) := ⟨fun pins s _ _ _ I h => h.run pins s I⟩
theorem sW (e : Expr) : PW X e (wW X e) := ⟨fun whole pins s _ _ _ I h => h.run whole pins s I⟩
theorem sA (es : List Expr) : PA X es (wA X es) := ⟨fun pos pins s _ _ _ I h => h.run pos pins s I⟩
theorem sS (st : Stmt) : PS X st (wS X st) := ⟨fun pins s _ _ _ I h => h.run pins s I⟩
theorem sSs (st : List Stmt) : PSs X st (wSs X st) := ⟨fun pins s _ _ _ I h => h.run pins s I⟩
end
section
variable {X : Cx} {e : Expr} {es : List Expr} {st : Stmt} {sts : List Stmt} {σ : L2.St} {H : Hp}
theorem uE {t : TE} {Q : VK} (h : PE X e t) (q : t σ H Q) : wE X e σ H Q := ⟨fun pins s I => h.run pins s σ H Q I q⟩
theorem uT {t : TT} {Q : Bool → Hp → Prop} (h : PT X e t) (q : t σ H Q) : wT X e σ H Q := ⟨fun pins s I => h.run pins s σ H Q I q⟩
theorem uW {t : TT} {Q : Bool → Hp → Prop} (h : PW X e t) (q : t σ H Q) : wW X e σ H Q := ⟨fun whole pins s I => h.run whole pins s σ H Q I q⟩
theorem uA {t : TA} {Q : List V → Hp → Prop} (h : PA X es t) (q : t σ H Q) : wA X es σ H Q := ⟨fun pos pins s I => h.run pos pins s σ H Q I q⟩
theorem uS {t : TS} {D : Ends} (h : PS X st t) (q : t D σ H) : wS X st D σ H := ⟨fun pins s I => h.run pins s σ H D I q⟩
theorem uSs {t : TS} {D : Ends} (h : PSs X sts t) (q : t D σ H) : wSs X sts D σ H := ⟨fun pins s I => h.run pins s σ H D I q⟩
end

/-- e comes to a value that P tells of; what was frozen stays, no cell changes -/
def D (X : Cx) (e : Expr) (σ : L2.St) (G : Hp) (cs : Cells) (P : Hp → V → Prop) : Prop :=
  ∀ G1 H, Same G G1 → Desc G1 cs H → ∀ Q : VK, (∀ G2 H2 v, Same G1 G2 → Desc G2 cs H2 → P G2 v → Q v H2) → wE X e σ H Q
def T (X : Cx) (e : Expr) (σ : L2.St) (G : Hp) (cs : Cells) (b : Bool) : Prop :=
  ∀ G1 H, Same G G1 → Desc G1 cs H → ∀ Q : Bool → Hp → Prop, (∀ G2 H2, Same G1 G2 → Desc G2 cs H2 → Q b H2) → wT X e σ H Q
def TW (X : Cx) (e : Expr) (σ : L2.St) (G : Hp) (cs : Cells) (b : Bool) : Prop :=
  ∀ G1 H, Same G G1 → Desc G1 cs H → ∀ Q : Bool → Hp → Prop, (∀ G2 H2, Same G1 G2 → Desc G2 cs H2 → Q b H2) → wW X e σ H Q
def A (X : Cx) (es : List Expr) (σ : L2.St) (G : Hp) (cs : Cells) (P : Hp → List V → Prop) : Prop :=
  ∀ G1 H, Same G G1 → Desc G1 cs H → ∀ Q : List V → Hp → Prop, (∀ G2 H2 vs, Same G1 G2 → Desc G2 cs H2 → P G2 vs → Q vs H2) → wA X es σ H Q

class Mono (P : Hp → V → Prop) : Prop where
  mono : ∀ {G G' : Hp} {v : V}, Same G G' → P G v → P G' v
class MonoA (P : Hp → List V → Prop) : Prop where
  mono : ∀ {G G' : Hp} {v : List V}, Same G G' → P G v → P G' v

/-! ### what a value tells -/
def rI (i : Int) : Hp → V → Prop := fun _ v => v = .int i
def rB (b : Bool) : Hp → V → Prop := fun _ v => v = .bl b
def rS (l : List Nat) : Hp → V → Prop := fun _ v => v = .str (SX.S l)
def rN (_ : Unit) : Hp → V → Prop := fun _ v => v = .non
def rV (w : V) : Hp → V → Prop := fun _ v => v = w
def rO {α : Type} (r : α → Hp → V → Prop) : Option α → Hp → V → Prop
  | none => fun _ v => v = .non
  | some x => r x
def Rs {α : Type} (r : α → Hp → V → Prop) (G : Hp) : List α → List V → Prop := Paired fun x v => r x G v
def rL (K : PySem.W.Frag) {α : Type} (r : α → Hp → V → Prop) (xs : List α) : Hp → V → Prop := fun G v => ∃ a vs, v = .ref a ∧ SqL K G a vs ∧ Rs r G xs vs
/-- a list that may be read: frozen, or a cell -/
def rdL (K : PySem.W.Frag) (cs : Cells) {α : Type} (r : α → Hp → V → Prop) (xs : List α) : Hp → V → Prop := fun G v => ∃ a vs, v = .ref a ∧ (SqL K G a vs ∨ (a, .lst vs) ∈ cs) ∧ Rs r G xs vs
def rT (K : PySem.W.Frag) {α : Type} (r : α → Hp → List V → Prop) (x : α) : Hp → V → Prop := fun G v => ∃ a vs, v = .ref a ∧ SqT K G a vs ∧ r x G vs
/-- the places of a tuple -/
def c0 {α : Type} (r : α → Hp → V → Prop) (x : α) : Hp → List V → Prop := fun G vs => ∃ v, vs = [v] ∧ r x G v
def cc {α β : Type} (r : α → Hp → V → Prop) (r' : β → Hp → List V → Prop) (x : α × β) : Hp → List V → Prop := fun G vs => ∃ v ws, vs = v :: ws ∧ r x.1 G v ∧ r' x.2 G ws
theorem Rs.mono {α : Type} {r : α → Hp → V → Prop} [m : ∀ x, Mono (r x)] {G G' : Hp} (e : Same G G') : ∀ {xs : List α} {vs : List V}, Rs r G xs vs → Rs r G' xs vs
  | _, _, .nil => .nil
  | _, _, .cons h t => .cons ((m _).mono e h) (Rs.mono e t)
theorem Rs.length {α : Type} {r : α → Hp → V → Prop} {G : Hp} {xs : List α} {vs : List V} (h : Rs r G xs vs) : xs.length = vs.length := Paired.length h
theorem Rs.get {α : Type} {r : α → Hp → V → Prop} {G : Hp} : ∀ {xs : List α} {vs : List V} {i : Nat} {x : α}, Rs r G xs vs → xs[i]? = some x → ∃ v, vs[i]? = some v ∧ r x G v
  | _, _, _, _, .nil, e => by simp at e
  | _, _, 0, _, .cons h _, e => by
    simp at e
    subst e
    exact ⟨_, rfl, h⟩
  | _, _, i + 1, x, .cons _ t, e => by
    obtain ⟨v, h1, h2⟩ := Rs.get (i := i) (x := x) t (by simpa using e)
    exact ⟨v, by simpa using h1, h2⟩
theorem Rs.getV {α : Type} {r : α → Hp → V → Prop} {G : Hp} : ∀ {xs : List α} {vs : List V} {i : Nat} {v : V}, Rs r G xs vs → vs[i]? = some v → ∃ x, xs[i]? = some x ∧ r x G v
  | _, _, _, _, .nil, e => by simp at e
  | _, _, 0, _, .cons h _, e => by
    simp at e
    subst e
    exact ⟨_, rfl, h⟩
  | _, _, i + 1, x, .cons _ t, e => by
    obtain ⟨v, h1, h2⟩ := Rs.getV (i := i) (v := x) t (by simpa using e)
    exact ⟨v, by simpa using h1, h2⟩
theorem Rs.snoc {α : Type} {r : α → Hp → V → Prop} {G : Hp} {x : α} {v : V} (hx : r x G v) : ∀ {xs : List α} {vs : List V}, Rs r G xs vs → Rs r G (xs ++ [x]) (vs ++ [v])
  | _, _, .nil => .cons hx .nil
  | _, _, .cons h t => .cons h (Rs.snoc hx t)
theorem Rs.append {α : Type} {r : α → Hp → V → Prop} {G : Hp} {ys : List α} {ws : List V} (hy : Rs r G ys ws) : ∀ {xs : List α} {vs : List V}, Rs r G xs vs → Rs r G (xs ++ ys) (vs ++ ws)
  | _, _, .nil => hy
  | _, _, .cons h t => .cons h (Rs.append hy t)
theorem Rs.set {α : Type} {r : α → Hp → V → Prop} {G : Hp} {x : α} {v : V} (hx : r x G v) : ∀ {xs : List α} {vs : List V} (i : Nat), Rs r G xs vs → Rs r G (xs.set i x) (vs.set i v)
  | _, _, _, .nil => .nil
  | _, _, 0, .cons _ t => .cons hx t
  | _, _, i + 1, .cons h t => .cons h (Rs.set hx i t)
theorem Rs.take {α : Type} {r : α → Hp → V → Prop} {G : Hp} : ∀ {xs : List α} {vs : List V} (n : Nat), Rs r G xs vs → Rs r G (xs.take n) (vs.take n)
  | _, _, 0, _ => .nil
  | _, _, _ + 1, .nil => .nil
  | _, _, n + 1, .cons h t => .cons h (Rs.take n t)
theorem Rs.drop {α : Type} {r : α → Hp → V → Prop} {G : Hp} : ∀ {xs : List α} {vs : List V} (n : Nat), Rs r G xs vs → Rs r G (xs.drop n) (vs.drop n)
  | _, _, 0, h => h
  | _, _, _ + 1, .nil => .nil
  | _, _, n + 1, .cons _ t => Rs.drop n t
theorem Rs.map {α : Type} {r : α → Hp → V → Prop} {f : α → V} {G : Hp} (h : ∀ x v, r x G v → v = f x) : ∀ {xs : List α} {vs : List V}, Rs r G xs vs → vs = xs.map f
  | _, _, .nil => rfl
  | _, _, .cons p t => by
    rw [h _ _ p, Rs.map h t]
    rfl
theorem Rs.of_map {α : Type} {r : α → Hp → V → Prop} {f : α → V} {G : Hp} (h : ∀ x, r x G (f x)) : ∀ (xs : List α), Rs r G xs (xs.map f)
  | [] => .nil
  | x :: xs => .cons (h x) (Rs.of_map h xs)
instance (i : Int) : Mono (rI i) := ⟨fun _ h => h⟩
instance (b : Bool) : Mono (rB b) := ⟨fun _ h => h⟩
instance (l : List Nat) : Mono (rS l) := ⟨fun _ h => h⟩
instance (u : Unit) : Mono (rN u) := ⟨fun _ h => h⟩
instance (w : V) : Mono (rV w) := ⟨fun _ h => h⟩
instance {α : Type} (r : α → Hp → V → Prop) [m : ∀ x, Mono (r x)] (o : Option α) : Mono (rO r o) := by
  cases o with
  | none => exact ⟨fun _ h => h⟩
  | some x => exact m x
instance (K : PySem.W.Frag) {α : Type} (r : α → Hp → V → Prop) [m : ∀ x, Mono (r x)] (xs : List α) : Mono (rL K r xs) :=
  ⟨fun e ⟨a, vs, h1, h2, h3⟩ => ⟨a, vs, h1, e.seq h2, h3.mono e⟩⟩
instance (K : PySem.W.Frag) (cs : Cells) {α : Type} (r : α → Hp → V → Prop) [m : ∀ x, Mono (r x)] (xs : List α) : Mono (rdL K cs r xs) :=
  ⟨fun e ⟨a, vs, h1, h2, h3⟩ => ⟨a, vs, h1, h2.imp (e.seq) id, h3.mono e⟩⟩
instance (K : PySem.W.Frag) {α : Type} (r : α → Hp → List V → Prop) [m : ∀ x, MonoA (r x)] (x : α) : Mono (rT K r x) :=
  ⟨fun e ⟨a, vs, h1, h2, h3⟩ => ⟨a, vs, h1, seqT e h2, (m x).mono e h3⟩⟩
instance {α : Type} (r : α → Hp → V → Prop) [m : ∀ x, Mono (r x)] (x : α) : MonoA (c0 r x) := ⟨fun e ⟨v, h1, h2⟩ => ⟨v, h1, (m x).mono e h2⟩⟩
instance {α β : Type} (r : α → Hp → V → Prop) (r' : β → Hp → List V → Prop) [m : ∀ x, Mono (r x)] [m' : ∀ x, MonoA (r' x)] (x : α × β) : MonoA (cc r r' x) :=
  ⟨fun e ⟨v, ws, h1, h2, h3⟩ => ⟨v, ws, h1, (m x.1).mono e h2, (m' x.2).mono e h3⟩⟩
theorem rdL_of {K : PySem.W.Frag} {cs : Cells} {α : Type} {r : α → Hp → V → Prop} {xs : List α} {G : Hp} {v : V} (h : rL K r xs G v) : rdL K cs r xs G v :=
  let ⟨a, vs, h1, h2, h3⟩ := h
  ⟨a, vs, h1, .inl h2, h3⟩
theorem rdL_cell {K : PySem.W.Frag} {cs : Cells} {α : Type} {r : α → Hp → V → Prop} {xs : List α} {G : Hp} {a : Addr} {vs : List V} (h : (a, .lst vs) ∈ cs) (h3 : Rs r G xs vs) : rdL K cs r xs G (.ref a) := ⟨a, vs, rfl, .inr h, h3⟩
theorem rdL.sq {K : PySem.W.Frag} {cs : Cells} {α : Type} {r : α → Hp → V → Prop} {xs : List α} {G H : Hp} {v : V} (h : rdL K cs r xs G v) (d : Desc G cs H) : ∃ a vs, v = .ref a ∧ SqL K H a vs ∧ Rs r G xs vs := by
  obtain ⟨a, vs, h1, h2, h3⟩ := h
  refine ⟨a, vs, h1, ?_, h3⟩
  rcases h2 with h2 | h2
  · exact d.same.seq h2
  · exact SqL.of (d.at_ h2)

/-! ### expressions -/
section
variable {X : Cx} {σ : L2.St} {G : Hp} {cs : Cells} {e a b c : Expr} {es : List Expr} {P Pa Pb Pc : Hp → V → Prop} {pos p : Pos}
theorem D.imp {P' : Hp → V → Prop} (h : D X e σ G cs P) (i : ∀ G v, P G v → P' G v) : D X e σ G cs P' := fun G1 H s d Q q => h G1 H s d Q fun G2 H2 v s2 d2 p => q G2 H2 v s2 d2 (i G2 v p)
theorem D.up {G' : Hp} (h : D X e σ G cs P) (s : Same G G') : D X e σ G' cs P := fun G1 H s1 d Q q => h G1 H (s.trans s1) d Q q
theorem T.up {G' : Hp} {k : Bool} (h : T X e σ G cs k) (s : Same G G') : T X e σ G' cs k := fun G1 H s1 d Q q => h G1 H (s.trans s1) d Q q
/-- by a rule of the layer -/
theorem d_by {t : TE} (h : PE X e t) (q : ∀ G1 H, Same G G1 → Desc G1 cs H → ∀ Q : VK, (∀ G2 H2 v, Same G1 G2 → Desc G2 cs H2 → P G2 v → Q v H2) → t σ H Q) : D X e σ G cs P := fun G1 H s d Q k => uE h (q G1 H s d Q k)
theorem d_var (i : Nat) {x : Str} {v : V} [m : Mono P] (hs : σ[i]? = some (some v)) (hp : P G v) (hN : X.N[i]? = some x := by rfl) (hv : Vis X.env.scope x := by first | exact Or.inl rfl | exact Or.inr (Or.inl rfl) | exact Or.inr (Or.inr rfl))
    (hd : (x == ("__debug__" : Str)) = false := by decide) (hcd : (x == ("__classdict__" : Str)) = false := by decide) : D X (.Name x pos) σ G cs P :=
  d_by (pe_var hN hv hd hcd) fun G1 H s d Q q => ⟨v, hs, q G1 H v (Same.refl _) d (m.mono s hp)⟩
theorem d_int {i : Int} {j : Nat} : D X (.Constant (.int i) j pos) σ G cs (rI i) := d_by pe_int fun G1 H s d Q q => q G1 H _ (Same.refl _) d rfl
theorem d_bl {i : Bool} {j : Nat} : D X (.Constant (.bool i) j pos) σ G cs (rB i) := d_by pe_bl fun G1 H s d Q q => q G1 H _ (Same.refl _) d rfl
theorem d_non {j : Nat} : D X (.Constant .none j pos) σ G cs (rN ()) := d_by pe_non fun G1 H s d Q q => q G1 H _ (Same.refl _) d rfl
theorem d_str {x : Str} {l : List Nat} {j : Nat} (h : x = SX.S l) : D X (.Constant (.str x) j pos) σ G cs (rS l) := d_by pe_str fun G1 H s d Q q => q G1 H _ (Same.refl _) d (by rw [h]; rfl)
/-- a module's constant by its value -/
theorem d_glob {x : Str} {v : V} [m : Mono P] (hg : Gl X x) (h : ∃ u, X.mg x = some u ∧ RelV v u) (hp : P G v) (hd : (x == ("__debug__" : Str)) = false := by decide) : D X (.Name x pos) σ G cs P := by
  obtain ⟨u, hm, r⟩ := h
  exact d_by (pe_glob hg hm r hd) fun G1 H s d Q q => q G1 H v (Same.refl _) d (m.mono s hp)
/-- a two-place operation -/
theorem d_bin {op : Operator} {r : R2} [Mono Pa] (ho : OpR X (binaryOp op) r) (ha : D X a σ G cs Pa) (hb : D X b σ G cs Pb)
    (hr : ∀ G1 H x y, Same G G1 → Desc G1 cs H → Pa G1 x → Pb G1 y → ∀ Q : VK, (∀ G2 H2 v, Same G1 G2 → Desc G2 cs H2 → P G2 v → Q v H2) → r x y H Q) : D X (.BinOp a op b pos) σ G cs P :=
  d_by (pe_op ho (sE X a) (sE X b)) fun G1 H s d Q q => ha G1 H s d _ fun G2 H2 x s2 d2 hx => hb G2 H2 (s.trans s2) d2 _ fun G3 H3 y s3 d3 hy =>
    hr G3 H3 x y ((s.trans s2).trans s3) d3 (Mono.mono s3 hx) hy Q fun G4 H4 v s4 d4 hv => q G4 H4 v ((s2.trans s3).trans s4) d4 hv
theorem d_un {op : UnaryOp} {r : V → Hp → VK → Prop} (ho : UnR X (unaryOp op) r) (ha : D X a σ G cs Pa)
    (hr : ∀ G1 H x, Same G G1 → Desc G1 cs H → Pa G1 x → ∀ Q : VK, (∀ G2 H2 v, Same G1 G2 → Desc G2 cs H2 → P G2 v → Q v H2) → r x H Q) : D X (.UnaryOp op a pos) σ G cs P :=
  d_by (pe_un ho (sE X a)) fun G1 H s d Q q => ha G1 H s d _ fun G2 H2 x s2 d2 hx => hr G2 H2 x (s.trans s2) d2 hx Q fun G4 H4 v s4 d4 hv => q G4 H4 v (s2.trans s4) d4 hv
/-- comparisons, as values and as tests -/
theorem d_cmp {op : CmpOp} {r : R2} {k : Bool} [Mono Pa] (ho : OpR X (compareOp op) r) (hm : behindInMarks op b = false) (ha : D X a σ G cs Pa) (hb : D X b σ G cs Pb)
    (hr : ∀ G1 H x y, Same G G1 → Desc G1 cs H → Pa G1 x → Pb G1 y → ∀ Q : VK, Q (.bl k) H → r x y H Q) : D X (.Compare a [op] [b] pos) σ G cs (rB k) :=
  d_by (pe_cmpR ho (sE X a) (sE X b) hm) fun G1 H s d Q q => ha G1 H s d _ fun G2 H2 x s2 d2 hx => hb G2 H2 (s.trans s2) d2 _ fun G3 H3 y s3 d3 hy =>
    hr G3 H3 x y ((s.trans s2).trans s3) d3 (Mono.mono s3 hx) hy Q (q G3 H3 _ (s2.trans s3) d3 rfl)
theorem t_cmp {op : CmpOp} {r : R2} {k : Bool} [Mono Pa] (ho : OpR X (compareOp op) r) (hm : behindInMarks op b = false) (ha : D X a σ G cs Pa) (hb : D X b σ G cs Pb)
    (hr : ∀ G1 H x y, Same G G1 → Desc G1 cs H → Pa G1 x → Pb G1 y → ∀ Q : VK, Q (.bl k) H → r x y H Q) : T X (.Compare a [op] [b] pos) σ G cs k := fun G1 H s d Q q =>
  uT (pt_cmpR ho (sE X a) (sE X b) hm) (ha G1 H s d _ fun G2 H2 x s2 d2 hx => hb G2 H2 (s.trans s2) d2 _ fun G3 H3 y s3 d3 hy =>
    hr G3 H3 x y ((s.trans s2).trans s3) d3 (Mono.mono s3 hx) hy _ ⟨k, rfl, q G3 H3 (s2.trans s3) d3⟩)
theorem d_chain {op op' : CmpOp} {r r' : R2} {k k' : Bool} [Mono Pa] [Mono Pb] (ho : OpR X (compareOp op) r) (ho' : OpR X (compareOp op') r') (ha : D X a σ G cs Pa) (hb : D X b σ G cs Pb) (hc : D X c σ G cs Pc)
    (hr : ∀ G1 H x y, Same G G1 → Desc G1 cs H → Pa G1 x → Pb G1 y → ∀ Q : VK, Q (.bl k) H → r x y H Q) (hr' : ∀ G1 H x y, Same G G1 → Desc G1 cs H → Pb G1 x → Pc G1 y → ∀ Q : VK, Q (.bl k') H → r' x y H Q)
    (hm : lastMarks [op, op'] [b, c] = false := by with_unfolding_all rfl) : D X (.Compare a [op, op'] [b, c] pos) σ G cs (rB (k && k')) :=
  d_by (pe_chain ho ho' (sE X a) (sE X b) (sE X c) hm) fun G1 H s d Q q => ha G1 H s d _ fun G2 H2 x s2 d2 hx => hb G2 H2 (s.trans s2) d2 _ fun G3 H3 y s3 d3 hy => by
    refine hr G3 H3 x y ((s.trans s2).trans s3) d3 (Mono.mono s3 hx) hy _ ⟨k, rfl, ?_⟩
    cases k with
    | false => exact q G3 H3 _ (s2.trans s3) d3 rfl
    | true => exact hc G3 H3 ((s.trans s2).trans s3) d3 _ fun G4 H4 z s4 d4 hz => hr' G4 H4 y z (((s.trans s2).trans s3).trans s4) d4 (Mono.mono s4 hy) hz Q (q G4 H4 _ ((s2.trans s3).trans s4) d4 rfl)
theorem t_chain {op op' : CmpOp} {r r' : R2} {k k' : Bool} [Mono Pa] [Mono Pb] (ho : OpR X (compareOp op) r) (ho' : OpR X (compareOp op') r') (ha : D X a σ G cs Pa) (hb : D X b σ G cs Pb) (hc : D X c σ G cs Pc)
    (hr : ∀ G1 H x y, Same G G1 → Desc G1 cs H → Pa G1 x → Pb G1 y → ∀ Q : VK, Q (.bl k) H → r x y H Q) (hr' : ∀ G1 H x y, Same G G1 → Desc G1 cs H → Pb G1 x → Pc G1 y → ∀ Q : VK, Q (.bl k') H → r' x y H Q)
    (hm : lastMarks [op, op'] [b, c] = false := by with_unfolding_all rfl) : T X (.Compare a [op, op'] [b, c] pos) σ G cs (k && k') := fun G1 H s d Q q =>
  uT (pt_chain ho ho' (sE X a) (sE X b) (sE X c) hm) (ha G1 H s d _ fun G2 H2 x s2 d2 hx => hb G2 H2 (s.trans s2) d2 _ fun G3 H3 y s3 d3 hy => by
    refine hr G3 H3 x y ((s.trans s2).trans s3) d3 (Mono.mono s3 hx) hy _ ⟨k, rfl, ?_⟩
    cases k with
    | false => exact ⟨false, rfl, q G3 H3 (s2.trans s3) d3⟩
    | true => exact hc G3 H3 ((s.trans s2).trans s3) d3 _ fun G4 H4 z s4 d4 hz => hr' G4 H4 y z (((s.trans s2).trans s3).trans s4) d4 (Mono.mono s4 hy) hz _ ⟨k', rfl, q G4 H4 ((s2.trans s3).trans s4) d4⟩)
/-- and, or, not; as values, as tests -/
theorem t_val {k : Bool} (h : D X e σ G cs (rB k)) (he : ∀ whole, isTrue e X.env whole = (do let v ← whole; standAt e.pos; holding [v] (truthy v)) := by intro _; rfl) : T X e σ G cs k := fun G1 H s d Q q =>
  uT (pt_val (sE X e) he) (h G1 H s d _ fun G2 H2 v s2 d2 hv => ⟨k, hv, q G2 H2 s2 d2⟩)
theorem t_not {k : Bool} (h : T X a σ G cs k) : T X (.UnaryOp .Not a pos) σ G cs (!k) := fun G1 H s d Q q => uT (pt_not (sT X a)) (h G1 H s d _ fun G2 H2 s2 d2 => q G2 H2 s2 d2)
theorem t_w {k : Bool} (h : TW X e σ G cs k) : T X e σ G cs k := fun G1 H s d Q q => uT (PW.pt (sW X e)) (h G1 H s d Q q)
theorem w_and1 {k : Bool} (h : T X a σ G cs k) : TW X (.BoolOp .And [a] pos) σ G cs k := fun G1 H s d Q q => uW (pw_and1 (sT X a)) (h G1 H s d Q q)
theorem w_or1 {k : Bool} (h : T X a σ G cs k) : TW X (.BoolOp .Or [a] pos) σ G cs k := fun G1 H s d Q q => uW (pw_or1 (sT X a)) (h G1 H s d Q q)
theorem w_and {rest : List Expr} {k k' : Bool} (h : T X a σ G cs k) (h' : k = true → TW X (.BoolOp .And (b :: rest) pos) σ G cs k') : TW X (.BoolOp .And (a :: b :: rest) pos) σ G cs (k && k') := fun G1 H s d Q q =>
  uW (pw_and (sT X a) (sW X _)) (h G1 H s d _ fun G2 H2 s2 d2 => by
    cases k with
    | false => exact iteF (q G2 H2 s2 d2)
    | true => exact iteT (h' rfl G2 H2 (s.trans s2) d2 Q fun G3 H3 s3 d3 => q G3 H3 (s2.trans s3) d3))
theorem w_or {rest : List Expr} {k k' : Bool} (h : T X a σ G cs k) (h' : k = false → TW X (.BoolOp .Or (b :: rest) pos) σ G cs k') : TW X (.BoolOp .Or (a :: b :: rest) pos) σ G cs (k || k') := fun G1 H s d Q q =>
  uW (pw_or (sT X a) (sW X _)) (h G1 H s d _ fun G2 H2 s2 d2 => by
    cases k with
    | true => exact iteT (q G2 H2 s2 d2)
    | false => exact iteF (h' rfl G2 H2 (s.trans s2) d2 Q fun G3 H3 s3 d3 => q G3 H3 (s2.trans s3) d3))
theorem d_one {op : BoolOp} (h : D X a σ G cs P) : D X (.BoolOp op [a] pos) σ G cs P := fun G1 H s d Q q => uE (pe_one (sE X a)) (h G1 H s d Q q)
theorem d_and {rest : List Expr} {k k' : Bool} (h : D X a σ G cs (rB k)) (h' : k = true → D X (.BoolOp .And (b :: rest) pos) σ G cs (rB k')) : D X (.BoolOp .And (a :: b :: rest) pos) σ G cs (rB (k && k')) :=
  d_by (pe_and (sE X a) (sE X _)) fun G1 H s d Q q => h G1 H s d _ fun G2 H2 v s2 d2 hv => ⟨k, hv, by
    cases k with
    | false => exact iteF (q G2 H2 _ s2 d2 rfl)
    | true => exact iteT (h' rfl G2 H2 (s.trans s2) d2 Q fun G3 H3 w s3 d3 hw => q G3 H3 w (s2.trans s3) d3 hw)⟩
theorem d_or {rest : List Expr} {k k' : Bool} (h : D X a σ G cs (rB k)) (h' : k = false → D X (.BoolOp .Or (b :: rest) pos) σ G cs (rB k')) : D X (.BoolOp .Or (a :: b :: rest) pos) σ G cs (rB (k || k')) :=
  d_by (pe_or (sE X a) (sE X _)) fun G1 H s d Q q => h G1 H s d _ fun G2 H2 v s2 d2 hv => ⟨k, hv, by
    cases k with
    | true => exact iteT (q G2 H2 _ s2 d2 rfl)
    | false => exact iteF (h' rfl G2 H2 (s.trans s2) d2 Q fun G3 H3 w s3 d3 hw => q G3 H3 w (s2.trans s3) d3 hw)⟩
theorem d_not {k : Bool} (h : D X a σ G cs (rB k)) : D X (.UnaryOp .Not a pos) σ G cs (rB (!k)) :=
  d_by (pe_not (sE X a)) fun G1 H s d Q q => h G1 H s d _ fun G2 H2 v s2 d2 hv => ⟨k, hv, q G2 H2 _ s2 d2 rfl⟩
theorem d_if {α : Type} {k : Bool} {r : α → Hp → V → Prop} {x y : α} (hc : T X c σ G cs k) (ha : k = true → D X a σ G cs (r x)) (hb : k = false → D X b σ G cs (r y)) : D X (.IfExp c a b pos) σ G cs (r (if k = true then x else y)) :=
  d_by (pe_ifExp (sT X c) (sE X a) (sE X b)) fun G1 H s d Q q => hc G1 H s d _ fun G2 H2 s2 d2 => by
    cases k with
    | true => exact iteT (ha rfl G2 H2 (s.trans s2) d2 Q fun G3 H3 w s3 d3 hw => q G3 H3 w (s2.trans s3) d3 hw)
    | false => exact iteF (hb rfl G2 H2 (s.trans s2) d2 Q fun G3 H3 w s3 d3 hw => q G3 H3 w (s2.trans s3) d3 hw)
/-! arguments -/
def aN : Hp → List V → Prop := fun _ vs => vs = []
def aC (P : Hp → V → Prop) (Ps : Hp → List V → Prop) : Hp → List V → Prop := fun G vs => ∃ v ws, vs = v :: ws ∧ P G v ∧ Ps G ws
theorem a_nil : A X [] σ G cs aN := fun G1 H s d Q q => uA pa_nil (q G1 H _ (Same.refl _) d rfl)
def noStar : Expr → Bool
  | .Starred _ _ => false
  | _ => true
theorem star_plain {e : Expr} {es : List Expr} {env : Env} (h : noStar e = true) : starEach (e :: es) env = (false, eval e env) :: starEach es env := by
  cases e <;> first | rfl | cases h
theorem a_cons {Ps : Hp → List V → Prop} [Mono P] (h : D X e σ G cs P) (hs : A X es σ G cs Ps) (hst : starEach (e :: es) X.env = (false, eval e X.env) :: starEach es X.env := by exact star_plain rfl) : A X (e :: es) σ G cs (aC P Ps) := fun G1 H s d Q q =>
  uA (pa_cons (sE X e) (sA X es) hst) (h G1 H s d _ fun G2 H2 v s2 d2 hv => hs G2 H2 (s.trans s2) d2 _ fun G3 H3 ws s3 d3 hw => q G3 H3 _ (s2.trans s3) d3 ⟨v, ws, rfl, Mono.mono s3 hv, hw⟩)
theorem d_callB {x : Str} {id : String} {r : List V → Hp → VK → Prop} {Ps : Hp → List V → Prop} (hc : CallR X (.builtin id) r) (hm : X.mg x = none) (ha : A X (e :: es) σ G cs Ps)
    (hr : ∀ G1 H vs, Same G G1 → Desc G1 cs H → Ps G1 vs → ∀ Q : VK, (∀ G2 H2 v, Same G1 G2 → Desc G2 cs H2 → P G2 v → Q v H2) → r vs H Q)
    (hg : Gl X x := by rfl) (hv : bootBuiltins x = some (.builtin id) := by decide +kernel) (hn : x ≠ "__name__" := by decide) (hd : (x == ("__debug__" : Str)) = false := by decide)
    (he : starEach (e :: es) X.env = (false, eval e X.env) :: starEach es X.env := by exact star_plain rfl) (hpl : (backTo pos (starEach es X.env)).any (·.1) = false := by rfl) : D X (.Call (.Name x p) (e :: es) [] pos) σ G cs P :=
  d_by (pe_callB hc hg hm hv (sA X _) (hn := hn) (hdb := hd) (he := he) (hpl := hpl)) fun G1 H s d Q q => ha G1 H s d _ fun G2 H2 vs s2 d2 hvs => hr G2 H2 vs (s.trans s2) d2 hvs Q fun G3 H3 v s3 d3 h3 => q G3 H3 v (s2.trans s3) d3 h3
theorem d_callTy {x : Str} {id : String} {r : List V → Hp → VK → Prop} {Ps : Hp → List V → Prop} (hc : CallR X (.type id) r) (hm : X.mg x = none) (ha : A X (e :: es) σ G cs Ps)
    (hr : ∀ G1 H vs, Same G G1 → Desc G1 cs H → Ps G1 vs → ∀ Q : VK, (∀ G2 H2 v, Same G1 G2 → Desc G2 cs H2 → P G2 v → Q v H2) → r vs H Q)
    (hg : Gl X x := by rfl) (hv : bootBuiltins x = some (.type id) := by decide +kernel) (hn : x ≠ "__name__" := by decide) (hd : (x == ("__debug__" : Str)) = false := by decide)
    (he : starEach (e :: es) X.env = (false, eval e X.env) :: starEach es X.env := by exact star_plain rfl) (hpl : (backTo pos (starEach es X.env)).any (·.1) = false := by rfl) : D X (.Call (.Name x p) (e :: es) [] pos) σ G cs P :=
  d_by (pe_callTy hc hg hm hv (sA X _) (hn := hn) (hdb := hd) (he := he) (hpl := hpl)) fun G1 H s d Q q => ha G1 H s d _ fun G2 H2 vs s2 d2 hvs => hr G2 H2 vs (s.trans s2) d2 hvs Q fun G3 H3 v s3 d3 h3 => q G3 H3 v (s2.trans s3) d3 h3
end
end J

namespace J
open PySem L2

/-! ### what a block comes to -/
/-- ε errors, S the state behind the block, L the state of the loop around, R what is handed back -/
inductive Out (ε S L R : Type) where
  | nx (s : S) | bk (l : L) | ct (l : L) | rt (r : R) | er (k : ε)
namespace Out
variable {ε S S' L R : Type}
def bind (m : Out ε S L R) (k : S → Out ε S' L R) : Out ε S' L R := match m with
  | .nx s => k s
  | .bk l => .bk l
  | .ct l => .ct l
  | .rt r => .rt r
  | .er e => .er e
@[simp] theorem bind_nx (s : S) (k : S → Out ε S' L R) : (Out.nx s : Out ε S L R).bind k = k s := rfl
@[simp] theorem bind_bk (l : L) (k : S → Out ε S' L R) : (Out.bk l : Out ε S L R).bind k = .bk l := rfl
@[simp] theorem bind_ct (l : L) (k : S → Out ε S' L R) : (Out.ct l : Out ε S L R).bind k = .ct l := rfl
@[simp] theorem bind_rt (r : R) (k : S → Out ε S' L R) : (Out.rt r : Out ε S L R).bind k = .rt r := rfl
@[simp] theorem bind_er (e : ε) (k : S → Out ε S' L R) : (Out.er e : Out ε S L R).bind k = .er e := rfl
/-- the value of a body that hands back, and raises nothing -/
def val [Inhabited R] (m : Out Empty Unit Empty R) : R := match m with
  | .nx _ => default
  | .bk l => l.elim
  | .ct l => l.elim
  | .rt r => r
  | .er e => e.elim
@[simp] theorem val_rt [Inhabited R] (r : R) : (Out.rt r : Out Empty Unit Empty R).val = r := rfl
/-- of one that may raise -/
def res [Inhabited R] (m : Out ε Unit Empty R) : Except ε R := match m with
  | .nx _ => .ok default
  | .bk l => l.elim
  | .ct l => l.elim
  | .rt r => .ok r
  | .er e => .error e
@[simp] theorem res_rt [Inhabited R] (r : R) : (Out.rt r : Out ε Unit Empty R).res = .ok r := rfl
@[simp] theorem res_er [Inhabited R] (e : ε) : (Out.er e : Out ε Unit Empty R).res = .error e := rfl
@[simp] theorem res_nx [Inhabited R] (u : Unit) : (Out.nx u : Out ε Unit Empty R).res = .ok default := rfl
end Out
/-- a loop: f is a turn -/
def forL {ε S L R α : Type} (f : S → α → Out ε S S R) : S → List α → Out ε S L R
  | s, [] => .nx s
  | s, x :: xs => match f s x with
    | .nx s' => forL f s' xs
    | .ct s' => forL f s' xs
    | .bk s' => .nx s'
    | .rt r => .rt r
    | .er e => .er e
/-- a while: at most n turns -/
def whileN {ε S L R : Type} (c : S → Bool) (f : S → Out ε S S R) : Nat → S → Out ε S L R
  | 0, s => .nx s
  | n + 1, s => if c s = true then (match f s with
    | .nx s' => whileN c f n s'
    | .ct s' => whileN c f n s'
    | .bk s' => .nx s'
    | .rt r => .rt r
    | .er e => .er e) else .nx s

structure Po (ε S L R : Type) where
  nx : S → L2.St → Hp → Cells → Prop
  lp : L → L2.St → Hp → Cells → Prop
  rt : R → Hp → Cells → V → Prop
  er : ε → L2.St → Hp → Cells → Prop
/-- what is wanted behind, by the outcome -/
def Wish {ε S L R : Type} (W : ε → L2.St → Hp → Prop) (G : Hp) (Φ : Po ε S L R) (E : Ends) (m : Out ε S L R) : Prop := match m with
  | .nx s => ∀ σ2 G2 cs2 H2, Same G G2 → Desc G2 cs2 H2 → Φ.nx s σ2 G2 cs2 → E.nx σ2 H2
  | .bk l => ∀ σ2 G2 cs2 H2, Same G G2 → Desc G2 cs2 H2 → Φ.lp l σ2 G2 cs2 → E.bk σ2 H2
  | .ct l => ∀ σ2 G2 cs2 H2, Same G G2 → Desc G2 cs2 H2 → Φ.lp l σ2 G2 cs2 → E.ct σ2 H2
  | .rt r => ∀ v G2 cs2 H2, Same G G2 → Desc G2 cs2 H2 → Φ.rt r G2 cs2 v → E.rt v H2
  | .er k => ∀ σ2 G2 cs2 H2, Same G G2 → Desc G2 cs2 H2 → Φ.er k σ2 G2 cs2 → W k σ2 H2
theorem Wish.up {ε S L R : Type} {W : ε → L2.St → Hp → Prop} {G G' : Hp} {Φ : Po ε S L R} {E : Ends} {m : Out ε S L R} (h : Wish W G Φ E m) (s : Same G G') : Wish W G' Φ E m := by
  cases m with
  | nx x => exact fun σ2 G2 cs2 H2 s2 d p => h σ2 G2 cs2 H2 (s.trans s2) d p
  | bk x => exact fun σ2 G2 cs2 H2 s2 d p => h σ2 G2 cs2 H2 (s.trans s2) d p
  | ct x => exact fun σ2 G2 cs2 H2 s2 d p => h σ2 G2 cs2 H2 (s.trans s2) d p
  | rt x => exact fun σ2 G2 cs2 H2 s2 d p => h σ2 G2 cs2 H2 (s.trans s2) d p
  | er x => exact fun σ2 G2 cs2 H2 s2 d p => h σ2 G2 cs2 H2 (s.trans s2) d p
/-- the block comes to m -/
def B {ε S L R : Type} (X : Cx) (W : ε → L2.St → Hp → Prop) (sts : List Stmt) (σ : L2.St) (G : Hp) (cs : Cells) (Φ : Po ε S L R) (m : Out ε S L R) : Prop :=
  ∀ H, Desc G cs H → ∀ E : Ends, Wish W G Φ E m → wSs X sts E σ H

section
variable {ε S L R : Type} {X : Cx} {W : ε → L2.St → Hp → Prop} {σ : L2.St} {G : Hp} {cs : Cells} {Φ : Po ε S L R} {m : Out ε S L R} {st : Stmt} {rest body : List Stmt} {e : Expr} {P : Hp → V → Prop} {pos p : Pos}
theorem b_nil {s : S} (h : Φ.nx s σ G cs) : B X W [] σ G cs Φ (.nx s) := fun H d E w => uSs pss_nil (w σ G cs H (Same.refl _) d h)
/-- a statement by a rule, then the rest -/
theorem b_cons {t : TS} (h : PS X st t) (q : ∀ H, Desc G cs H → ∀ E : Ends, Wish W G Φ E m → t { E with nx := wSs X rest E } σ H) : B X W (st :: rest) σ G cs Φ m := fun H d E w => uSs (pss_cons h (sSs X rest)) (q H d E w)
theorem b_pass (h : B X W rest σ G cs Φ m) : B X W (.Pass pos :: rest) σ G cs Φ m := b_cons ps_pass fun H d E w => h H d E w
theorem b_set (i : Nat) {x : Str} (hN : X.N.Nodup) (he : D X e σ G cs P) (k : ∀ v G1, Same G G1 → P G1 v → B X W rest (σ.set i (some v)) G1 cs Φ m) (hi : X.N[i]? = some x := by rfl) (hx : Loc X.env.scope x := by first | exact Or.inl rfl | exact Or.inr rfl)
    (hs : swapsWith e (some (.Name x p)) pos.line X.env = pure false := by rfl) (hf : X.fn x = true ∨ X.env.scope.names.lookup x = some .local := by first | exact .inl rfl | exact .inr rfl) : B X W (.Assign [.Name x p] e pos :: rest) σ G cs Φ m :=
  b_cons (ps_set hN hi hx (sE X e) hs hf) fun H d E w => he G H (Same.refl _) d _ fun G2 H2 v s2 d2 hv => k v G2 s2 hv H2 d2 E (w.up s2)
theorem b_ret {r : R} (he : D X e σ G cs P) (k : ∀ v G1, Same G G1 → P G1 v → Φ.rt r G1 cs v) : B X W (.Return (some e) pos :: rest) σ G cs Φ (.rt r) :=
  b_cons (ps_ret (sE X e)) fun H d E w => he G H (Same.refl _) d _ fun G2 H2 v s2 d2 hv => w v G2 cs H2 s2 d2 (k v G2 s2 hv)
theorem b_retN {r : R} (k : Φ.rt r G cs .non) : B X W (.Return none pos :: rest) σ G cs Φ (.rt r) := b_cons ps_retN fun H d E w => w .non G cs H (Same.refl _) d k
theorem b_break {l : L} (k : Φ.lp l σ G cs) : B X W (.Break pos :: rest) σ G cs Φ (.bk l) := b_cons ps_break fun H d E w => w σ G cs H (Same.refl _) d k
theorem b_cont {l : L} (k : Φ.lp l σ G cs) : B X W (.Continue pos :: rest) σ G cs Φ (.ct l) := b_cons ps_continue fun H d E w => w σ G cs H (Same.refl _) d k
/-- an if, every way through it goes on in the rest or leaves -/
theorem b_if {S' : Type} {c : Expr} {a b : List Stmt} {k : Bool} (Mid : S' → L2.St → Hp → Cells → Prop) {ma mb : Out ε S' L R} {g : S' → Out ε S L R} (hc : T X c σ G cs k)
    (ha : k = true → ∀ G1, Same G G1 → B X W a σ G1 cs { nx := Mid, lp := Φ.lp, rt := Φ.rt, er := Φ.er } ma) (hb : k = false → ∀ G1, Same G G1 → B X W b σ G1 cs { nx := Mid, lp := Φ.lp, rt := Φ.rt, er := Φ.er } mb)
    (hr : ∀ s σ2 G2 cs2, Same G G2 → Mid s σ2 G2 cs2 → (if k = true then ma else mb) = .nx s → B X W rest σ2 G2 cs2 Φ (g s)) : B X W (.If c a b pos :: rest) σ G cs Φ ((if k = true then ma else mb).bind g) :=
  b_cons (ps_if (sT X c) (sSs X a) (sSs X b)) fun H d E w => hc G H (Same.refl _) d _ fun G2 H2 s2 d2 => by
    have go : ∀ {sts : List Stmt} {mm : Out ε S' L R}, B X W sts σ G2 cs { nx := Mid, lp := Φ.lp, rt := Φ.rt, er := Φ.er } mm → Wish W G Φ E (mm.bind g) → (∀ s σ2 G3 cs2, Same G G3 → Mid s σ2 G3 cs2 → mm = .nx s → B X W rest σ2 G3 cs2 Φ (g s)) → wSs X sts { E with nx := wSs X rest E } σ H2 := fun {sts mm} hB w hr => by
      refine hB H2 d2 _ ?_
      cases mm with
      | nx s => exact fun σ3 G3 cs3 H3 s3 d3 p => hr s σ3 G3 cs3 (s2.trans s3) p rfl H3 d3 E (Wish.up (G := G) (show Wish W G Φ E (g s) from w) (s2.trans s3))
      | bk l => exact fun σ3 G3 cs3 H3 s3 d3 p => w σ3 G3 cs3 H3 (s2.trans s3) d3 p
      | ct l => exact fun σ3 G3 cs3 H3 s3 d3 p => w σ3 G3 cs3 H3 (s2.trans s3) d3 p
      | rt r => exact fun v G3 cs3 H3 s3 d3 p => w v G3 cs3 H3 (s2.trans s3) d3 p
      | er x => exact fun σ3 G3 cs3 H3 s3 d3 p => w σ3 G3 cs3 H3 (s2.trans s3) d3 p
    cases k with
    | true => exact iteT (go (ha rfl G2 s2) w hr)
    | false => exact iteF (go (hb rfl G2 s2) w hr)
/-- an if whose first way always leaves, no else -/
theorem b_ifx {c : Expr} {a : List Stmt} {k : Bool} {ma mr : Out ε S L R} (hc : T X c σ G cs k)
    (ha : k = true → ∀ G1, Same G G1 → B X W a σ G1 cs { nx := fun _ _ _ _ => False, lp := Φ.lp, rt := Φ.rt, er := Φ.er } ma)
    (hr : k = false → ∀ G1, Same G G1 → B X W rest σ G1 cs Φ mr) : B X W (.If c a [] pos :: rest) σ G cs Φ (if k = true then ma else mr) :=
  b_cons (ps_if (sT X c) (sSs X a) pss_nil) fun H d E w => hc G H (Same.refl _) d _ fun G2 H2 s2 d2 => by
    cases k with
    | true =>
      have w' : Wish W G Φ E ma := w
      refine iteT (ha rfl G2 s2 H2 d2 _ ?_)
      cases ma with
      | nx s => exact fun σ3 G3 cs3 H3 s3 d3 p => p.elim
      | bk l => exact fun σ3 G3 cs3 H3 s3 d3 p => w' σ3 G3 cs3 H3 (s2.trans s3) d3 p
      | ct l => exact fun σ3 G3 cs3 H3 s3 d3 p => w' σ3 G3 cs3 H3 (s2.trans s3) d3 p
      | rt r => exact fun v G3 cs3 H3 s3 d3 p => w' v G3 cs3 H3 (s2.trans s3) d3 p
      | er x => exact fun σ3 G3 cs3 H3 s3 d3 p => w' σ3 G3 cs3 H3 (s2.trans s3) d3 p
    | false => exact iteF (hr rfl G2 s2 H2 d2 E (Wish.up (show Wish W G Φ E mr from w) s2))
/-- an if at the block's end, its two ways -/
theorem b_ifl {c : Expr} {a b : List Stmt} {k : Bool} {ma mb : Out ε S L R} (hc : T X c σ G cs k)
    (ha : k = true → ∀ G1, Same G G1 → B X W a σ G1 cs Φ ma) (hb : k = false → ∀ G1, Same G G1 → B X W b σ G1 cs Φ mb) : B X W [.If c a b pos] σ G cs Φ (if k = true then ma else mb) := fun H d E w =>
  uSs (pss_one (ps_if (sT X c) (sSs X a) (sSs X b))) (hc G H (Same.refl _) d _ fun G2 H2 s2 d2 => by
    cases k with
    | true => exact iteT (ha rfl G2 s2 H2 d2 E (Wish.up (show Wish W G Φ E ma from w) s2))
    | false => exact iteF (hb rfl G2 s2 H2 d2 E (Wish.up (show Wish W G Φ E mb from w) s2)))
theorem B.up {G' : Hp} (h : B X W rest σ G' cs Φ m) (s : ∀ H, Desc G cs H → Same G G' ∧ Desc G' cs H) : B X W rest σ G cs Φ m := fun H d E w => h H (s H d).2 E (w.up (s H d).1)
/-- a value's being is dropped -/
theorem b_expr (he : D X e σ G cs P) (k : ∀ v G1, Same G G1 → P G1 v → B X W rest σ G1 cs Φ m) (hs : swapsWith e none pos.line X.env = pure false := by rfl) : B X W (.Expr e pos :: rest) σ G cs Φ m :=
  b_cons (ps_expr (sE X e) hs) fun H d E w => he G H (Same.refl _) d _ fun G2 H2 v s2 d2 hv => k v G2 s2 hv H2 d2 E (w.up s2)

/-! ### loops -/
structure WalkD {α : Type} (J : It) (xs : List α) (G : Hp) (C : Cells → Prop) (P : α → Hp → V → Prop) : Prop where
  goes : ∀ i G1 H cs, i < xs.length → Same G G1 → C cs → Desc G1 cs H → J.go i H
  stops : ∀ G1 H cs, Same G G1 → C cs → Desc G1 cs H → J.stop xs.length H
  yields : ∀ i x G1 H cs v H', xs[i]? = some x → Same G G1 → C cs → Desc G1 cs H → J.yld i H v H' → ∃ G', Same G1 G' ∧ Desc G' cs H' ∧ P x G' v
/-- what is walked -/
def I {α : Type} (X : Cx) (tg iter : Expr) (σ : L2.St) (G : Hp) (cs : Cells) (C : Cells → Prop) (xs : List α) (P : α → Hp → V → Prop) : Prop :=
  ∃ wi, PI X tg iter wi ∧ ∀ G1 H, Same G G1 → Desc G1 cs H → ∀ Rr : It → Hp → Prop, (∀ J G2 H2, Same G1 G2 → Desc G2 cs H2 → WalkD J xs G2 C P → Rr J H2) → wi σ H Rr
/-- a target -/
def Tg {α : Type} (X : Cx) (tg : Expr) (P : α → Hp → V → Prop) (Sx : α → Hp → L2.St → L2.St → Prop) : Prop :=
  ∃ g, PG X tg g ∧ ∀ x v G cs H σ, P x G v → Desc G cs H → ∀ Q : L2.St → Hp → Prop, (∀ σ', Sx x G σ σ' → Q σ' H) → g v σ H Q
/-- the states that a loop comes through -/
inductive Reach {α : Type} (f : S → α → Out ε S S R) (s0 : S) : List α → S → Prop where
  | nil : Reach f s0 [] s0
  | nx {pre : List α} {s s' : S} {x : α} : Reach f s0 pre s → f s x = .nx s' → Reach f s0 (pre ++ [x]) s'
  | ct {pre : List α} {s s' : S} {x : α} : Reach f s0 pre s → f s x = .ct s' → Reach f s0 (pre ++ [x]) s'
theorem forL_reach {L : Type} {α : Type} {f : S → α → Out ε S S R} {s0 : S} {pre : List α} {s : S} (h : Reach f s0 pre s) : ∀ (post : List α), (forL f s0 (pre ++ post) : Out ε S L R) = forL f s post := by
  induction h with
  | nil => intro post; rfl
  | @nx pre s s' x h e ih =>
    intro post
    rw [List.append_assoc, ih]
    show (match f s x with | .nx s' => forL f s' post | .ct s' => forL f s' post | .bk s' => .nx s' | .rt r => .rt r | .er e => .er e : Out ε S L R) = _
    rw [e]
  | @ct pre s s' x h e ih =>
    intro post
    rw [List.append_assoc, ih]
    show (match f s x with | .nx s' => forL f s' post | .ct s' => forL f s' post | .bk s' => .nx s' | .rt r => .rt r | .er e => .er e : Out ε S L R) = _
    rw [e]
theorem forL_cons {L : Type} {α : Type} {f : S → α → Out ε S S R} {s : S} {x : α} {xs : List α} : (forL f s (x :: xs) : Out ε S L R) = (match f s x with | .nx s' => forL f s' xs | .ct s' => forL f s' xs | .bk s' => .nx s' | .rt r => .rt r | .er e => .er e) := rfl
/-- a for: N tells the slots, the frozen part and the cells by the turns done and the state; f is a turn -/
theorem b_for {α S1 : Type} {tg iter : Expr} {C : Cells → Prop} {xs : List α} {Pi : α → Hp → V → Prop} {Sx : α → Hp → L2.St → L2.St → Prop} {s0 : S1} {f : S1 → α → Out ε S1 S1 R} {g : S1 → Out ε S L R}
    (N : Nat → S1 → L2.St → Hp → Cells → Prop) (hi : I X tg iter σ G cs C xs Pi) (ht : Tg X tg Pi Sx) (hcalm : X.calm = true) (hp : PassesOwn (model X.prog X.w) X.A X.env X.xe)
    (h0 : ∀ G1, Same G G1 → N 0 s0 σ G1 cs) (hC : ∀ n s σ1 G1 cs1, N n s σ1 G1 cs1 → C cs1)
    (hb : ∀ pre x post s σ1 G0 G1 cs1 σ2, xs = pre ++ x :: post → Reach f s0 pre s → Same G G0 → N pre.length s σ1 G0 cs1 → Same G0 G1 → Sx x G1 σ1 σ2 →
      B X W body σ2 G1 cs1 { nx := N (pre.length + 1), lp := N (pre.length + 1), rt := Φ.rt, er := Φ.er } (f s x))
    (hr : ∀ n s σ1 G1 cs1, n ≤ xs.length → Same G G1 → N n s σ1 G1 cs1 → (forL f s0 xs : Out ε S1 L R) = .nx s → B X W rest σ1 G1 cs1 Φ (g s))
    (hs : ∀ x, foldedSetIterable iter X.env x = pure x := by intro _; rfl) : B X W (.For tg iter body [] pos :: rest) σ G cs Φ ((forL f s0 xs).bind g) := by
  obtain ⟨wi, hpi, hw⟩ := hi
  obtain ⟨gt, hpg, hgt⟩ := ht
  refine b_cons (ps_for hp hcalm hpi hpg (sSs X body) hs) fun H d E w => ?_
  refine hw G H (Same.refl _) d _ fun J G2 H2 s2 d2 wk => ?_
  let Pv : Nat → L2.St → Hp → Prop := fun i σ1 H1 => ∃ s G1 cs1, i ≤ xs.length ∧ Reach f s0 (xs.take i) s ∧ Same G2 G1 ∧ Desc G1 cs1 H1 ∧ N i s σ1 G1 cs1
  refine ⟨fun i n σ1 H1 => n = xs.length - i ∧ Pv i σ1 H1, ⟨xs.length, rfl, s0, G2, cs, Nat.zero_le _, .nil, Same.refl _, d2, h0 G2 s2⟩, ?_⟩
  rintro i n σ1 H1 ⟨rfl, s, G1, cs1, hi, hre, s1, d1, hN⟩
  have w0 : Wish W G Φ E ((forL f s (xs.drop i)).bind g) := by
    have q := forL_reach (L := L) hre (xs.drop i)
    rw [List.take_append_drop] at q
    rw [← q]
    exact w
  by_cases hlt : i < xs.length
  · refine .inr ⟨wk.goes i G1 H1 cs1 hlt s1 (hC _ _ _ _ _ hN) d1, Pv (i + 1), fun σ' H' p' => ⟨_, by omega, rfl, p'⟩, fun v H3 y => ?_⟩
    have hx : xs[i]? = some xs[i] := by simp [hlt]
    obtain ⟨G3, s3, d3, pv⟩ := wk.yields i xs[i] G1 H1 cs1 v H3 hx s1 (hC _ _ _ _ _ hN) d1 y
    refine hgt xs[i] v G3 cs1 H3 σ1 pv d3 _ fun σ' hS => ?_
    have ed : xs = xs.take i ++ xs[i] :: xs.drop (i + 1) := by
      rw [← List.drop_eq_getElem_cons hlt, List.take_append_drop]
    have et : xs.take (i + 1) = xs.take i ++ [xs[i]] := by simp
    have el : (xs.take i).length = i := by rw [List.length_take]; omega
    have hb' := hb (xs.take i) xs[i] (xs.drop (i + 1)) s σ1 G1 G3 cs1 σ' ed hre (s2.trans s1) (by rw [el]; exact hN) s3 hS
    rw [el] at hb'
    refine hb' H3 d3 _ ?_
    have w1 : Wish W G Φ E ((forL f s (xs[i] :: xs.drop (i + 1))).bind g) := by
      rw [List.drop_eq_getElem_cons hlt] at w0
      exact w0
    rw [forL_cons] at w1
    have sG : Same G G3 := (s2.trans s1).trans s3
    cases hm : f s xs[i] with
    | nx s' => exact fun σ4 G4 cs4 H4 s4 d4 p4 => ⟨s', G4, cs4, hlt, by rw [et]; exact .nx hre hm, (s1.trans s3).trans s4, d4, p4⟩
    | ct s' => exact fun σ4 G4 cs4 H4 s4 d4 p4 => ⟨s', G4, cs4, hlt, by rw [et]; exact .ct hre hm, (s1.trans s3).trans s4, d4, p4⟩
    | bk s' =>
      rw [hm] at w1
      refine fun σ4 G4 cs4 H4 s4 d4 p4 => hr (i + 1) s' σ4 G4 cs4 hlt (sG.trans s4) p4 ?_ H4 d4 E (Wish.up (show Wish W G Φ E (g s') from w1) (sG.trans s4))
      rw [ed, forL_reach hre, forL_cons, hm]
    | rt r =>
      rw [hm] at w1
      exact fun v4 G4 cs4 H4 s4 d4 p4 => w1 v4 G4 cs4 H4 (sG.trans s4) d4 p4
    | er k =>
      rw [hm] at w1
      exact fun σ4 G4 cs4 H4 s4 d4 p4 => w1 σ4 G4 cs4 H4 (sG.trans s4) d4 p4
  · have e : i = xs.length := by omega
    subst e
    rw [List.drop_length] at w0
    rw [List.take_length] at hre
    refine .inl ⟨wk.stops G1 H1 cs1 s1 (hC _ _ _ _ _ hN) d1, hr _ s σ1 G1 cs1 (Nat.le_refl _) (s2.trans s1) hN ?_ H1 d1 E (Wish.up (show Wish W G Φ E (g s) from w0) (s2.trans s1))⟩
    have q := forL_reach (L := L) hre ([] : List α)
    rw [List.append_nil] at q
    exact q
/-- a name for a value -/
def letV {α β : Type} (x : α) (f : α → β) : β := f x
theorem b_setV {α : Type} {r : α → Hp → V → Prop} {y : α} {f : α → Out ε S L R} (i : Nat) {x : Str} (hN : X.N.Nodup) (he : D X e σ G cs (r y)) (k : ∀ z, z = y → ∀ v G1, Same G G1 → r z G1 v → B X W rest (σ.set i (some v)) G1 cs Φ (f z)) (hi : X.N[i]? = some x := by rfl) (hx : Loc X.env.scope x := by first | exact Or.inl rfl | exact Or.inr rfl)
    (hs : swapsWith e (some (.Name x p)) pos.line X.env = pure false := by rfl) (hf : X.fn x = true ∨ X.env.scope.names.lookup x = some .local := by first | exact .inl rfl | exact .inr rfl) : B X W (.Assign [.Name x p] e pos :: rest) σ G cs Φ (letV y f) :=
  b_set i hN he (fun v G1 s1 h => k y rfl v G1 s1 h) hi hx hs hf
end
end J

namespace J
open PySem L2
section
variable {X : Cx} {σ : L2.St} {G : Hp} {cs : Cells} {e a b c : Expr} {es : List Expr} {P Pa Pb Pc : Hp → V → Prop} {pos p : Pos} {i j k : Int}

/-! ### whole numbers -/
theorem d_add (ha : D X a σ G cs (rI i)) (hb : D X b σ G cs (rI j)) : D X (.BinOp a .Add b pos) σ G cs (rI (i + j)) := d_bin op_add ha hb fun G1 H x y s d hx hy Q q => ⟨i, j, hx, hy, q G1 H _ (Same.refl _) d rfl⟩
theorem d_sub (ha : D X a σ G cs (rI i)) (hb : D X b σ G cs (rI j)) : D X (.BinOp a .Sub b pos) σ G cs (rI (i - j)) := d_bin op_sub ha hb fun G1 H x y s d hx hy Q q => ⟨i, j, hx, hy, q G1 H _ (Same.refl _) d rfl⟩
theorem d_mul (ha : D X a σ G cs (rI i)) (hb : D X b σ G cs (rI j)) (h : CMul i j) : D X (.BinOp a .Mult b pos) σ G cs (rI (i * j)) := d_bin op_mul ha hb fun G1 H x y s d hx hy Q q => ⟨i, j, hx, hy, h, q G1 H _ (Same.refl _) d rfl⟩
theorem d_mulW (ha : D X a σ G cs (rI i)) (hb : D X b σ G cs (rI j)) (h : CMulW i j) : D X (.BinOp a .Mult b pos) σ G cs (rI (i * j)) := d_bin op_mulW ha hb fun G1 H x y s d hx hy Q q => ⟨i, j, hx, hy, h, q G1 H _ (Same.refl _) d rfl⟩
theorem d_fdiv (ha : D X a σ G cs (rI i)) (hb : D X b σ G cs (rI j)) (h : CDivW i j) : D X (.BinOp a .FloorDiv b pos) σ G cs (rI (i / j)) := d_bin op_fdivW ha hb fun G1 H x y s d hx hy Q q => ⟨i, j, hx, hy, h, q G1 H _ (Same.refl _) d rfl⟩
theorem d_mod (ha : D X a σ G cs (rI i)) (hb : D X b σ G cs (rI j)) (h : 0 < j) : D X (.BinOp a .Mod b pos) σ G cs (rI (i % j)) := d_bin op_mod ha hb fun G1 H x y s d hx hy Q q => ⟨i, j, hx, hy, h, q G1 H _ (Same.refl _) d rfl⟩
theorem d_pow (ha : D X a σ G cs (rI i)) (hb : D X b σ G cs (rI j)) (h : CPow i j) {z : Int} (hz : i ^ j.toNat = z) : D X (.BinOp a .Pow b pos) σ G cs (rI z) := d_bin op_pow ha hb fun G1 H x y s d hx hy Q q => ⟨i, j, hx, hy, h, q G1 H _ (Same.refl _) d (by subst hz; rfl)⟩
theorem d_neg (ha : D X a σ G cs (rI i)) : D X (.UnaryOp .USub a pos) σ G cs (rI (-i)) := d_un un_neg ha fun G1 H x s d hx Q q => ⟨i, hx, q G1 H _ (Same.refl _) d rfl⟩
theorem divW {i j : Int} (h : 0 < j) (hb : j.natAbs < 2 ^ 8999) : CDivW i j := wide_div (b := 8999) h hb (by decide) (by decide)
/-! what the operators' readings ask, by the operands -/
section
variable {G1 H : Hp} {x y : V} {Q : VK}
theorem c_lt (hx : rI i G1 x) (hy : rI j G1 y) (q : Q (.bl (decide (i < j))) H) : rI0 (fun i j => .bl (decide (i < j))) x y H Q := ⟨i, j, hx, hy, q⟩
theorem c_le (hx : rI i G1 x) (hy : rI j G1 y) (q : Q (.bl (decide (i ≤ j))) H) : rI0 (fun i j => .bl (decide (i ≤ j))) x y H Q := ⟨i, j, hx, hy, q⟩
theorem c_gt (hx : rI i G1 x) (hy : rI j G1 y) (q : Q (.bl (decide (j < i))) H) : rI0 (fun i j => .bl (decide (j < i))) x y H Q := ⟨i, j, hx, hy, q⟩
theorem c_ge (hx : rI i G1 x) (hy : rI j G1 y) (q : Q (.bl (decide (j ≤ i))) H) : rI0 (fun i j => .bl (decide (j ≤ i))) x y H Q := ⟨i, j, hx, hy, q⟩
theorem c_eqI (hx : rI i G1 x) (hy : rI j G1 y) (q : Q (.bl (decide (i = j))) H) : rEq x y H Q := by
  cases hx; cases hy
  refine ⟨rfl, ?_⟩
  have e : decide (V.int i = V.int j) = decide (i = j) := decide_eq_decide.mpr ⟨fun h => V.int.inj h, fun h => by rw [h]⟩
  rw [e]
  exact q
theorem c_neI (hx : rI i G1 x) (hy : rI j G1 y) (q : Q (.bl (!decide (i = j))) H) : rNe x y H Q := by
  cases hx; cases hy
  refine ⟨rfl, ?_⟩
  have e : decide (V.int i = V.int j) = decide (i = j) := decide_eq_decide.mpr ⟨fun h => V.int.inj h, fun h => by rw [h]⟩
  rw [e]
  exact q
theorem c_eqB {i j : Bool} (hx : rB i G1 x) (hy : rB j G1 y) (q : Q (.bl (decide (i = j))) H) : rEq x y H Q := by
  cases hx; cases hy
  refine ⟨rfl, ?_⟩
  have e : decide (V.bl i = V.bl j) = decide (i = j) := decide_eq_decide.mpr ⟨fun h => V.bl.inj h, fun h => by rw [h]⟩
  rw [e]
  exact q
theorem c_neB {i j : Bool} (hx : rB i G1 x) (hy : rB j G1 y) (q : Q (.bl (!decide (i = j))) H) : rNe x y H Q := by
  cases hx; cases hy
  refine ⟨rfl, ?_⟩
  have e : decide (V.bl i = V.bl j) = decide (i = j) := decide_eq_decide.mpr ⟨fun h => V.bl.inj h, fun h => by rw [h]⟩
  rw [e]
  exact q
theorem str_eq {i j : List Nat} : decide (V.str (SX.S i) = V.str (SX.S j)) = decide (i = j) := decide_eq_decide.mpr ⟨fun h => SX.S_inj (V.str.inj h), fun h => by rw [h]⟩
theorem c_eqS {i j : List Nat} (hx : rS i G1 x) (hy : rS j G1 y) (q : Q (.bl (decide (i = j))) H) : rEq x y H Q := by
  cases hx; cases hy
  refine ⟨rfl, ?_⟩
  rw [str_eq]
  exact q
theorem c_neS {i j : List Nat} (hx : rS i G1 x) (hy : rS j G1 y) (q : Q (.bl (!decide (i = j))) H) : rNe x y H Q := by
  cases hx; cases hy
  refine ⟨rfl, ?_⟩
  rw [str_eq]
  exact q
theorem c_inS {l : List Nat} {n : Nat} (hx : rS [n] G1 x) (hy : rS l G1 y) (q : Q (.bl (decide (n ∈ l))) H) : ∃ (c : Nat) (z : Str), x = .str ⟨#[c]⟩ ∧ y = .str z ∧ Q (.bl (decide (c ∈ z.cps.toList))) H := ⟨n, SX.S l, hx, hy, q⟩
theorem c_ninS {l : List Nat} {n : Nat} (hx : rS [n] G1 x) (hy : rS l G1 y) (q : Q (.bl (!decide (n ∈ l))) H) : ∃ (c : Nat) (z : Str), x = .str ⟨#[c]⟩ ∧ y = .str z ∧ Q (.bl (!decide (c ∈ z.cps.toList))) H := ⟨n, SX.S l, hx, hy, q⟩
end
/-- a value that is never None -/
class NotNon {α : Type} (r : α → Hp → V → Prop) : Prop where
  nn : ∀ {x G v}, r x G v → v ≠ .non
instance : NotNon rI := ⟨fun h z => by cases h; cases z⟩
instance : NotNon rB := ⟨fun h z => by cases h; cases z⟩
instance : NotNon rS := ⟨fun h z => by cases h; cases z⟩
instance (K : PySem.W.Frag) {α : Type} (r : α → Hp → V → Prop) : NotNon (rL K r) := ⟨fun h z => by obtain ⟨_, _, e, _⟩ := h; rw [e] at z; cases z⟩
instance (K : PySem.W.Frag) {α : Type} (r : α → Hp → List V → Prop) : NotNon (rT K r) := ⟨fun h z => by obtain ⟨_, _, e, _⟩ := h; rw [e] at z; cases z⟩
theorem is_non {α : Type} {r : α → Hp → V → Prop} [NotNon r] {o : Option α} {G : Hp} {v : V} (h : rO r o G v) : decide (v = .non) = o.isNone := by
  cases o with
  | none =>
    have e : v = .non := h
    rw [e]
    rfl
  | some x => exact decide_eq_false (NotNon.nn (r := r) (x := x) h)
theorem d_isN {α : Type} {r : α → Hp → V → Prop} [NotNon r] [∀ x, Mono (r x)] {o : Option α} {jj : Nat} {p' : Pos} (ha : D X a σ G cs (rO r o)) : D X (.Compare a [.Is] [.Constant .none jj p'] pos) σ G cs (rB o.isNone) :=
  d_cmp op_isN (nomark _) ha d_non fun G1 H x y s d hx hy Q q => ⟨hy, by rw [is_non hx]; exact q⟩
theorem t_isN {α : Type} {r : α → Hp → V → Prop} [NotNon r] [∀ x, Mono (r x)] {o : Option α} {jj : Nat} {p' : Pos} (ha : D X a σ G cs (rO r o)) : T X (.Compare a [.Is] [.Constant .none jj p'] pos) σ G cs o.isNone :=
  t_cmp op_isN (nomark _) ha d_non fun G1 H x y s d hx hy Q q => ⟨hy, by rw [is_non hx]; exact q⟩
theorem d_notN {α : Type} {r : α → Hp → V → Prop} [NotNon r] [∀ x, Mono (r x)] {o : Option α} {jj : Nat} {p' : Pos} (ha : D X a σ G cs (rO r o)) : D X (.Compare a [.IsNot] [.Constant .none jj p'] pos) σ G cs (rB (!o.isNone)) :=
  d_cmp op_notN (nomark _) ha d_non fun G1 H x y s d hx hy Q q => ⟨hy, by rw [is_non hx]; exact q⟩
theorem t_notN {α : Type} {r : α → Hp → V → Prop} [NotNon r] [∀ x, Mono (r x)] {o : Option α} {jj : Nat} {p' : Pos} (ha : D X a σ G cs (rO r o)) : T X (.Compare a [.IsNot] [.Constant .none jj p'] pos) σ G cs (!o.isNone) :=
  t_cmp op_notN (nomark _) ha d_non fun G1 H x y s d hx hy Q q => ⟨hy, by rw [is_non hx]; exact q⟩
/-- a value that may be None, known to be there -/
theorem d_some {α : Type} {r : α → Hp → V → Prop} {x : α} (h : D X e σ G cs (rO r (some x))) : D X e σ G cs (r x) := h
theorem d_toO {α : Type} {r : α → Hp → V → Prop} {x : α} (h : D X e σ G cs (r x)) : D X e σ G cs (rO r (some x)) := h
theorem d_toN {α : Type} {r : α → Hp → V → Prop} (h : D X e σ G cs (rN ())) : D X e σ G cs (rO r none) := h

/-! ### texts -/
theorem d_cat {l m : List Nat} (ha : D X a σ G cs (rS l)) (hb : D X b σ G cs (rS m)) (h : l.length + m.length ≤ sizeLine) : D X (.BinOp a .Add b pos) σ G cs (rS (l ++ m)) :=
  d_bin op_add_str ha hb fun G1 H x y s d hx hy Q q => ⟨SX.S l, SX.S m, hx, hy, by rw [SX.S_len, SX.S_len]; exact h, by rw [SX.S_cat]; exact q G1 H _ (Same.refl _) d rfl⟩
theorem d_ixS {l : List Nat} {n : Nat} (ha : D X a σ G cs (rS l)) (hb : D X b σ G cs (rI i)) (hl : l.length ≤ sizeLine) (h : atI l i = some n) (hs : PlainIx b := by exact fun _ _ => rfl) : D X (.Subscript a b pos) σ G cs (rS [n]) :=
  d_by (pe_ix ix_str (sE X a) (sE X b) hs) fun G1 H s d Q q => ha G1 H s d _ fun G2 H2 x s2 d2 hx => hb G2 H2 (s.trans s2) d2 _ fun G3 H3 y s3 d3 hy =>
    ⟨SX.S l, i, n, hx, hy, by rw [SX.S_len]; exact hl, h, q G3 H3 _ (s2.trans s3) d3 rfl⟩

/-! ### lists, tuples: read -/
theorem atI_rs {α : Type} {r : α → Hp → V → Prop} {xs : List α} {vs : List V} {x : α} (h : Rs r G xs vs) (hx : atI xs i = some x) : ∃ v, atI vs i = some v ∧ r x G v := by
  unfold atI at hx ⊢
  rw [← h.length]
  cases e : ixN xs.length i with
  | none =>
    rw [e] at hx
    cases hx
  | some k =>
    rw [e] at hx
    exact Rs.get h hx
theorem atI_lt {α : Type} {xs : List α} (h0 : 0 ≤ i) (h1 : i < (xs.length : Int)) [Inhabited α] : atI xs i = some (xs.getD i.toNat default) := by
  obtain ⟨n, rfl⟩ := Int.eq_ofNat_of_zero_le h0
  have hn : n < xs.length := by omega
  exact atI_nat (by simp [hn])
theorem atI_neg {α : Type} {xs : List α} {n : Nat} (h0 : 0 < n) (h1 : n ≤ xs.length) [Inhabited α] : atI xs (-(n : Int)) = some (xs.getD (xs.length - n) default) := by
  have hl : xs.length - n < xs.length := by omega
  have e : ixN xs.length (-(n : Int)) = some (xs.length - n) := by
    unfold ixN
    rw [if_neg (by omega), if_pos (by omega)]
    exact congrArg some (by omega)
  unfold atI
  rw [e]
  simp [hl]
theorem d_ixL {α : Type} {r : α → Hp → V → Prop} [∀ x, Mono (r x)] {xs : List α} {x : α} (ha : D X a σ G cs (rdL X.K cs r xs)) (hb : D X b σ G cs (rI i)) (hx : atI xs i = some x) (hs : PlainIx b := by exact fun _ _ => rfl) :
    D X (.Subscript a b pos) σ G cs (r x) :=
  d_by (pe_ix ix_list (sE X a) (sE X b) hs) fun G1 H s d Q q => ha G1 H s d _ fun G2 H2 u s2 d2 hu => hb G2 H2 (s.trans s2) d2 _ fun G3 H3 y s3 d3 hy => by
    obtain ⟨l, vs, e, hl, hr⟩ := (Mono.mono s3 hu).sq d3
    obtain ⟨v, hv, hp⟩ := atI_rs hr hx
    exact ⟨l, vs, i, v, e, hy, hl, hv, q G3 H3 v (s2.trans s3) d3 hp⟩
/-- the n-th place of a tuple -/
def At (R : Hp → List V → Prop) (n : Nat) (P : Hp → V → Prop) : Prop := ∀ G vs, R G vs → ∃ v, vs[n]? = some v ∧ P G v
theorem at_1 {α : Type} {r : α → Hp → V → Prop} {x : α} : At (c0 r x) 0 (r x) := fun G vs ⟨v, e, h⟩ => ⟨v, by rw [e]; rfl, h⟩
theorem at_z {α β : Type} {r : α → Hp → V → Prop} {r' : β → Hp → List V → Prop} {x : α × β} : At (cc r r' x) 0 (r x.1) := fun G vs ⟨v, ws, e, h, _⟩ => ⟨v, by rw [e]; rfl, h⟩
theorem at_s {α β : Type} {r : α → Hp → V → Prop} {r' : β → Hp → List V → Prop} {x : α × β} {n : Nat} (h : At (r' x.2) n P) : At (cc r r' x) (n + 1) P := fun G vs ⟨v, ws, e, _, h'⟩ => by
  obtain ⟨u, h1, h2⟩ := h G ws h'
  exact ⟨u, by rw [e]; exact h1, h2⟩
theorem d_ixT {α : Type} {r : α → Hp → List V → Prop} [∀ x, MonoA (r x)] {x : α} {n : Nat} (ha : D X a σ G cs (rT X.K r x)) (hb : D X b σ G cs (rI (n : Int))) (hat : At (r x) n P) (hs : PlainIx b := by exact fun _ _ => rfl) :
    D X (.Subscript a b pos) σ G cs P :=
  d_by (pe_ix ix_tup (sE X a) (sE X b) hs) fun G1 H s d Q q => ha G1 H s d _ fun G2 H2 u s2 d2 hu => hb G2 H2 (s.trans s2) d2 _ fun G3 H3 y s3 d3 hy => by
    obtain ⟨l, vs, e, hl, hr⟩ := Mono.mono s3 hu
    obtain ⟨v, hv, hp⟩ := hat G3 vs hr
    exact ⟨l, vs, (n : Int), v, e, hy, seqT d3.same hl, atI_nat hv, q G3 H3 v (s2.trans s3) d3 hp⟩
theorem d_lenL {α : Type} {r : α → Hp → V → Prop} {xs : List α} {x : Str} [∀ x, Mono (r x)] (hm : X.mg x = none) (ha : D X a σ G cs (rdL X.K cs r xs)) (hg : Gl X x := by rfl) (hv : bootBuiltins x = some (.builtin "len") := by first | exact PySem.boot_len | decide +kernel) (hn : x ≠ "__name__" := by decide) (hd : (x == ("__debug__" : Str)) = false := by decide)
    (he : starEach [a] X.env = (false, eval a X.env) :: starEach [] X.env := by rfl) (hpl : (backTo pos (starEach [] X.env)).any (·.1) = false := by rfl) : D X (.Call (.Name x p) [a] [] pos) σ G cs (rI (xs.length : Int)) :=
  d_callB call_len hm (a_cons ha a_nil he) (fun G1 H vs s d hvs Q q => by
    obtain ⟨v, ws, e1, h1, h2⟩ := hvs
    cases h2
    obtain ⟨l, us, e, hl, hr⟩ := h1.sq d
    subst e
    exact ⟨_, xs.length, e1, .inl ⟨us, hl, hr.length⟩, q G1 H _ (Same.refl _) d rfl⟩) hg hv hn hd he hpl
theorem d_lenS {l : List Nat} {x : Str} (hm : X.mg x = none) (ha : D X a σ G cs (rS l)) (hl : l.length ≤ sizeLine) (hg : Gl X x := by rfl) (hv : bootBuiltins x = some (.builtin "len") := by first | exact PySem.boot_len | decide +kernel) (hn : x ≠ "__name__" := by decide) (hd : (x == ("__debug__" : Str)) = false := by decide)
    (he : starEach [a] X.env = (false, eval a X.env) :: starEach [] X.env := by rfl) (hpl : (backTo pos (starEach [] X.env)).any (·.1) = false := by rfl) : D X (.Call (.Name x p) [a] [] pos) σ G cs (rI (l.length : Int)) :=
  d_callB call_len hm (a_cons ha a_nil he) (fun G1 H vs s d hvs Q q => by
    obtain ⟨v, ws, e1, h1, h2⟩ := hvs
    cases h2
    cases h1
    exact ⟨_, l.length, e1, ⟨by rw [SX.S_len]; exact hl, (SX.S_len l).symm⟩, q G1 H _ (Same.refl _) d rfl⟩) hg hv hn hd he hpl
theorem d_int1 {x : Str} (hm : X.mg x = none) (ha : D X a σ G cs (rI i)) (hg : Gl X x := by rfl) (hv : bootBuiltins x = some (.type "int") := by decide +kernel) (hn : x ≠ "__name__" := by decide) (hd : (x == ("__debug__" : Str)) = false := by decide)
    (he : starEach [a] X.env = (false, eval a X.env) :: starEach [] X.env := by rfl) (hpl : (backTo pos (starEach [] X.env)).any (·.1) = false := by rfl) : D X (.Call (.Name x p) [a] [] pos) σ G cs (rI i) :=
  d_callTy call_int1 hm (a_cons ha a_nil he) (fun G1 H vs s d hvs Q q => by
    obtain ⟨v, ws, e1, h1, h2⟩ := hvs
    cases h2
    cases h1
    exact .inl ⟨i, e1, q G1 H _ (Same.refl _) d rfl⟩) hg hv hn hd he hpl
theorem d_abs {x : Str} (hm : X.mg x = none) (ha : D X a σ G cs (rI i)) (hg : Gl X x := by rfl) (hv : bootBuiltins x = some (.builtin "abs") := by decide +kernel) (hn : x ≠ "__name__" := by decide) (hd : (x == ("__debug__" : Str)) = false := by decide)
    (he : starEach [a] X.env = (false, eval a X.env) :: starEach [] X.env := by rfl) (hpl : (backTo pos (starEach [] X.env)).any (·.1) = false := by rfl) : D X (.Call (.Name x p) [a] [] pos) σ G cs (rI (if i < 0 then -i else i)) :=
  d_callB call_abs hm (a_cons ha a_nil he) (fun G1 H vs s d hvs Q q => by
    obtain ⟨v, ws, e1, h1, h2⟩ := hvs
    cases h2
    cases h1
    exact ⟨i, e1, q G1 H _ (Same.refl _) d rfl⟩) hg hv hn hd he hpl
theorem d_max2 {x : Str} (hc : X.calm = true) (hm : X.mg x = none) (ha : D X a σ G cs (rI i)) (hb : D X b σ G cs (rI j)) (hg : Gl X x := by rfl) (hv : bootBuiltins x = some (.builtin "max") := by decide +kernel) (hn : x ≠ "__name__" := by decide) (hd : (x == ("__debug__" : Str)) = false := by decide)
    (he : starEach [a, b] X.env = (false, eval a X.env) :: starEach [b] X.env := by rfl) (he2 : starEach [b] X.env = (false, eval b X.env) :: starEach [] X.env := by rfl) (hpl : (backTo pos (starEach [b] X.env)).any (·.1) = false := by rfl) : D X (.Call (.Name x p) [a, b] [] pos) σ G cs (rI (if j > i then j else i)) :=
  d_callB (call_max2 hc) hm (a_cons ha (a_cons hb a_nil he2) he) (fun G1 H vs s d hvs Q q => by
    obtain ⟨v, ws, e1, h1, v2, ws2, e2, h2, h3⟩ := hvs
    cases h3
    cases h1
    cases h2
    subst e2
    exact ⟨i, j, e1, q G1 H _ (Same.refl _) d rfl⟩) hg hv hn hd he hpl
theorem d_min2 {x : Str} (hc : X.calm = true) (hm : X.mg x = none) (ha : D X a σ G cs (rI i)) (hb : D X b σ G cs (rI j)) (hg : Gl X x := by rfl) (hv : bootBuiltins x = some (.builtin "min") := by decide +kernel) (hn : x ≠ "__name__" := by decide) (hd : (x == ("__debug__" : Str)) = false := by decide)
    (he : starEach [a, b] X.env = (false, eval a X.env) :: starEach [b] X.env := by rfl) (he2 : starEach [b] X.env = (false, eval b X.env) :: starEach [] X.env := by rfl) (hpl : (backTo pos (starEach [b] X.env)).any (·.1) = false := by rfl) : D X (.Call (.Name x p) [a, b] [] pos) σ G cs (rI (if j < i then j else i)) :=
  d_callB (call_min2 hc) hm (a_cons ha (a_cons hb a_nil he2) he) (fun G1 H vs s d hvs Q q => by
    obtain ⟨v, ws, e1, h1, v2, ws2, e2, h2, h3⟩ := hvs
    cases h3
    cases h1
    cases h2
    subst e2
    exact ⟨i, j, e1, q G1 H _ (Same.refl _) d rfl⟩) hg hv hn hd he hpl
theorem rs_int {xs : List Int} {vs : List V} (h : Rs rI G xs vs) : vs = xs.map V.int := h.map fun _ _ e => e
theorem rs_bl {xs : List Bool} {vs : List V} (h : Rs rB G xs vs) : vs = xs.map V.bl := h.map fun _ _ e => e
theorem d_sum {xs : List Int} {x : Str} (hc : X.calm = true) (hm : X.mg x = none) (ha : D X a σ G cs (rdL X.K cs rI xs)) (hg : Gl X x := by rfl) (hv : bootBuiltins x = some (.builtin "sum") := by decide +kernel) (hn : x ≠ "__name__" := by decide) (hd : (x == ("__debug__" : Str)) = false := by decide)
    (he : starEach [a] X.env = (false, eval a X.env) :: starEach [] X.env := by rfl) (hpl : (backTo pos (starEach [] X.env)).any (·.1) = false := by rfl) : D X (.Call (.Name x p) [a] [] pos) σ G cs (rI xs.sum) :=
  d_callB (cr_sum hc) hm (a_cons ha a_nil he) (fun G1 H vs s d hvs Q q => by
    obtain ⟨v, ws, e1, h1, h2⟩ := hvs
    cases h2
    obtain ⟨l, us, e, hl, hr⟩ := h1.sq d
    subst e
    have hu := rs_int hr
    subst hu
    exact ⟨l, xs, e1, hl, q G1 H _ (Same.refl _) d rfl⟩) hg hv hn hd he hpl
/-- the greatest, the least of a list -/
def maxL (xs : List Int) : Int := xs.foldl max (xs.headD 0)
def minL (xs : List Int) : Int := xs.foldl min (xs.headD 0)
theorem foldl_max : ∀ (xs : List Int) (z : Int), (xs.foldl max z = z ∨ xs.foldl max z ∈ xs) ∧ z ≤ xs.foldl max z ∧ ∀ y ∈ xs, y ≤ xs.foldl max z
  | [], z => ⟨.inl rfl, Int.le_refl _, fun _ h => nomatch h⟩
  | x :: xs, z => by
    obtain ⟨h1, h2, h3⟩ := foldl_max xs (max z x)
    show ((x :: xs).foldl max z = z ∨ (x :: xs).foldl max z ∈ x :: xs) ∧ z ≤ (x :: xs).foldl max z ∧ ∀ y ∈ x :: xs, y ≤ (x :: xs).foldl max z
    rw [List.foldl_cons]
    refine ⟨?_, by omega, fun y hy => ?_⟩
    · rcases h1 with h1 | h1
      · rw [h1]
        by_cases c : z ≤ x
        · right
          rw [Int.max_eq_right c]
          exact List.mem_cons_self
        · left
          exact Int.max_eq_left (by omega)
      · right
        exact List.mem_cons_of_mem _ h1
    · rcases List.mem_cons.mp hy with e | hy
      · subst e
        omega
      · exact h3 y hy
theorem foldl_min : ∀ (xs : List Int) (z : Int), (xs.foldl min z = z ∨ xs.foldl min z ∈ xs) ∧ xs.foldl min z ≤ z ∧ ∀ y ∈ xs, xs.foldl min z ≤ y
  | [], z => ⟨.inl rfl, Int.le_refl _, fun _ h => nomatch h⟩
  | x :: xs, z => by
    obtain ⟨h1, h2, h3⟩ := foldl_min xs (min z x)
    show ((x :: xs).foldl min z = z ∨ (x :: xs).foldl min z ∈ x :: xs) ∧ (x :: xs).foldl min z ≤ z ∧ ∀ y ∈ x :: xs, (x :: xs).foldl min z ≤ y
    rw [List.foldl_cons]
    refine ⟨?_, by omega, fun y hy => ?_⟩
    · rcases h1 with h1 | h1
      · rw [h1]
        by_cases c : z ≤ x
        · left
          exact Int.min_eq_left c
        · right
          rw [Int.min_eq_right (by omega)]
          exact List.mem_cons_self
      · right
        exact List.mem_cons_of_mem _ h1
    · rcases List.mem_cons.mp hy with e | hy
      · subst e
        omega
      · exact h3 y hy
theorem maxL_is {xs : List Int} (h : 0 < xs.length) : maxL xs ∈ xs ∧ ∀ y ∈ xs, y ≤ maxL xs := by
  cases xs with
  | nil => exact absurd h (Nat.lt_irrefl _)
  | cons x xs =>
    obtain ⟨h1, h2, h3⟩ := foldl_max (x :: xs) x
    refine ⟨?_, h3⟩
    rcases h1 with h1 | h1
    · show (x :: xs).foldl max x ∈ x :: xs
      rw [h1]
      exact List.mem_cons_self
    · exact h1
theorem minL_is {xs : List Int} (h : 0 < xs.length) : minL xs ∈ xs ∧ ∀ y ∈ xs, minL xs ≤ y := by
  cases xs with
  | nil => exact absurd h (Nat.lt_irrefl _)
  | cons x xs =>
    obtain ⟨h1, h2, h3⟩ := foldl_min (x :: xs) x
    refine ⟨?_, h3⟩
    rcases h1 with h1 | h1
    · show (x :: xs).foldl min x ∈ x :: xs
      rw [h1]
      exact List.mem_cons_self
    · exact h1
theorem d_maxL {xs : List Int} {x : Str} (hc : X.calm = true) (hm : X.mg x = none) (ha : D X a σ G cs (rdL X.K cs rI xs)) (h0 : 0 < xs.length) (hg : Gl X x := by rfl) (hv : bootBuiltins x = some (.builtin "max") := by decide +kernel) (hn : x ≠ "__name__" := by decide) (hd : (x == ("__debug__" : Str)) = false := by decide)
    (he : starEach [a] X.env = (false, eval a X.env) :: starEach [] X.env := by rfl) (hpl : (backTo pos (starEach [] X.env)).any (·.1) = false := by rfl) : D X (.Call (.Name x p) [a] [] pos) σ G cs (rI (maxL xs)) :=
  d_callB (cr_max hc) hm (a_cons ha a_nil he) (fun G1 H vs s d hvs Q q => by
    obtain ⟨v, ws, e1, h1, h2⟩ := hvs
    cases h2
    obtain ⟨l, us, e, hl, hr⟩ := h1.sq d
    subst e
    have hu := rs_int hr
    subst hu
    refine ⟨l, xs, e1, hl, h0, fun m hm hle => q G1 H _ (Same.refl _) d ?_⟩
    obtain ⟨k1, k2⟩ := maxL_is h0
    have e3 : m = maxL xs := Int.le_antisymm (k2 m hm) (hle _ k1)
    rw [e3]
    rfl) hg hv hn hd he hpl
theorem d_minL {xs : List Int} {x : Str} (hc : X.calm = true) (hm : X.mg x = none) (ha : D X a σ G cs (rdL X.K cs rI xs)) (h0 : 0 < xs.length) (hg : Gl X x := by rfl) (hv : bootBuiltins x = some (.builtin "min") := by decide +kernel) (hn : x ≠ "__name__" := by decide) (hd : (x == ("__debug__" : Str)) = false := by decide)
    (he : starEach [a] X.env = (false, eval a X.env) :: starEach [] X.env := by rfl) (hpl : (backTo pos (starEach [] X.env)).any (·.1) = false := by rfl) : D X (.Call (.Name x p) [a] [] pos) σ G cs (rI (minL xs)) :=
  d_callB (cr_min hc) hm (a_cons ha a_nil he) (fun G1 H vs s d hvs Q q => by
    obtain ⟨v, ws, e1, h1, h2⟩ := hvs
    cases h2
    obtain ⟨l, us, e, hl, hr⟩ := h1.sq d
    subst e
    have hu := rs_int hr
    subst hu
    refine ⟨l, xs, e1, hl, h0, fun m hm hle => q G1 H _ (Same.refl _) d ?_⟩
    obtain ⟨k1, k2⟩ := minL_is h0
    have e3 : m = minL xs := Int.le_antisymm (hle _ k1) (k2 m hm)
    rw [e3]
    rfl) hg hv hn hd he hpl

/-! ### made: tuples, lists -/
/-- the arguments as a tuple's places; n of them -/
def Tp (n : Nat) (Ps R : Hp → List V → Prop) : Prop := ∀ G vs, Ps G vs → R G vs ∧ vs.length = n
theorem tp_1 {α : Type} {r : α → Hp → V → Prop} {x : α} : Tp 1 (aC (r x) aN) (c0 r x) := fun G vs ⟨v, ws, e, h, h2⟩ => by
  cases h2
  exact ⟨⟨v, e, h⟩, by rw [e]; rfl⟩
theorem tp_c {α β : Type} {r : α → Hp → V → Prop} {r' : β → Hp → List V → Prop} {x : α} {y : β} {n : Nat} {Ps : Hp → List V → Prop} (h : Tp n Ps (r' y)) : Tp (n + 1) (aC (r x) Ps) (cc r r' (x, y)) := fun G vs ⟨v, ws, e, h1, h2⟩ => by
  obtain ⟨k1, k2⟩ := h G ws h2
  exact ⟨⟨v, ws, e, h1, k1⟩, by rw [e, List.length_cons, k2]⟩
theorem sl_small {n : Nat} (h : n ≤ 16777216) : n ≤ sizeLine := by rw [sizeLine_eq]; exact h
theorem d_tup {α : Type} {r : α → Hp → List V → Prop} {x : α} {Ps : Hp → List V → Prop} {n kk : Nat} [∀ x, MonoA (r x)] (h : A X es σ G cs Ps) (ht : Tp n Ps (r x)) (hn : n ≤ 16777216 := by decide) : D X (.Tuple es kk pos) σ G cs (rT X.K r x) :=
  d_by (pe_tup (sA X es)) fun G1 H s d Q q => h G1 H s d _ fun G2 H2 vs s2 d2 hvs => by
    obtain ⟨k1, k2⟩ := ht G2 vs hvs
    refine ⟨by rw [k2]; exact sl_small hn, fun l hl => ?_⟩
    have sf : Same G2 (upd G2 l (.tup vs)) := Same.fresh d2.same hl _
    exact q _ _ _ (s2.trans sf) (d2.new hl _) ⟨l, vs, rfl, SqT.of upd_same, MonoA.mono sf k1⟩
/-- the arguments as a list's items -/
def Ls {α : Type} (r : α → Hp → V → Prop) (Ps : Hp → List V → Prop) (xs : List α) : Prop := ∀ G vs, Ps G vs → Rs r G xs vs
theorem ls_n {α : Type} {r : α → Hp → V → Prop} : Ls r aN [] := fun G vs h => by cases h; exact .nil
theorem ls_c {α : Type} {r : α → Hp → V → Prop} {x : α} {xs : List α} {Ps : Hp → List V → Prop} (h : Ls r Ps xs) : Ls r (aC (r x) Ps) (x :: xs) := fun G vs ⟨v, ws, e, h1, h2⟩ => by
  rw [e]
  exact .cons h1 (h G ws h2)
/-- a new list, not yet frozen -/
def N (X : Cx) (e : Expr) (σ : L2.St) (G : Hp) (cs : Cells) {α : Type} (r : α → Hp → V → Prop) (xs : List α) : Prop :=
  ∀ G1 H, Same G G1 → Desc G1 cs H → ∀ Q : VK, (∀ G2 H2 l vs, Same G1 G2 → Desc G2 ((l, .lst vs) :: cs) H2 → Rs r G2 xs vs → Q (.ref l) H2) → wE X e σ H Q
theorem d_new {α : Type} {r : α → Hp → V → Prop} [∀ x, Mono (r x)] {xs : List α} (h : N X e σ G cs r xs) : D X e σ G cs (rL X.K r xs) := fun G1 H s d Q q =>
  h G1 H s d Q fun G2 H2 l vs s2 d2 hr => by
    obtain ⟨f1, f2⟩ := d2.freeze
    exact q _ _ _ (s2.trans f1) f2 ⟨l, vs, rfl, SqL.of upd_same, hr.mono f1⟩
theorem n_lst {α : Type} {r : α → Hp → V → Prop} {xs : List α} {Ps : Hp → List V → Prop} (h : A X es σ G cs Ps) (hl : Ls r Ps xs) (hn : xs.length ≤ 16777216 := by first | decide | simp | (simp; omega)) : N X (.List es pos) σ G cs r xs := fun G1 H s d Q q =>
  uE (pe_lst (sA X es)) (h G1 H s d _ fun G2 H2 vs s2 d2 hvs => by
    have hr := hl G2 vs hvs
    exact ⟨by rw [← hr.length]; exact sl_small hn, fun l hl => q G2 _ l vs s2 (d2.newCell hl _) hr⟩)
/-- list(xs) of a list -/
theorem n_listL {α : Type} {r : α → Hp → V → Prop} [∀ x, Mono (r x)] {xs : List α} {x : Str} (hm : X.mg x = none) (ha : D X a σ G cs (rdL X.K cs r xs)) (hg : Gl X x := by rfl) (hv : bootBuiltins x = some (.type "list") := by decide +kernel) (hn : x ≠ "__name__" := by decide) (hd : (x == ("__debug__" : Str)) = false := by decide)
    (he : starEach [a] X.env = (false, eval a X.env) :: starEach [] X.env := by rfl) (hpl : (backTo pos (starEach [] X.env)).any (·.1) = false := by rfl) : N X (.Call (.Name x p) [a] [] pos) σ G cs r xs := fun G1 H s d Q q =>
  uE (pe_callTy call_list_of hg hm hv (sA X [a]) (hn := hn) (hdb := hd) (he := he) (hpl := hpl)) (a_cons ha a_nil he G1 H s d _ fun G2 H2 vs s2 d2 hvs => by
    obtain ⟨v, ws, e1, h1, h2⟩ := hvs
    cases h2
    obtain ⟨l, us, e, hl, hr⟩ := h1.sq d2
    subst e
    exact ⟨l, us, e1, .inl hl, fun l' hl' => q G2 _ l' us s2 (d2.newCell hl' _) hr⟩)
end

section
variable {ε S L R : Type} {X : Cx} {W : ε → L2.St → Hp → Prop} {σ : L2.St} {G : Hp} {cs : Cells} {Φ : Po ε S L R} {m : Out ε S L R} {st : Stmt} {rest body : List Stmt} {e o : Expr} {P : Hp → V → Prop} {pos p : Pos}
/-- name = a new list that will change -/
theorem b_setN {α : Type} {r : α → Hp → V → Prop} {xs : List α} (i : Nat) {x : Str} (hN : X.N.Nodup) (he : N X e σ G cs r xs) (k : ∀ l vs G1, Same G G1 → Rs r G1 xs vs → B X W rest (σ.set i (some (.ref l))) G1 ((l, .lst vs) :: cs) Φ m) (hi : X.N[i]? = some x := by rfl) (hx : Loc X.env.scope x := by first | exact Or.inl rfl | exact Or.inr rfl)
    (hs : swapsWith e (some (.Name x p)) pos.line X.env = pure false := by rfl) (hf : X.fn x = true ∨ X.env.scope.names.lookup x = some .local := by first | exact .inl rfl | exact .inr rfl) : B X W (.Assign [.Name x p] e pos :: rest) σ G cs Φ m :=
  b_cons (ps_set hN hi hx (sE X e) hs hf) fun H d E w => he G H (Same.refl _) d _ fun G2 H2 l vs s2 d2 hr => k l vs G2 s2 hr H2 d2 E (w.up s2)
/-- xs.append(e), xs the cell at k -/
theorem b_app (k : Nat) {l : Addr} {vs : List V} {apos cpos : Pos} (hk : cs[k]? = some (l, .lst vs)) (ho : D X o σ G cs (rV (.ref l))) (he : D X e σ G cs P) (hz : vs.length < sizeLine)
    (q : ∀ v G1, Same G G1 → P G1 v → B X W rest σ G1 (cs.set k (l, .lst (vs ++ [v]))) Φ m) (hs : swapsWith (.Call (.Attribute o "append" apos) [e] [] cpos) none pos.line X.env = pure false := by rfl)
    (hbase : attributeBase o "append" X.env (eval o X.env) = eval o X.env := by rfl)
    (hfew : ((backTo cpos (starEach [e] X.env)).all (fun x => !x.1) && (backToKw cpos (keywordEach [] X.env)).all (fun x => x.1.isSome) && decide ([e].length + ([] : List Keyword).length + (if ([] : List Keyword).isEmpty then 0 else 1) < 30)) = true := by rfl)
    (hline : (apos.endLine == cpos.line) = true := by rfl) (hst : starEach [e] X.env = (false, eval e X.env) :: starEach [] X.env := by rfl) (hplain : (backTo cpos (starEach [] X.env)).any (·.1) = false := by rfl) :
    B X W (.Expr (.Call (.Attribute o "append" apos) [e] [] cpos) pos :: rest) σ G cs Φ m :=
  b_cons (ps_expr (pe_bm PySem.F.plainAttrs_list PySem.F.slot_list_append PySem.F.type_list_append mt_append (sE X o) (pa_cons (sE X e) pa_nil hst) hbase hfew hline hst hplain) hs) fun H d E w =>
    ho G H (Same.refl _) d _ fun G2 H2 u s2 d2 hu => by
      have eu : u = .ref l := hu
      subst eu
      refine ⟨.inl ⟨rfl, vs, SqL.of (d2.at_ (List.mem_of_getElem? hk))⟩, he G2 H2 s2 d2 _ fun G3 H3 v s3 d3 hv => ?_⟩
      exact ⟨l, vs, v, rfl, rfl, d3.at_ (List.mem_of_getElem? hk), hz, q v G3 (s2.trans s3) hv _ (d3.write hk _) E (w.up (s2.trans s3))⟩
theorem perm_at {cs : Cells} {k : Nat} {c : Addr × HO} (h : cs[k]? = some c) : cs.Perm (c :: cs.eraseIdx k) := by
  induction cs generalizing k with
  | nil => cases k <;> cases h
  | cons x cs ih =>
    cases k with
    | zero =>
      have e : x = c := Option.some.inj h
      subst e
      exact List.Perm.refl _
    | succ k => exact ((ih (k := k) h).cons x).trans (List.Perm.swap ..)
/-- the cell at k changes no more -/
theorem b_freeze (k : Nat) {l : Addr} {u : HO} (hk : cs[k]? = some (l, u)) (h : Same G (upd G l u) → (upd G l u) l = some u → B X W rest σ (upd G l u) (cs.eraseIdx k) Φ m) : B X W rest σ G cs Φ m := fun H d E w => by
  obtain ⟨f1, f2⟩ := (d.perm (perm_at hk)).freeze
  exact h f1 upd_same H f2 E (w.up f1)
end
end J

namespace J
open PySem L2 PyProof.Rows

/-! ### what is walked -/
/-- lo, lo + 1, .. below hi -/
def rng (lo hi : Int) : List Int := (List.range (hi - lo).toNat).map fun k : Nat => lo + (k : Int)
theorem rng_length (lo hi : Int) : (rng lo hi).length = (hi - lo).toNat := by simp [rng]
theorem rng_get {lo hi : Int} {i : Nat} (h : i < (hi - lo).toNat) : (rng lo hi)[i]? = some (lo + (i : Int)) := by simp [rng, h]
theorem rng_mem {lo hi x : Int} : x ∈ rng lo hi ↔ lo ≤ x ∧ x < hi := by
  unfold rng
  rw [List.mem_map]
  constructor
  · rintro ⟨k, hk, rfl⟩
    have := List.mem_range.mp hk
    omega
  · rintro ⟨h1, h2⟩
    exact ⟨(x - lo).toNat, List.mem_range.mpr (by omega), by omega⟩
/-- the items with their places -/
def enumL {α : Type} (xs : List α) : List (Int × α) := xs.zipIdx.map fun p => ((p.2 : Int), p.1)
theorem enumL_length {α : Type} (xs : List α) : (enumL xs).length = xs.length := by simp [enumL]
theorem enumL_get {α : Type} {xs : List α} {i : Nat} {x : α} (h : xs[i]? = some x) : (enumL xs)[i]? = some ((i : Int), x) := by simp [enumL, h]
theorem enumL_getE {α : Type} {xs : List α} {i : Nat} {p : Int × α} (h : (enumL xs)[i]? = some p) : p.1 = (i : Int) ∧ xs[i]? = some p.2 := by
  have hl : i < (enumL xs).length := (List.getElem?_eq_some_iff.mp h).1
  rw [enumL_length] at hl
  have e := enumL_get (xs := xs) (i := i) (x := xs[i]) (by simp [hl])
  rw [h] at e
  cases e
  exact ⟨rfl, by simp [hl]⟩
def rU (K : PySem.W.Frag) {α : Type} (r : α → Hp → V → Prop) (xs : List α) : Hp → V → Prop := fun G v => ∃ a vs, v = .ref a ∧ SqT K G a vs ∧ Rs r G xs vs
instance (K : PySem.W.Frag) {α : Type} (r : α → Hp → V → Prop) [m : ∀ x, Mono (r x)] (xs : List α) : Mono (rU K r xs) :=
  ⟨fun e ⟨a, vs, h1, h2, h3⟩ => ⟨a, vs, h1, seqT e h2, h3.mono e⟩⟩
section
variable {X : Cx} {σ : L2.St} {G : Hp} {cs : Cells} {e a b tg iter : Expr} {es : List Expr} {pos p : Pos} {α : Type} {r : α → Hp → V → Prop} {xs : List α}
theorem wd_list {l : Addr} {vs : List V} {C : Cells → Prop} [m : ∀ x, Mono (r x)] (hr : Rs r G xs vs) (hC : ∀ G1 H cs, Same G G1 → C cs → Desc G1 cs H → SqL X.K H l vs) : WalkD (Itl X.K l) xs G C r :=
  ⟨fun i G1 H cs hi s c d => walk_list.goes i H (by rw [← hr.length]; exact hi) (hC G1 H cs s c d), fun G1 H cs s c d => by
    have q := walk_list.stops H (hC G1 H cs s c d)
    rw [← hr.length] at q
    exact q, fun i x G1 H cs v H' hx s c d y => by
    have hi : i < xs.length := (List.getElem?_eq_some_iff.mp hx).1
    obtain ⟨e, hv⟩ := walk_list.yields i H v H' (by rw [← hr.length]; exact hi) (hC G1 H cs s c d) y
    obtain ⟨x', h1, h2⟩ := hr.getV hv
    rw [hx] at h1
    cases h1
    subst e
    exact ⟨G1, Same.refl _, d, (m x).mono s h2⟩⟩
theorem i_listF [∀ x, Mono (r x)] (h : D X iter σ G cs (rL X.K r xs)) : I X tg iter σ G cs (fun _ => True) xs r :=
  ⟨_, pi_list (sE X iter), fun G1 H s d Rr k => h G1 H s d _ fun G2 H2 v s2 d2 hv => by
    obtain ⟨l, vs, e, hl, hr⟩ := hv
    exact ⟨l, e, ⟨vs, d2.same.seq hl⟩, k _ G2 H2 s2 d2 (wd_list hr fun G3 H3 cs3 s3 _ d3 => d3.same.seq (s3.seq hl))⟩⟩
theorem i_listC {l : Addr} {vs : List V} [∀ x, Mono (r x)] (h : D X iter σ G cs (rV (.ref l))) (hm : (l, .lst vs) ∈ cs) (hr : Rs r G xs vs) : I X tg iter σ G cs (fun cs' => (l, .lst vs) ∈ cs') xs r :=
  ⟨_, pi_list (sE X iter), fun G1 H s d Rr k => h G1 H s d _ fun G2 H2 v s2 d2 hv =>
    ⟨l, hv, ⟨vs, SqL.of (d2.at_ hm)⟩, k _ G2 H2 s2 d2 (wd_list (hr.mono (s.trans s2)) fun G3 H3 cs3 s3 c3 d3 => SqL.of (d3.at_ c3))⟩⟩
theorem i_tupU [m : ∀ x, Mono (r x)] (h : D X iter σ G cs (rU X.K r xs)) : I X tg iter σ G cs (fun _ => True) xs r :=
  ⟨_, pi_tup (sE X iter), fun G1 H s d Rr k => h G1 H s d _ fun G2 H2 v s2 d2 hv => by
    obtain ⟨l, vs, e, hl, hr⟩ := hv
    refine ⟨l, e, ⟨vs, seqT d2.same hl⟩, k _ G2 H2 s2 d2 ⟨fun i G3 H3 cs3 hi s3 _ d3 => walk_tup.goes i H3 (by rw [← hr.length]; exact hi) (seqT d3.same (seqT s3 hl)), fun G3 H3 cs3 s3 _ d3 => ?_, fun i x G3 H3 cs3 v H' hx s3 _ d3 y => ?_⟩⟩
    · have q := walk_tup.stops H3 (seqT d3.same (seqT s3 hl))
      rw [← hr.length] at q
      exact q
    · have hi : i < xs.length := (List.getElem?_eq_some_iff.mp hx).1
      obtain ⟨e, hv⟩ := walk_tup.yields i H3 v H' (by rw [← hr.length]; exact hi) (seqT d3.same (seqT s3 hl)) y
      obtain ⟨x', h1, h2⟩ := hr.getV hv
      rw [hx] at h1
      cases h1
      subst e
      exact ⟨G3, Same.refl _, d3, (m x).mono s3 h2⟩⟩
theorem wd_rng {lo hi : Int} {C : Cells → Prop} : WalkD (Itr lo (hi - lo).toNat) (rng lo hi) G C rI :=
  ⟨fun i G1 H cs h s c d => by
    rw [rng_length] at h
    exact h, fun G1 H cs s c d => by
    show (hi - lo).toNat ≤ (rng lo hi).length
    rw [rng_length]
    exact Nat.le_refl _, fun i x G1 H cs v H' hx s c d y => by
    have h : i < (rng lo hi).length := (List.getElem?_eq_some_iff.mp hx).1
    rw [rng_length] at h
    rw [rng_get h] at hx
    cases hx
    obtain ⟨e1, e2⟩ := y
    subst e1
    exact ⟨G1, Same.refl _, d, e2⟩⟩
theorem i_rng1 {j : Int} (hm : X.mg "range" = none) (ha : D X a σ G cs (rI j)) (h1 : -(2 ^ 62) ≤ j) (h2 : j < 2 ^ 62) (hg : Gl X "range" := by rfl) (hs : starEach [a] X.env = [(false, eval a X.env)] := by rfl) (hst : starEach [a] X.env = (false, eval a X.env) :: starEach [] X.env := by rfl) :
    I X tg (.Call (.Name "range" p) [a] [] pos) σ G cs (fun _ => True) (rng 0 j) rI :=
  ⟨_, pi_range1 hg hm (sA X [a]) hs, fun G1 H s d Rr k => a_cons ha a_nil hst G1 H s d _ fun G2 H2 vs s2 d2 hvs => by
    obtain ⟨v, ws, e1, k1, k2⟩ := hvs
    cases k2
    cases k1
    refine ⟨j, e1, h1, h2, k _ G2 H2 s2 d2 ?_⟩
    have q := wd_rng (G := G2) (lo := 0) (hi := j) (C := fun _ => True)
    rw [Int.sub_zero] at q
    exact q⟩
theorem i_rng2 {i j : Int} (hm : X.mg "range" = none) (ha : D X a σ G cs (rI i)) (hb : D X b σ G cs (rI j)) (h : -(2 ^ 62) ≤ i ∧ i < 2 ^ 62 ∧ -(2 ^ 62) ≤ j ∧ j < 2 ^ 62) (hg : Gl X "range" := by rfl) (hs : starEach [a, b] X.env = [(false, eval a X.env), (false, eval b X.env)] := by rfl) (hs2 : starEach [b] X.env = [(false, eval b X.env)] := by rfl)
    (hst : starEach [a, b] X.env = (false, eval a X.env) :: starEach [b] X.env := by rfl) (hst2 : starEach [b] X.env = (false, eval b X.env) :: starEach [] X.env := by rfl) : I X tg (.Call (.Name "range" p) [a, b] [] pos) σ G cs (fun _ => True) (rng i j) rI :=
  ⟨_, pi_range2 hg hm (sA X [a, b]) hs hs2, fun G1 H s d Rr k => a_cons ha (a_cons hb a_nil hst2) hst G1 H s d _ fun G2 H2 vs s2 d2 hvs => by
    obtain ⟨v, ws, e1, k1, v2, ws2, e2, k2, k3⟩ := hvs
    cases k3
    cases k1
    cases k2
    subst e2
    exact ⟨i, j, e1, h, k _ G2 H2 s2 d2 wd_rng⟩⟩
def rC (c : Nat) : Hp → V → Prop := rS [c]
instance (c : Nat) : Mono (rC c) := ⟨fun _ h => h⟩
theorem i_str {l : List Nat} (h : D X iter σ G cs (rS l)) : I X tg iter σ G cs (fun _ => True) l rC :=
  ⟨_, pi_str (sE X iter), fun G1 H s d Rr k => h G1 H s d _ fun G2 H2 v s2 d2 hv => by
    refine ⟨SX.S l, hv, k _ G2 H2 s2 d2 ⟨fun i G3 H3 cs3 hi s3 _ d3 => ?_, fun G3 H3 cs3 s3 _ d3 => ?_, fun i x G3 H3 cs3 v H' hx s3 _ d3 y => ?_⟩⟩
    · show i < (SX.S l).cps.size
      simpa using hi
    · show (SX.S l).cps.size ≤ l.length
      simp
    · obtain ⟨e, c, h1, h2⟩ := y
      subst e
      have h3 : l[i]? = some c := by simpa using h1
      rw [hx] at h3
      cases h3
      exact ⟨G3, Same.refl _, d3, h2⟩⟩
theorem wd_enum {l : Addr} {vs : List V} {C : Cells → Prop} [m : ∀ x, Mono (r x)] (hr : Rs r G xs vs) (hC : ∀ G1 H cs, Same G G1 → C cs → Desc G1 cs H → SqL X.K H l vs) : WalkD (Ite X.K l) (enumL xs) G C (rT X.K (cc rI (c0 r))) :=
  ⟨fun i G1 H cs hi s c d => walk_enum.goes i H (by rw [enumL_length] at hi; rw [← hr.length]; exact hi) (hC G1 H cs s c d), fun G1 H cs s c d => by
    have q := walk_enum.stops H (hC G1 H cs s c d)
    rw [← hr.length] at q
    rw [enumL_length]
    exact q, fun i x G1 H cs v H' hx s c d y => by
    obtain ⟨e1, e2⟩ := enumL_getE hx
    have hi : i < xs.length := (List.getElem?_eq_some_iff.mp e2).1
    obtain ⟨t, u, w, h1, h2, h3, h4, h5⟩ := walk_enum.yields i H v H' (by rw [← hr.length]; exact hi) (hC G1 H cs s c d) y
    obtain ⟨x', k1, k2⟩ := hr.getV h5
    rw [e2] at k1
    cases k1
    cases h4
    subst h3
    have sf : Same G1 (upd G1 t (.tup [.int (i : Nat), w])) := Same.fresh d.same h2 _
    refine ⟨_, sf, d.new h2 _, t, [.int (i : Nat), w], h1, SqT.of upd_same, .int (i : Nat), [w], rfl, ?_, w, rfl, (m x.2).mono (s.trans sf) k2⟩
    show V.int _ = V.int _
    rw [e1]⟩
theorem i_enumF {elts : List Expr} {kk : Nat} {tpos : Pos} [∀ x, Mono (r x)] (hm : X.mg "enumerate" = none) (h : D X a σ G cs (rL X.K r xs)) (hg : Gl X "enumerate" := by rfl) (hs : starEach [a] X.env = [(false, eval a X.env)] := by rfl) (hst : starEach [a] X.env = (false, eval a X.env) :: starEach [] X.env := by rfl) :
    I X (.Tuple elts kk tpos) (.Call (.Name "enumerate" p) [a] [] pos) σ G cs (fun _ => True) (enumL xs) (rT X.K (cc rI (c0 r))) :=
  ⟨_, pi_enum hg hm (sA X [a]) hs, fun G1 H s d Rr k => a_cons h a_nil hst G1 H s d _ fun G2 H2 vs s2 d2 hvs => by
    obtain ⟨v, ws, e1, k1, k2⟩ := hvs
    cases k2
    obtain ⟨l, us, e, hl, hr⟩ := k1
    subst e
    exact ⟨l, us, e1, d2.same.seq hl, k _ G2 H2 s2 d2 (wd_enum hr fun G3 H3 cs3 s3 _ d3 => d3.same.seq (s3.seq hl))⟩⟩

/-! ### targets -/
def sxN (i : Nat) {α : Type} (r : α → Hp → V → Prop) : α → Hp → L2.St → L2.St → Prop := fun x G σ σ' => ∃ v, r x G v ∧ σ' = σ.set i (some v)
theorem tg_name (i : Nat) {x : Str} (hN : X.N.Nodup) (hi : X.N[i]? = some x := by rfl) (hx : Loc X.env.scope x := by first | exact Or.inl rfl | exact Or.inr rfl) (hf : X.fn x = true ∨ X.env.scope.names.lookup x = some .local := by first | exact .inl rfl | exact .inr rfl) : Tg X (.Name x pos) r (sxN i r) :=
  ⟨_, pg_name hN hi hx hf, fun x v G cs H σ h d Q q => q _ ⟨v, h, rfl⟩⟩
def Tgs {α : Type} (X : Cx) (ts : List Expr) (R : α → Hp → List V → Prop) (n : Nat) (Sx : α → Hp → L2.St → L2.St → Prop) : Prop :=
  ∃ g, PGs X ts g ∧ ∀ x vs G cs H σ, R x G vs → Desc G cs H → vs.length = n ∧ ∀ Q : L2.St → Hp → Prop, (∀ σ', Sx x G σ σ' → Q σ' H) → g vs σ H Q
theorem tgs_1 {S1 : α → Hp → L2.St → L2.St → Prop} (h : Tg X e r S1) (hs : (assignEach [e] X.env).map (·.2) = assign e X.env :: (assignEach [] X.env).map (·.2) := by rfl) : Tgs X [e] (c0 r) 1 S1 := by
  obtain ⟨g, h1, h2⟩ := h
  refine ⟨_, pgs_cons (hs := hs) h1 pgs_nil, fun x vs G cs H σ hr d => ?_⟩
  obtain ⟨v, rfl, hv⟩ := hr
  exact ⟨rfl, fun Q q => ⟨v, [], rfl, h2 x v G cs H σ hv d _ fun σ' hs => ⟨rfl, q σ' hs⟩⟩⟩
theorem tgs_c {β : Type} {r' : β → Hp → List V → Prop} {n : Nat} {S1 : α → Hp → L2.St → L2.St → Prop} {S2 : β → Hp → L2.St → L2.St → Prop} (h : Tg X e r S1) (h' : Tgs X es r' n S2) (hs : (assignEach (e :: es) X.env).map (·.2) = assign e X.env :: (assignEach es X.env).map (·.2) := by rfl) :
    Tgs X (e :: es) (cc r r') (n + 1) (fun x G σ σ' => ∃ σ1, S1 x.1 G σ σ1 ∧ S2 x.2 G σ1 σ') := by
  obtain ⟨g, h1, h2⟩ := h
  obtain ⟨g', h3, h4⟩ := h'
  refine ⟨_, pgs_cons (hs := hs) h1 h3, fun x vs G cs H σ hr d => ?_⟩
  obtain ⟨v, ws, rfl, hv, hw⟩ := hr
  refine ⟨by rw [List.length_cons, (h4 x.2 ws G cs H σ hw d).1], fun Q q => ⟨v, ws, rfl, h2 x.1 v G cs H σ hv d _ fun σ1 hs => (h4 x.2 ws G cs H σ1 hw d).2 Q fun σ' hs' => q σ' ⟨σ1, hs, hs'⟩⟩⟩
theorem tg_tup {R : α → Hp → List V → Prop} {n kk : Nat} {Sx : α → Hp → L2.St → L2.St → Prop} (hc : X.calm = true) (h : Tgs X es R n Sx) (hn : (assignEach es X.env).length = n := by rfl) (hst : (assignEach es X.env).findIdx? (·.1) = none := by rfl) : Tg X (.Tuple es kk pos) (rT X.K R) Sx := by
  obtain ⟨g, h1, h2⟩ := h
  refine ⟨_, pg_tup hc h1 hn hst, fun x v G cs H σ hr d Q q => ?_⟩
  obtain ⟨l, vs, e, hl, hR⟩ := hr
  obtain ⟨k1, k2⟩ := h2 x vs G cs H σ hR d
  exact ⟨l, vs, e, seqT d.same hl, k1, k2 Q q⟩
end
section
variable {ε S L R : Type} {X : Cx} {W : ε → L2.St → Hp → Prop} {σ : L2.St} {G : Hp} {cs : Cells} {Φ : Po ε S L R} {m : Out ε S L R} {st : Stmt} {rest body : List Stmt} {e o tg : Expr} {P : Hp → V → Prop} {pos p : Pos}
/-- a target of any form = e -/
theorem b_asg {α : Type} {r : α → Hp → V → Prop} {x : α} {Sx : α → Hp → L2.St → L2.St → Prop} (he : D X e σ G cs (r x)) (ht : Tg X tg r Sx) (k : ∀ σ' G1, Same G G1 → Sx x G1 σ σ' → B X W rest σ' G1 cs Φ m)
    (hs : swapsWithSole [tg] e pos.line X.env = pure false := by rfl) (hw : swappedStores [tg] e X.env = pure none := by rfl) (h1 : (assignEach [tg] X.env).map (·.2) = [assign tg X.env] := by rfl) : B X W (.Assign [tg] e pos :: rest) σ G cs Φ m := by
  obtain ⟨g, hg, h2⟩ := ht
  exact b_cons (ps_asg (sE X e) hg hs hw (h1 := h1)) fun H d E w => he G H (Same.refl _) d _ fun G2 H2 v s2 d2 hv => h2 x v G2 cs H2 σ hv d2 _ fun σ' hS => k σ' G2 s2 hS H2 d2 E (w.up s2)
theorem b_augAdd (i : Nat) {x : Str} {p' : Pos} {z y : Int} (hN : X.N.Nodup) (hz : σ[i]? = some (some (.int z))) (he : D X e σ G cs (rI y)) (k : ∀ G1, Same G G1 → B X W rest (σ.set i (some (.int (z + y)))) G1 cs Φ m) (hi : X.N[i]? = some x := by rfl) (hx : Loc X.env.scope x := by first | exact Or.inl rfl | exact Or.inr rfl)
    (hf : X.fn x = true ∨ X.env.scope.names.lookup x = some .local := by first | exact .inl rfl | exact .inr rfl) : B X W (.AugAssign (.Name x p') .Add e pos :: rest) σ G cs Φ m :=
  b_cons (ps_aug hN hi hx (sE X e) ip_add hf) fun H d E w => ⟨_, hz, he G H (Same.refl _) d _ fun G2 H2 v s2 d2 hv => ⟨z, y, rfl, hv, k G2 s2 H2 d2 E (w.up s2)⟩⟩
theorem b_augSub (i : Nat) {x : Str} {p' : Pos} {z y : Int} (hN : X.N.Nodup) (hz : σ[i]? = some (some (.int z))) (he : D X e σ G cs (rI y)) (k : ∀ G1, Same G G1 → B X W rest (σ.set i (some (.int (z - y)))) G1 cs Φ m) (hi : X.N[i]? = some x := by rfl) (hx : Loc X.env.scope x := by first | exact Or.inl rfl | exact Or.inr rfl)
    (hf : X.fn x = true ∨ X.env.scope.names.lookup x = some .local := by first | exact .inl rfl | exact .inr rfl) : B X W (.AugAssign (.Name x p') .Sub e pos :: rest) σ G cs Φ m :=
  b_cons (ps_aug hN hi hx (sE X e) ip_sub hf) fun H d E w => ⟨_, hz, he G H (Same.refl _) d _ fun G2 H2 v s2 d2 hv => ⟨z, y, rfl, hv, k G2 s2 H2 d2 E (w.up s2)⟩⟩
end

/-! ### sorted -/
def srt (xs : List Int) : List Int := xs.mergeSort fun a b => decide (a ≤ b)
def srtR (xs : List Int) : List Int := xs.mergeSort fun a b => decide (b ≤ a)
theorem perm_eq {le : Int → Int → Prop} (anti : ∀ a b, le a b → le b a → a = b) : ∀ {xs ys : List Int}, xs.Perm ys → xs.Pairwise le → ys.Pairwise le → xs = ys
  | [], ys, p, _, _ => (List.nil_perm.mp p).symm
  | x :: xs, [], p, _, _ => absurd (List.perm_nil.mp p) (by simp)
  | x :: xs, y :: ys, p, h1, h2 => by
    have hx : x ∈ y :: ys := p.mem_iff.mp List.mem_cons_self
    have hy : y ∈ x :: xs := p.mem_iff.mpr List.mem_cons_self
    have e : x = y := by
      rcases List.mem_cons.mp hx with e | hx
      · exact e
      · rcases List.mem_cons.mp hy with e | hy
        · exact e.symm
        · exact anti _ _ ((List.pairwise_cons.mp h1).1 y hy) ((List.pairwise_cons.mp h2).1 x hx)
    subst e
    rw [perm_eq anti (List.perm_cons x |>.mp p) (List.pairwise_cons.mp h1).2 (List.pairwise_cons.mp h2).2]
theorem srt_is {xs ys : List Int} (p : ys.Perm xs) (h : ys.Pairwise (· ≤ ·)) : ys = srt xs := by
  refine perm_eq (le := fun a b => a ≤ b) (fun a b => Int.le_antisymm) (p.trans (List.mergeSort_perm xs _).symm) h ?_
  have q := List.pairwise_mergeSort (le := fun a b : Int => decide (a ≤ b)) (fun a b c h1 h2 => by simp at *; omega) (fun a b => by simp; omega) xs
  exact q.imp fun h => of_decide_eq_true h
theorem srtR_is {xs ys : List Int} (p : ys.Perm xs) (h : ys.Pairwise (· ≥ ·)) : ys = srtR xs := by
  refine perm_eq (le := fun a b => b ≤ a) (fun a b h1 h2 => Int.le_antisymm h2 h1) (p.trans (List.mergeSort_perm xs _).symm) h ?_
  have q := List.pairwise_mergeSort (le := fun a b : Int => decide (b ≤ a)) (fun a b c h1 h2 => by simp at *; omega) (fun a b => by simp; omega) xs
  exact q.imp fun h => of_decide_eq_true h
section
variable {X : Cx} {σ : L2.St} {G : Hp} {cs : Cells} {a : Expr} {pos p : Pos} {xs : List Int}
theorem n_sorted (hm : X.mg "sorted" = none) (ha : D X a σ G cs (rdL X.K cs rI xs)) (hg : Gl X "sorted" := by rfl) (hv : bootBuiltins "sorted" = some (.builtin "sorted") := by decide +kernel)
    (he : starEach [a] X.env = (false, eval a X.env) :: starEach [] X.env := by rfl) (hpl : (backTo pos (starEach [] X.env)).any (·.1) = false := by rfl) : N X (.Call (.Name "sorted" p) [a] [] pos) σ G cs rI (srt xs) := fun G1 H s d Q q =>
  uE (pe_callB cr_sortedI hg hm hv (sA X [a]) (he := he) (hpl := hpl)) (a_cons ha a_nil he G1 H s d _ fun G2 H2 vs s2 d2 hvs => by
    obtain ⟨v, ws, e1, h1, h2⟩ := hvs
    cases h2
    obtain ⟨l, us, e, hl, hr⟩ := h1.sq d2
    subst e
    have hu := rs_int hr
    subst hu
    refine ⟨l, xs, e1, hl, fun ys l' hp hs hl' => q G2 _ l' _ s2 (d2.newCell hl' _) ?_⟩
    rw [srt_is hp hs]
    exact Rs.of_map (fun _ => rfl) _)
theorem n_sortedR {kn : Option Str} {jj : Nat} {p2 p3 : Pos} (hk : PK X [⟨kn, .Constant (.bool true) jj p2, p3⟩] (fun _ H Q => Q [.bl true] H)) (hm : X.mg "sorted" = none) (ha : D X a σ G cs (rdL X.K cs rI xs)) (hg : Gl X "sorted" := by rfl) (hv : bootBuiltins "sorted" = some (.builtin "sorted") := by decide +kernel)
    (he : backTo pos (starEach [a] X.env) = (false, eval a X.env) :: backTo pos (starEach [] X.env) := by rfl) (hst : starEach [a] X.env = (false, eval a X.env) :: starEach [] X.env := by rfl) (hpl : (backTo pos (starEach [a] X.env)).any (·.1) = false := by rfl)
    (hall : (backToKw pos (keywordEach [⟨kn, .Constant (.bool true) jj p2, p3⟩] X.env)).all (·.1.isSome) = true := by rfl) (hnone : (backToKw pos (keywordEach [⟨kn, .Constant (.bool true) jj p2, p3⟩] X.env)).any (·.1.isNone) = false := by rfl)
    (hks : (backToKw pos (keywordEach [⟨kn, .Constant (.bool true) jj p2, p3⟩] X.env)).filterMap (·.1) = [Str.ofString "reverse"] := by rfl) :
    N X (.Call (.Name "sorted" p) [a] [⟨kn, .Constant (.bool true) jj p2, p3⟩] pos) σ G cs rI (srtR xs) := fun G1 H s d Q q =>
  uE (pe_callBK (ks := [Str.ofString "reverse"]) (cr_sortedRev (b := true)) hg hm hv (sA X [a]) hk (he := he) (hpl := hpl) (hall := hall) (hnone := hnone) (hks := hks)) (a_cons ha a_nil hst G1 H s d _ fun G2 H2 vs s2 d2 hvs => by
    obtain ⟨v, ws, e1, h1, h2⟩ := hvs
    cases h2
    obtain ⟨l, us, e, hl, hr⟩ := h1.sq d2
    subst e
    have hu := rs_int hr
    subst hu
    refine ⟨l, xs, e1, rfl, hl, fun ys l' hp hs hl' => q G2 _ l' _ s2 (d2.newCell hl' _) ?_⟩
    have hs' : ys.Pairwise (· ≥ ·) := hs
    rw [srtR_is hp hs']
    exact Rs.of_map (fun _ => rfl) _)
end

/-! ### comprehensions -/
def Xb (X : Cx) (scope : Scope) (s : Shared) (H : Hp) (C : Addr) (cl : List (Str × Addr)) (fp : List Addr) : Cx := X.blk s H scope (compEnvC scope cl C X.env) fp
section
variable {X : Cx} {σ : L2.St} {G : Hp} {cs : Cells} {elt tg iter : Expr} {ifs : List Expr} {pos : Pos} {scope : Scope} {own : List (Str × Nat)} {α β : Type} {xs : List α} {Pi : α → Hp → V → Prop} {r : β → Hp → V → Prop} {f : α → β} {q : α → Bool}
/-- a target within a comprehension's block -/
def TgB (X : Cx) (scope : Scope) (tg : Expr) (P : α → Hp → V → Prop) (Sx : α → Hp → L2.St → L2.St → Prop) : Prop :=
  ∃ g, (∀ s H C cl fp, PG (X.blk s H scope (compEnvC scope cl C X.env) fp) tg g) ∧ ∀ x v G cs H σ, P x G v → Desc G cs H → ∀ Q : L2.St → Hp → Prop, (∀ σ', Sx x G σ σ' → Q σ' H) → g v σ H Q
theorem tgb_name (i : Nat) {x : Str} (hN : X.N.Nodup) (hi : X.N[i]? = some x := by rfl) (hx : scope.names.lookup x = some .local := by rfl) : TgB X scope (.Name x pos) Pi (sxN i Pi) :=
  ⟨_, fun s H C cl fp => by
    have k : (X.blk s H scope (compEnvC scope cl C X.env) fp).env.scope.names.lookup x = some .local := by
      first
      | exact lookup_relabel_local hx
      | (show (relabel scope X.env).names.lookup x = some .local
         unfold relabel
         exact lookup_relabel_local hx)
    exact pg_name (X := X.blk s H scope (compEnvC scope cl C X.env) fp) hN hi (.inl k) (.inr k), fun x v G cs H σ h d Q q => q _ ⟨v, h, rfl⟩⟩
/-- [elt for tg in iter if ..]: f of the items that q lets through -/
theorem lc_go {wi : TI} {g : TG} {tt : TT} {te : TE} {Sx : α → Hp → L2.St → L2.St → Prop} {C : Cells → Prop} {vs : List Nat} {H : Hp}
    (hw : ∀ Rr : It → Hp → Prop, (∀ J G2 H2, Same G G2 → Desc G2 cs H2 → WalkD J xs G2 C Pi → Rr J H2) → wi σ H Rr) (hg : ∀ x v G cs H σ, Pi x G v → Desc G cs H → ∀ Q : L2.St → Hp → Prop, (∀ σ', Sx x G σ σ' → Q σ' H) → g v σ H Q)
    (hC : ∀ l us, C ((l, .lst us) :: cs)) (hwipe : ∀ x G1 σ', Sx x G1 (wipe σ vs) σ' → wipe σ' vs = wipe σ vs) [∀ y, Mono (r y)]
    (ht : ∀ x, x ∈ xs → ∀ G1 cs1 σ', Same G G1 → (∃ c, cs1 = c :: cs) → Sx x G1 (wipe σ vs) σ' → ∀ G2 H2, Same G1 G2 → Desc G2 cs1 H2 → ∀ Q : Bool → Hp → Prop, (∀ G3 H3, Same G2 G3 → Desc G3 cs1 H3 → Q (q x) H3) → tt σ' H2 Q)
    (he : ∀ x, x ∈ xs → q x = true → ∀ G1 cs1 σ', Same G G1 → (∃ c, cs1 = c :: cs) → Sx x G1 (wipe σ vs) σ' → ∀ G2 H2, Same G1 G2 → Desc G2 cs1 H2 → ∀ Q : VK, (∀ G3 H3 v, Same G2 G3 → Desc G3 cs1 H3 → r (f x) G3 v → Q v H3) → te σ' H2 Q)
    (hsz : xs.length ≤ 16777215) {Q : VK} (hQ : ∀ G2 H2 l us, Same G G2 → Desc G2 ((l, .lst us) :: cs) H2 → Rs r G2 ((xs.filter q).map f) us → Q (.ref l) H2) : tLc wi g tt te vs σ H Q := by
  refine hw _ fun J G2 H2 s2 d2 wk => fun l hl => ?_
  have hlen : ∀ i, ((xs.take i).filter q).length ≤ i := fun i => Nat.le_trans (List.length_filter_le _ _) (by rw [List.length_take]; omega)
  let Pv : Nat → Hp → Prop := fun i H1 => ∃ G1 us, i ≤ xs.length ∧ Same G2 G1 ∧ Desc G1 ((l, .lst us) :: cs) H1 ∧ Rs r G1 (((xs.take i).filter q).map f) us
  refine ⟨fun i n H1 => n = xs.length - i ∧ Pv i H1, ⟨xs.length, rfl, G2, [], Nat.zero_le _, Same.refl _, d2.newCell hl _, .nil⟩, ?_⟩
  rintro i n H1 ⟨rfl, G1, us, hi, s1, d1, hr⟩
  by_cases hlt : i < xs.length
  · refine .inr ⟨wk.goes i G1 H1 _ hlt s1 (hC _ _) d1, Pv (i + 1), fun H' p' => ⟨_, by omega, rfl, p'⟩, fun v H3 y => ?_⟩
    have hx : xs[i]? = some xs[i] := by simp [hlt]
    have hm : xs[i] ∈ xs := List.getElem_mem hlt
    obtain ⟨G3, s3, d3, pv⟩ := wk.yields i xs[i] G1 H1 _ v H3 hx s1 (hC _ _) d1 y
    have et : xs.take (i + 1) = xs.take i ++ [xs[i]] := by simp
    refine hg xs[i] v G3 _ H3 _ pv d3 _ fun σ' hS => ⟨hwipe _ _ _ hS, ?_⟩
    refine ht xs[i] hm G3 _ σ' ((s2.trans s1).trans s3) ⟨_, rfl⟩ hS G3 H3 (Same.refl _) d3 _ fun G4 H4 s4 d4 => ?_
    cases hq : q xs[i] with
    | true =>
      refine iteT (he xs[i] hm hq G3 _ σ' ((s2.trans s1).trans s3) ⟨_, rfl⟩ hS G4 H4 s4 d4 _ fun G5 H5 w s5 d5 hw => ⟨us, d5.at_ List.mem_cons_self, ?_, G5, us ++ [w], hlt, ((s1.trans s3).trans s4).trans s5, d5.write (k := 0) rfl _, ?_⟩)
      · rw [← hr.length, List.length_map]
        have := hlen i
        rw [sizeLine_eq]
        omega
      · rw [et, List.filter_append, List.map_append, List.filter_cons_of_pos hq]
        exact Rs.snoc hw (hr.mono ((s3.trans s4).trans s5))
    | false =>
      refine iteF ⟨G4, us, hlt, (s1.trans s3).trans s4, d4, ?_⟩
      rw [et, List.filter_append, List.filter_cons_of_neg (by rw [hq]; decide), List.filter_nil, List.append_nil]
      exact hr.mono (s3.trans s4)
  · have e : i = xs.length := by omega
    subst e
    rw [List.take_length] at hr
    exact .inl ⟨wk.stops G1 H1 _ s1 (hC _ _) d1, hQ G1 H1 l us (s2.trans s1) d1 hr⟩
def teB (X : Cx) (scope : Scope) (e : Expr) : TE := fun σ H Q => ∀ s H0 C cl fp, wE (X.blk s H0 scope (compEnvC scope cl C X.env) fp) e σ H Q
def ttB (X : Cx) (scope : Scope) (e : Expr) : TT := fun σ H Q => ∀ s H0 C cl fp, wT (X.blk s H0 scope (compEnvC scope cl C X.env) fp) e σ H Q
/-- without a test -/
theorem n_lc {Sx : α → Hp → L2.St → L2.St → Prop} {C : Cells → Prop} (hcalm : X.calm = true) (hN : X.N.Nodup) (ok : BlkOk X.N X.env.scope scope own) (hi : I X tg iter σ G cs C xs Pi) (ht : TgB X scope tg Pi Sx)
    (hC : ∀ l us, C ((l, .lst us) :: cs)) (hwipe : ∀ x G1 σ', Sx x G1 (wipe σ (own.map (·.2))) σ' → wipe σ' (own.map (·.2)) = wipe σ (own.map (·.2))) [∀ y, Mono (r y)]
    (he : ∀ x, x ∈ xs → ∀ G1 cs1 σ', Same G G1 → (∃ c, cs1 = c :: cs) → Sx x G1 (wipe σ (own.map (·.2))) σ' → ∀ s H0 C cl fp, D (X.blk s H0 scope (compEnvC scope cl C X.env) fp) elt σ' G1 cs1 (r (f x)))
    (hsz : xs.length ≤ 16777215) (hs : ∀ x, foldedSetIterable iter X.env x = pure x := by intro _; rfl) : N X (.ListComp elt [⟨tg, iter, [], 0⟩] scope pos) σ G cs r (xs.map f) := by
  obtain ⟨wi, hpi, hw⟩ := hi
  obtain ⟨g, hpg, hgt⟩ := ht
  intro G1 H s d Q q
  refine uE (pe_lc (te := teB X scope elt) hcalm hN hpi ok hpg (fun _ _ _ _ _ => pts_nil) (fun s H0 C cl fp => ⟨fun pins s1 σ H Q I h => (h s H0 C cl fp).run pins s1 I⟩) hs) ?_
  refine lc_go (Sx := Sx) (C := C) (r := r) (f := f) (q := fun _ => true) (hw G1 H s d) hgt hC hwipe (fun x hx G2 cs1 σ' s2 hc hS G3 H3 s3 d3 Q q => q G3 H3 (Same.refl _) d3)
    (fun x hx _ G2 cs1 σ' s2 hc hS G3 H3 s3 d3 Q q s4 H4 C4 cl4 fp4 => he x hx G2 cs1 σ' (s.trans s2) hc hS s4 H4 C4 cl4 fp4 G3 H3 s3 d3 Q q) hsz fun G2 H2 l us s2 d2 hr => q G2 H2 l us s2 d2 ?_
  have e : xs.filter (fun _ => true) = xs := by simp
  rw [e] at hr
  exact hr
/-- with one test -/
theorem n_lcIf {cnd : Expr} {Sx : α → Hp → L2.St → L2.St → Prop} {C : Cells → Prop} (hcalm : X.calm = true) (hN : X.N.Nodup) (ok : BlkOk X.N X.env.scope scope own) (hi : I X tg iter σ G cs C xs Pi) (ht : TgB X scope tg Pi Sx)
    (hC : ∀ l us, C ((l, .lst us) :: cs)) (hwipe : ∀ x G1 σ', Sx x G1 (wipe σ (own.map (·.2))) σ' → wipe σ' (own.map (·.2)) = wipe σ (own.map (·.2))) [∀ y, Mono (r y)]
    (hq : ∀ x, x ∈ xs → ∀ G1 cs1 σ', Same G G1 → (∃ c, cs1 = c :: cs) → Sx x G1 (wipe σ (own.map (·.2))) σ' → ∀ s H0 C cl fp, T (X.blk s H0 scope (compEnvC scope cl C X.env) fp) cnd σ' G1 cs1 (q x))
    (he : ∀ x, x ∈ xs → q x = true → ∀ G1 cs1 σ', Same G G1 → (∃ c, cs1 = c :: cs) → Sx x G1 (wipe σ (own.map (·.2))) σ' → ∀ s H0 C cl fp, D (X.blk s H0 scope (compEnvC scope cl C X.env) fp) elt σ' G1 cs1 (r (f x)))
    (hsz : xs.length ≤ 16777215) (hs : ∀ x, foldedSetIterable iter X.env x = pure x := by intro _; rfl) : N X (.ListComp elt [⟨tg, iter, [cnd], 0⟩] scope pos) σ G cs r ((xs.filter q).map f) := by
  obtain ⟨wi, hpi, hw⟩ := hi
  obtain ⟨g, hpg, hgt⟩ := ht
  intro G1 H s d Q k
  refine uE (pe_lc (te := teB X scope elt) (tt := ttB X scope cnd) hcalm hN hpi ok hpg (fun s H0 C cl fp => pts_one ⟨fun pins s1 σ H Q I h => (h s H0 C cl fp).run pins s1 I⟩) (fun s H0 C cl fp => ⟨fun pins s1 σ H Q I h => (h s H0 C cl fp).run pins s1 I⟩) hs) ?_
  exact lc_go (Sx := Sx) (C := C) (r := r) (f := f) (q := q) (hw G1 H s d) hgt hC hwipe (fun x hx G2 cs1 σ' s2 hc hS G3 H3 s3 d3 Q q s4 H4 C4 cl4 fp4 => hq x hx G2 cs1 σ' (s.trans s2) hc hS s4 H4 C4 cl4 fp4 G3 H3 s3 d3 Q q)
    (fun x hx hx2 G2 cs1 σ' s2 hc hS G3 H3 s3 d3 Q q s4 H4 C4 cl4 fp4 => he x hx hx2 G2 cs1 σ' (s.trans s2) hc hS s4 H4 C4 cl4 fp4 G3 H3 s3 d3 Q q) hsz fun G2 H2 l us s2 d2 hr => k G2 H2 l us s2 d2 hr
end
section
variable {ε S L R : Type} {X : Cx} {W : ε → L2.St → Hp → Prop} {σ : L2.St} {G : Hp} {cs : Cells} {Φ : Po ε S L R} {m : Out ε S L R} {rest : List Stmt} {elt tg iter : Expr} {pos spos : Pos} {scope : Scope} {own : List (Str × Nat)} {α β : Type} {xs : List α} {Pi : α → Hp → V → Prop} {r : β → Hp → V → Prop} {f : α → β} {q : α → Bool}
/-- y = [..], a statement of its own -/
theorem b_setLc (i : Nat) {y : Str} {py : Pos} {Sx : α → Hp → L2.St → L2.St → Prop} {C : Cells → Prop} (hcalm : X.calm = true) (hN : X.N.Nodup) (hyl : X.env.scope.names.lookup y = some .local) (hsw : swapsWith (.ListComp elt [⟨tg, iter, [], 0⟩] scope pos) (some (.Name y py)) spos.line X.env = pure true)
    (ok : BlkOk X.N X.env.scope scope own) (hi : I X tg iter σ G cs C xs Pi) (ht : TgB X scope tg Pi Sx)
    (hC : ∀ l us, C ((l, .lst us) :: cs)) (hwipe : ∀ x G1 σ', Sx x G1 (wipe σ (own.map (·.2))) σ' → wipe σ' (own.map (·.2)) = wipe σ (own.map (·.2))) [∀ y, Mono (r y)]
    (he : ∀ x, x ∈ xs → ∀ G1 cs1 σ', Same G G1 → (∃ c, cs1 = c :: cs) → Sx x G1 (wipe σ (own.map (·.2))) σ' → ∀ s H0 C cl fp, D (X.blk s H0 scope (compEnvC scope cl C X.env) fp) elt σ' G1 cs1 (r (f x)))
    (hsz : xs.length ≤ 16777215) (k : ∀ l vs G1, Same G G1 → Rs r G1 (xs.map f) vs → B X W rest (σ.set i (some (.ref l))) G1 ((l, .lst vs) :: cs) Φ m) (hy : X.N[i]? = some y := by rfl) (hs : ∀ x, foldedSetIterable iter X.env x = pure x := by intro _; rfl) :
    B X W (.Assign [.Name y py] (.ListComp elt [⟨tg, iter, [], 0⟩] scope pos) spos :: rest) σ G cs Φ m := by
  obtain ⟨wi, hpi, hw⟩ := hi
  obtain ⟨g, hpg, hgt⟩ := ht
  refine b_cons (ps_setLc (te := teB X scope elt) hcalm hN hy hyl hsw hpi ok hpg (fun _ _ _ _ _ => pts_nil) (fun s H0 C cl fp => ⟨fun pins s1 σ H Q I h => (h s H0 C cl fp).run pins s1 I⟩) hs) fun H d E w => ?_
  refine lc_go (Sx := Sx) (C := C) (r := r) (f := f) (q := fun _ => true) (hw G H (Same.refl _) d) hgt hC hwipe (fun x hx G2 cs1 σ' s2 hc hS G3 H3 s3 d3 Q q => q G3 H3 (Same.refl _) d3)
    (fun x hx _ G2 cs1 σ' s2 hc hS G3 H3 s3 d3 Q q s4 H4 C4 cl4 fp4 => he x hx G2 cs1 σ' s2 hc hS s4 H4 C4 cl4 fp4 G3 H3 s3 d3 Q q) hsz fun G2 H2 l us s2 d2 hr => k l us G2 s2 ?_ H2 d2 E (w.up s2)
  have e : xs.filter (fun _ => true) = xs := by simp
  rw [e] at hr
  exact hr
theorem b_setLcIf (i : Nat) {y : Str} {py : Pos} {cnd : Expr} {Sx : α → Hp → L2.St → L2.St → Prop} {C : Cells → Prop} (hcalm : X.calm = true) (hN : X.N.Nodup) (hyl : X.env.scope.names.lookup y = some .local) (hsw : swapsWith (.ListComp elt [⟨tg, iter, [cnd], 0⟩] scope pos) (some (.Name y py)) spos.line X.env = pure true)
    (ok : BlkOk X.N X.env.scope scope own) (hi : I X tg iter σ G cs C xs Pi) (ht : TgB X scope tg Pi Sx)
    (hC : ∀ l us, C ((l, .lst us) :: cs)) (hwipe : ∀ x G1 σ', Sx x G1 (wipe σ (own.map (·.2))) σ' → wipe σ' (own.map (·.2)) = wipe σ (own.map (·.2))) [∀ y, Mono (r y)]
    (hq : ∀ x, x ∈ xs → ∀ G1 cs1 σ', Same G G1 → (∃ c, cs1 = c :: cs) → Sx x G1 (wipe σ (own.map (·.2))) σ' → ∀ s H0 C cl fp, T (X.blk s H0 scope (compEnvC scope cl C X.env) fp) cnd σ' G1 cs1 (q x))
    (he : ∀ x, x ∈ xs → q x = true → ∀ G1 cs1 σ', Same G G1 → (∃ c, cs1 = c :: cs) → Sx x G1 (wipe σ (own.map (·.2))) σ' → ∀ s H0 C cl fp, D (X.blk s H0 scope (compEnvC scope cl C X.env) fp) elt σ' G1 cs1 (r (f x)))
    (hsz : xs.length ≤ 16777215) (k : ∀ l vs G1, Same G G1 → Rs r G1 ((xs.filter q).map f) vs → B X W rest (σ.set i (some (.ref l))) G1 ((l, .lst vs) :: cs) Φ m) (hy : X.N[i]? = some y := by rfl) (hs : ∀ x, foldedSetIterable iter X.env x = pure x := by intro _; rfl) :
    B X W (.Assign [.Name y py] (.ListComp elt [⟨tg, iter, [cnd], 0⟩] scope pos) spos :: rest) σ G cs Φ m := by
  obtain ⟨wi, hpi, hw⟩ := hi
  obtain ⟨g, hpg, hgt⟩ := ht
  refine b_cons (ps_setLc (te := teB X scope elt) (tt := ttB X scope cnd) hcalm hN hy hyl hsw hpi ok hpg (fun s H0 C cl fp => pts_one ⟨fun pins s1 σ H Q I h => (h s H0 C cl fp).run pins s1 I⟩) (fun s H0 C cl fp => ⟨fun pins s1 σ H Q I h => (h s H0 C cl fp).run pins s1 I⟩) hs) fun H d E w => ?_
  exact lc_go (Sx := Sx) (C := C) (r := r) (f := f) (q := q) (hw G H (Same.refl _) d) hgt hC hwipe (fun x hx G2 cs1 σ' s2 hc hS G3 H3 s3 d3 Q q s4 H4 C4 cl4 fp4 => hq x hx G2 cs1 σ' s2 hc hS s4 H4 C4 cl4 fp4 G3 H3 s3 d3 Q q)
    (fun x hx hx2 G2 cs1 σ' s2 hc hS G3 H3 s3 d3 Q q s4 H4 C4 cl4 fp4 => he x hx hx2 G2 cs1 σ' s2 hc hS s4 H4 C4 cl4 fp4 G3 H3 s3 d3 Q q) hsz fun G2 H2 l us s2 d2 hr => k l us G2 s2 hr H2 d2 E (w.up s2)
end

/-! ### defs -/
theorem Desc.drop {G H : Hp} {loc cs : Cells} (d : Desc G (loc ++ cs) H) : Desc G cs H := by
  induction loc with
  | nil => exact d
  | cons c loc ih => exact ih d.forget
/-- the promise of a def that raises nothing: i what it is given, pre how it lies, m what it gives, r how that lies -/
def SpP {I O : Type} (pre : I → Hp → List V → Prop) (r : I → O → Hp → V → Prop) (m : I → O) : Sp := fun vs H Q _ => ∃ (i : I) (G : Hp) (cs : Cells), Desc G cs H ∧ pre i G vs ∧ ∀ v G2 H2, Same G G2 → Desc G2 cs H2 → r i (m i) G2 v → Q v H2
/-- .. of one that may raise -/
def SpE {ε I O : Type} (cE : ε → Value) (pre : I → Hp → List V → Prop) (r : I → O → Hp → V → Prop) (m : I → Except ε O) : Sp := fun vs H Q E => ∃ (i : I) (G : Hp) (cs : Cells), Desc G cs H ∧ pre i G vs ∧
  (match m i with
    | .ok o => ∀ v G2 H2, Same G G2 → Desc G2 cs H2 → r i o G2 v → Q v H2
    | .error k => ∀ G2 H2, Same G G2 → Desc G2 cs H2 → E (cE k) none H2)
structure Fn0 (P : Program) (w : World) (K : PySem.W.Frag) (mg : Str → Option Value) (base : Heap) (CX : CXT) (k : Nat) (x : Str) (n : Nat) (sp : Sp) : Prop where
  ex : ∃ (f : Addr) (fd : FuncData) (ps : List Str), FnOk P w K mg base CX k f fd ps sp ∧ mg x = some (.ref f) ∧ PySem.W.keepIn K (.ref f) = true ∧ Binds K fd ps [] ∧ ps.length = n
/-- what is wanted at a def's end -/
def PoF {ε O : Type} [Inhabited O] (cs : Cells) (r : O → Hp → V → Prop) : Po ε Unit Empty O :=
  { nx := fun _ _ G2 cs2 => (∃ loc, cs2 = loc ++ cs) ∧ r default G2 .non, lp := fun l => l.elim, rt := fun o G2 cs2 v => (∃ loc, cs2 = loc ++ cs) ∧ r o G2 v, er := fun _ _ _ cs2 => ∃ loc, cs2 = loc ++ cs }
section
variable {P : Program} {w : World} {K : PySem.W.Frag} {mg : Str → Option Value} {base : Heap}
theorem fn_ok {I O : Type} [Inhabited O] {x : Str} {st : Stmt} {f : Addr} {fd : FuncData} {N ps : List Str} {k : Nat} {pre : I → Hp → List V → Prop} {r : I → O → Hp → V → Prop} (F : Fun K x x st f fd) (S : FnScope N ps (defScope st))
    (body : I → Out Empty Unit Empty O) (len : ∀ i G vs, pre i G vs → vs.length = ps.length)
    (h : ∀ (cdv : Value) (A : Around) (outer : List Env) (s : Shared) (H : Hp) (E : XK) (i : I) (G : Hp) (cs : Cells) (vs : List V), Room k (A.deeper (envOfC x (defScope st) s.heap.objs.size f cdv)) → pre i G vs →
      B (cxOf CX0 P w K mg base N x (defScope st) f cdv A outer s H E).nox (fun e _ _ => e.elim) (defBody st) (start N vs) G cs (PoF cs (r i)) (body i)) :
    FnOk P w K mg base CX0 (k + 1) f fd ps (SpP pre r fun i => (body i).val) := by
  refine F.ok S (fun vs H Q E hs => ?_) (fun cdv A outer s H vs Q E hr hs => ?_)
  · obtain ⟨i, G, cs, _, hp, _⟩ := hs
    exact len i G vs hp
  · obtain ⟨i, G, cs, d, hp, q⟩ := hs
    refine ⟨_, sSs _ (defBody st), h cdv A outer s H E i G cs vs hr hp H d _ ?_⟩
    cases hb : body i with
    | nx u =>
      rintro σ2 G2 cs2 H2 s2 d2 ⟨⟨loc, rfl⟩, hr2⟩
      refine q _ G2 H2 s2 d2.drop ?_
      dsimp only
      rw [hb]
      exact hr2
    | bk l => exact l.elim
    | ct l => exact l.elim
    | rt o =>
      rintro v G2 cs2 H2 s2 d2 ⟨⟨loc, rfl⟩, hr2⟩
      refine q _ G2 H2 s2 d2.drop ?_
      dsimp only
      rw [hb]
      exact hr2
    | er e => exact e.elim
theorem fn_mk {I O : Type} [Inhabited O] {x : Str} {st : Stmt} {f : Addr} {fd : FuncData} {N ps : List Str} {k : Nat} {pre : I → Hp → List V → Prop} {r : I → O → Hp → V → Prop} (F : Fun K x x st f fd) (S : FnScope N ps (defScope st)) (b : Binds K fd ps []) (hmg : mg x = some (.ref f))
    (body : I → Out Empty Unit Empty O) (len : ∀ i G vs, pre i G vs → vs.length = ps.length)
    (h : ∀ (cdv : Value) (A : Around) (outer : List Env) (s : Shared) (H : Hp) (E : XK) (i : I) (G : Hp) (cs : Cells) (vs : List V), Room k (A.deeper (envOfC x (defScope st) s.heap.objs.size f cdv)) → pre i G vs →
      B (cxOf CX0 P w K mg base N x (defScope st) f cdv A outer s H E).nox (fun e _ _ => e.elim) (defBody st) (start N vs) G cs (PoF cs (r i)) (body i)) :
    Fn0 P w K mg base CX0 (k + 1) x ps.length (SpP pre r fun i => (body i).val) :=
  ⟨f, fd, ps, fn_ok F S body len h, hmg, F.kp, b, rfl⟩
theorem fn_okE {ε I O : Type} [Inhabited O] {cE : ε → Value} {x : Str} {st : Stmt} {f : Addr} {fd : FuncData} {N ps : List Str} {k : Nat} {pre : I → Hp → List V → Prop} {r : I → O → Hp → V → Prop} (F : Fun K x x st f fd) (S : FnScope N ps (defScope st))
    (body : I → Out ε Unit Empty O) (len : ∀ i G vs, pre i G vs → vs.length = ps.length)
    (h : ∀ (cdv : Value) (A : Around) (outer : List Env) (s : Shared) (H : Hp) (E : XK) (i : I) (G : Hp) (cs : Cells) (vs : List V), Room k (A.deeper (envOfC x (defScope st) s.heap.objs.size f cdv)) → pre i G vs →
      B (cxOf (L2.CX P w) P w K mg base N x (defScope st) f cdv A outer s H E) (fun e _ H => E (cE e) none H) (defBody st) (start N vs) G cs (PoF cs (r i)) (body i)) :
    FnOk P w K mg base (L2.CX P w) (k + 1) f fd ps (SpE cE pre r fun i => (body i).res) := by
  refine F.okX S (fun vs H Q E hs => ?_) (fun cdv A outer s H vs Q E hr hs => ?_)
  · obtain ⟨i, G, cs, _, hp, _⟩ := hs
    exact len i G vs hp
  · obtain ⟨i, G, cs, d, hp, q⟩ := hs
    refine ⟨_, sSs _ (defBody st), h cdv A outer s H E i G cs vs hr hp H d _ ?_⟩
    cases hb : body i with
    | nx u =>
      dsimp only at q
      rw [hb] at q
      rintro σ2 G2 cs2 H2 s2 d2 ⟨⟨loc, rfl⟩, hr2⟩
      exact q _ G2 H2 s2 d2.drop hr2
    | bk l => exact l.elim
    | ct l => exact l.elim
    | rt o =>
      dsimp only at q
      rw [hb] at q
      rintro v G2 cs2 H2 s2 d2 ⟨⟨loc, rfl⟩, hr2⟩
      exact q _ G2 H2 s2 d2.drop hr2
    | er e =>
      dsimp only at q
      rw [hb] at q
      rintro σ2 G2 cs2 H2 s2 d2 ⟨loc, rfl⟩
      exact q G2 H2 s2 d2.drop
theorem fn_mkE {ε I O : Type} [Inhabited O] {cE : ε → Value} {x : Str} {st : Stmt} {f : Addr} {fd : FuncData} {N ps : List Str} {k : Nat} {pre : I → Hp → List V → Prop} {r : I → O → Hp → V → Prop} (F : Fun K x x st f fd) (S : FnScope N ps (defScope st)) (b : Binds K fd ps []) (hmg : mg x = some (.ref f))
    (body : I → Out ε Unit Empty O) (len : ∀ i G vs, pre i G vs → vs.length = ps.length)
    (h : ∀ (cdv : Value) (A : Around) (outer : List Env) (s : Shared) (H : Hp) (E : XK) (i : I) (G : Hp) (cs : Cells) (vs : List V), Room k (A.deeper (envOfC x (defScope st) s.heap.objs.size f cdv)) → pre i G vs →
      B (cxOf (L2.CX P w) P w K mg base N x (defScope st) f cdv A outer s H E) (fun e _ H => E (cE e) none H) (defBody st) (start N vs) G cs (PoF cs (r i)) (body i)) :
    Fn0 P w K mg base (L2.CX P w) (k + 1) x ps.length (SpE cE pre r fun i => (body i).res) :=
  ⟨f, fd, ps, fn_okE F S body len h, hmg, F.kp, b, rfl⟩
end
section
variable {X : Cx} {σ : L2.St} {G : Hp} {cs : Cells} {e : Expr} {es : List Expr} {pos p : Pos}
/-- a call of a def that raises nothing -/
theorem d_call {I O : Type} {pre : I → Hp → List V → Prop} {r : I → O → Hp → V → Prop} {m : I → O} {k j n : Nat} {x : Str} {Ps : Hp → List V → Prop} (i : I) (F : Fn0 X.prog X.w X.K X.mg X.base CX0 k x n (SpP pre r m)) (hr : Room j X.A) (hk : k ≤ j)
    (ha : A X (e :: es) σ G cs Ps) (hp : ∀ G1 vs, Same G G1 → Ps G1 vs → pre i G1 vs) (hg : Gl X x := by rfl) (hd : (x == ("__debug__" : Str)) = false := by decide)
    (he : starEach (e :: es) X.env = (false, eval e X.env) :: starEach es X.env := by exact star_plain rfl) (hpl : (backTo pos (starEach es X.env)).any (·.1) = false := by rfl) : D X (.Call (.Name x p) (e :: es) [] pos) σ G cs (r i (m i)) := by
  obtain ⟨f, fd, ps, F, hm, kp, b, _⟩ := F.ex
  refine d_by (pe_call F (hr.mono hk) hg hm kp b .nil pass0 (sA X _) (hdb := hd) (he := he) (hpl := hpl)) fun G1 H s d Q q => ha G1 H s d _ fun G2 H2 vs s2 d2 hvs => ?_
  refine ⟨i, G2, cs, d2, ?_, fun v G3 H3 s3 d3 hv => q G3 H3 v (s2.trans s3) d3 hv⟩
  rw [List.append_nil]
  exact hp G2 vs (s.trans s2) hvs
theorem d_callQ {I O : Type} {pre : I → Hp → List V → Prop} {r : I → O → Hp → V → Prop} {m : I → O} {k j n : Nat} {x : Str} {Ps : Hp → List V → Prop} {P : Hp → V → Prop} (i : I) (F : Fn0 X.prog X.w X.K X.mg X.base CX0 k x n (SpP pre r m)) (hr : Room j X.A) (hk : k ≤ j)
    (ha : A X (e :: es) σ G cs Ps) (hp : ∀ G1 vs, Same G G1 → Ps G1 vs → pre i G1 vs) (hP : ∀ G v, r i (m i) G v → P G v) (hg : Gl X x := by rfl) (hd : (x == ("__debug__" : Str)) = false := by decide)
    (he : starEach (e :: es) X.env = (false, eval e X.env) :: starEach es X.env := by exact star_plain rfl) (hpl : (backTo pos (starEach es X.env)).any (·.1) = false := by rfl) : D X (.Call (.Name x p) (e :: es) [] pos) σ G cs P :=
  (d_call i F hr hk ha hp hg hd he hpl).imp hP
end
end J

namespace J
open PySem L2 PyProof.Rows
section
variable {X : Cx}
/-- two readable lists end to end -/
def rCatW (K : PySem.W.Frag) : R2 := fun x y H Q => ∃ l b xs zs, x = .ref l ∧ y = .ref b ∧ SqL K H l xs ∧ SqL K H b zs ∧ xs.length + zs.length ≤ sizeLine ∧ ∀ p, H p = none → Q (.ref p) (upd H p (.lst (xs ++ zs)))
theorem op_catW : OpR X (binaryOp .Add) (rCatW X.K) := by
  intro pins s σ H x y v u Q I rx ry h
  obtain ⟨l, b, xs, zs, rfl, rfl, hH, hB, hz, q⟩ := h
  cases rx
  cases ry
  obtain ⟨its, r, p1, _⟩ := I.list hH
  obtain ⟨its2, r2, p2, _⟩ := I.list hB
  have e1 := r.length
  have e2 := r2.length
  obtain ⟨⟨c1, d1, da1, sl1⟩, n1, g1, h1, _, k1⟩ := p1
  obtain ⟨⟨c2, d2, da2, sl2⟩, n2, g2, h2, _, k2⟩ := p2
  dsimp only at h1 k1 h2 k2
  subst h1 k1 h2 k2
  have hsz : its.toArray.size + its2.toArray.size ≤ sizeLine := by
    rw [List.size_toArray, List.size_toArray]
    omega
  have ea : its.toArray ++ its2.toArray = (its ++ its2).toArray := by simp
  refine concat_meets ⟨_, g1, rfl⟩ ⟨_, g2, rfl⟩ noFill_list_add seq_list_add PySem.F.slot_list_add PySem.F.entry_list_add (PySem.F.args_list_add_2 _ _)
    (list_addW l b its.toArray its2.toArray n1 n2 d1 d2 sl1 sl2 hsz) ⟨g1, g2, ?_⟩
  rw [ea]
  refine ⟨.ref s.heap.objs.size, _, I.lnew (t' := s.toks) (r.append r2) ?_, rfl, q _ I.fresh⟩
  rw [List.length_append]
  exact hz
end
section
variable {X : Cx} {σ : L2.St} {G : Hp} {cs : Cells} {a b : Expr} {pos : Pos} {α : Type} {r : α → Hp → V → Prop} {xs ys : List α}
theorem n_cat [∀ x, Mono (r x)] (ha : D X a σ G cs (rdL X.K cs r xs)) (hb : D X b σ G cs (rdL X.K cs r ys)) (hl : xs.length + ys.length ≤ sizeLine) : N X (.BinOp a .Add b pos) σ G cs r (xs ++ ys) := fun G1 H s d Q q =>
  uE (pe_op op_catW (sE X a) (sE X b)) (ha G1 H s d _ fun G2 H2 x s2 d2 hx => hb G2 H2 (s.trans s2) d2 _ fun G3 H3 y s3 d3 hy => by
    obtain ⟨l, vs, e, h1, h2⟩ := (Mono.mono s3 hx).sq d3
    obtain ⟨l', vs', e', h1', h2'⟩ := hy.sq d3
    exact ⟨l, l', vs, vs', e, e', h1, h1', by rw [← h2.length, ← h2'.length]; exact hl, fun p hp => q G3 _ p _ (s2.trans s3) (d3.newCell hp _) (Rs.append h2' h2)⟩)
end

/-! ### == of data -/
class EqR {α : Type} (K : PySem.W.Frag) (r : α → Hp → V → Prop) where
  toD : α → PyData
  ok : α → Prop
  dep : Nat
  dp : ∀ {x G H v}, r x G v → Same G H → Dp K H v (toD x)
  lay : ∀ {x}, ok x → (toD x).canLay0 = true
  deep : ∀ x, (toD x).depth ≤ dep
  eqv : ∀ x y, PyData.eqv (toD x) (toD y) = true ↔ x = y
instance (K : PySem.W.Frag) : EqR K rI where
  toD := .int
  ok _ := True
  dep := 1
  dp h _ := by cases h; exact .int _
  lay _ := rfl
  deep x := by unfold PyData.depth; omega
  eqv x y := by
    unfold PyData.eqv
    exact beq_iff_eq
instance (K : PySem.W.Frag) : EqR K rB where
  toD := .bool
  ok _ := True
  dep := 1
  dp h _ := by cases h; exact .bl _
  lay _ := rfl
  deep x := by unfold PyData.depth; omega
  eqv x y := by
    unfold PyData.eqv
    exact beq_iff_eq
instance (K : PySem.W.Frag) : EqR K rS where
  toD l := .str (SX.S l)
  ok l := ∀ c ∈ l, c < 1114112
  dep := 1
  dp h _ := by cases h; exact .str _
  lay {x} h := by
    unfold PyData.canLay0 PySem.PyData.strOk
    show (SX.S x).cps.all _ = true
    rw [← Array.all_toList]
    exact List.all_eq_true.mpr fun c hc => decide_eq_true (h c hc)
  deep x := by unfold PyData.depth; omega
  eqv x y := by
    unfold PyData.eqv
    rw [SX.S_beq]
    exact beq_iff_eq
theorem dpAll {K : PySem.W.Frag} {α : Type} {r : α → Hp → V → Prop} [q : EqR K r] {G H : Hp} (s : Same G H) : ∀ {xs : List α} {vs : List V}, Rs r G xs vs → DpAll K H vs (xs.map q.toD)
  | _, _, .nil => .nil
  | _, _, .cons h t => .cons (q.dp h s) (dpAll s t)
theorem layAll {K : PySem.W.Frag} {α : Type} {r : α → Hp → V → Prop} [q : EqR K r] : ∀ {xs : List α}, (∀ x ∈ xs, q.ok x) → PyData.canLayAll0 (xs.map q.toD) = true
  | [], _ => by rw [List.map_nil]; unfold PyData.canLayAll0; rfl
  | x :: xs, h => by
    rw [List.map_cons]
    unfold PyData.canLayAll0
    rw [Bool.and_eq_true]
    exact ⟨q.lay (h x List.mem_cons_self), layAll fun y hy => h y (List.mem_cons_of_mem _ hy)⟩
theorem deepAll {K : PySem.W.Frag} {α : Type} {r : α → Hp → V → Prop} [q : EqR K r] : ∀ (xs : List α), PyData.depthAll (xs.map q.toD) ≤ q.dep
  | [] => by rw [List.map_nil]; unfold PyData.depthAll; omega
  | x :: xs => by
    rw [List.map_cons]
    unfold PyData.depthAll
    exact Nat.max_le.mpr ⟨q.deep x, deepAll xs⟩
theorem eqvAll {K : PySem.W.Frag} {α : Type} {r : α → Hp → V → Prop} [q : EqR K r] : ∀ (xs ys : List α), PyData.eqvAll (xs.map q.toD) (ys.map q.toD) = true ↔ xs = ys
  | [], [] => by rw [List.map_nil]; unfold PyData.eqvAll; simp
  | [], y :: ys => by rw [List.map_nil, List.map_cons]; unfold PyData.eqvAll; simp
  | x :: xs, [] => by rw [List.map_nil, List.map_cons]; unfold PyData.eqvAll; simp
  | x :: xs, y :: ys => by
    rw [List.map_cons, List.map_cons]
    unfold PyData.eqvAll
    rw [Bool.and_eq_true, q.eqv, eqvAll xs ys]
    simp
instance (K : PySem.W.Frag) {α : Type} (r : α → Hp → V → Prop) [q : EqR K r] : EqR K (rL K r) where
  toD xs := .list (xs.map q.toD)
  ok xs := ∀ x ∈ xs, q.ok x
  dep := q.dep + 1
  dp h s := by
    obtain ⟨a, vs, rfl, h1, h2⟩ := h
    exact .lst (s.seq h1) (dpAll s h2)
  lay h := by
    unfold PyData.canLay0
    exact layAll h
  deep xs := by
    unfold PyData.depth
    have := deepAll (K := K) (r := r) xs
    omega
  eqv xs ys := by
    unfold PyData.eqv
    rw [eqvAll]
/-- the places of a tuple as data -/
class EqT {α : Type} (K : PySem.W.Frag) (r : α → Hp → List V → Prop) where
  toD : α → List PyData
  ok : α → Prop
  dep : Nat
  dp : ∀ {x G H vs}, r x G vs → Same G H → DpAll K H vs (toD x)
  lay : ∀ {x}, ok x → PyData.canLayAll0 (toD x) = true
  deep : ∀ x, PyData.depthAll (toD x) ≤ dep
  eqv : ∀ x y, PyData.eqvAll (toD x) (toD y) = true ↔ x = y
instance (K : PySem.W.Frag) {α : Type} (r : α → Hp → V → Prop) [q : EqR K r] : EqT K (c0 r) where
  toD x := [q.toD x]
  ok x := q.ok x
  dep := q.dep
  dp h s := by
    obtain ⟨v, rfl, h1⟩ := h
    exact .cons (q.dp h1 s) .nil
  lay h := by
    unfold PyData.canLayAll0
    rw [q.lay h]
    rfl
  deep x := by
    unfold PyData.depthAll
    exact Nat.max_le.mpr ⟨q.deep x, by unfold PyData.depthAll; omega⟩
  eqv x y := by
    unfold PyData.eqvAll
    rw [Bool.and_eq_true, q.eqv]
    exact ⟨fun h => h.1, fun h => ⟨h, by unfold PyData.eqvAll; rfl⟩⟩
instance (K : PySem.W.Frag) {α β : Type} (r : α → Hp → V → Prop) (r' : β → Hp → List V → Prop) [q : EqR K r] [q' : EqT K r'] : EqT K (cc r r') where
  toD x := q.toD x.1 :: q'.toD x.2
  ok x := q.ok x.1 ∧ q'.ok x.2
  dep := max q.dep q'.dep
  dp h s := by
    obtain ⟨v, ws, rfl, h1, h2⟩ := h
    exact .cons (q.dp h1 s) (q'.dp h2 s)
  lay h := by
    unfold PyData.canLayAll0
    rw [q.lay h.1, q'.lay h.2]
    rfl
  deep x := by
    unfold PyData.depthAll
    have h1 := q.deep x.1
    have h2 := q'.deep x.2
    exact Nat.max_le.mpr ⟨Nat.le_trans h1 (Nat.le_max_left _ _), Nat.le_trans h2 (Nat.le_max_right _ _)⟩
  eqv x y := by
    unfold PyData.eqvAll
    rw [Bool.and_eq_true, q.eqv, q'.eqv]
    exact ⟨fun h => Prod.ext h.1 h.2, fun h => by rw [h]; exact ⟨rfl, rfl⟩⟩
instance (K : PySem.W.Frag) {α : Type} (r : α → Hp → List V → Prop) [q : EqT K r] : EqR K (rT K r) where
  toD x := .tuple (q.toD x)
  ok x := q.ok x
  dep := q.dep + 1
  dp h s := by
    obtain ⟨a, vs, rfl, h1, h2⟩ := h
    exact .tup (seqT s h1) (q.dp h2 s)
  lay h := by
    unfold PyData.canLay0
    exact q.lay h
  deep x := by
    unfold PyData.depth
    have := q.deep x
    omega
  eqv x y := by
    unfold PyData.eqv
    rw [q.eqv]
section
variable {X : Cx} {σ : L2.St} {G : Hp} {cs : Cells} {a b : Expr} {pos : Pos} {α : Type} {r : α → Hp → V → Prop} {x y : α}
theorem shp {K : PySem.W.Frag} [q : EqR K r] (h : q.ok x) (hd : q.dep ≤ 64) : SeqAt.shaped (q.toD x) = true := by
  unfold SeqAt.shaped
  rw [q.lay h, decide_eq_true (Nat.le_trans (q.deep x) hd)]
  rfl
theorem eqv_dec {K : PySem.W.Frag} [q : EqR K r] [DecidableEq α] : PyData.eqv (q.toD x) (q.toD y) = decide (x = y) := by
  by_cases h : x = y
  · rw [decide_eq_true h, (q.eqv x y).mpr h]
  · rw [decide_eq_false h]
    cases e : PyData.eqv (q.toD x) (q.toD y) with
    | false => rfl
    | true => exact absurd ((q.eqv x y).mp e) h
variable [DecidableEq α] [∀ z, Mono (r z)] {k : Nat}
theorem d_eqD {K : PySem.W.Frag} [q : EqR K r] (hr : Room k X.A) (ha : D X a σ G cs (r x)) (hb : D X b σ G cs (r y)) (hx : q.ok x) (hy : q.ok y) (hd : q.dep ≤ 64 := by exact Nat.le_of_ble_eq_true rfl) (hK : X.K = K := by rfl) : D X (.Compare a [.Eq] [b] pos) σ G cs (rB (decide (x = y))) := by
  subst hK
  exact d_cmp (op_eqD (Nat.lt_of_le_of_lt (by omega) hr.un)) (nomark _) ha hb fun G1 H u v s d hu hv Q qq => ⟨_, _, q.dp hu d.same, q.dp hv d.same, shp hx hd, shp hy hd, by rw [eqv_dec]; exact qq⟩
theorem t_eqD {K : PySem.W.Frag} [q : EqR K r] (hr : Room k X.A) (ha : D X a σ G cs (r x)) (hb : D X b σ G cs (r y)) (hx : q.ok x) (hy : q.ok y) (hd : q.dep ≤ 64 := by exact Nat.le_of_ble_eq_true rfl) (hK : X.K = K := by rfl) : T X (.Compare a [.Eq] [b] pos) σ G cs (decide (x = y)) := by
  subst hK
  exact t_cmp (op_eqD (Nat.lt_of_le_of_lt (by omega) hr.un)) (nomark _) ha hb fun G1 H u v s d hu hv Q qq => ⟨_, _, q.dp hu d.same, q.dp hv d.same, shp hx hd, shp hy hd, by rw [eqv_dec]; exact qq⟩
theorem d_neD {K : PySem.W.Frag} [q : EqR K r] (hr : Room k X.A) (ha : D X a σ G cs (r x)) (hb : D X b σ G cs (r y)) (hx : q.ok x) (hy : q.ok y) (hd : q.dep ≤ 64 := by exact Nat.le_of_ble_eq_true rfl) (hK : X.K = K := by rfl) : D X (.Compare a [.NotEq] [b] pos) σ G cs (rB (!decide (x = y))) := by
  subst hK
  exact d_cmp (op_neD (Nat.lt_of_le_of_lt (by omega) hr.un)) (nomark _) ha hb fun G1 H u v s d hu hv Q qq => ⟨_, _, q.dp hu d.same, q.dp hv d.same, shp hx hd, shp hy hd, by rw [eqv_dec]; exact qq⟩
theorem t_neD {K : PySem.W.Frag} [q : EqR K r] (hr : Room k X.A) (ha : D X a σ G cs (r x)) (hb : D X b σ G cs (r y)) (hx : q.ok x) (hy : q.ok y) (hd : q.dep ≤ 64 := by exact Nat.le_of_ble_eq_true rfl) (hK : X.K = K := by rfl) : T X (.Compare a [.NotEq] [b] pos) σ G cs (!decide (x = y)) := by
  subst hK
  exact t_cmp (op_neD (Nat.lt_of_le_of_lt (by omega) hr.un)) (nomark _) ha hb fun G1 H u v s d hu hv Q qq => ⟨_, _, q.dp hu d.same, q.dp hv d.same, shp hx hd, shp hy hd, by rw [eqv_dec]; exact qq⟩
end
/-! ### places, by the whole numbers that name them -/
def ixg {α : Type} [Inhabited α] (xs : List α) (i : Int) : α := (atI xs i).getD default
theorem atI_ixg {α : Type} [Inhabited α] {xs : List α} {i : Int} (h : -(xs.length : Int) ≤ i ∧ i < (xs.length : Int)) : atI xs i = some (ixg xs i) := by
  unfold ixg
  have : ∃ x, atI xs i = some x := by
    by_cases h0 : 0 ≤ i
    · exact ⟨_, atI_lt h0 h.2⟩
    · have e : i = -((-i).toNat : Int) := by omega
      rw [e]
      exact ⟨_, atI_neg (by omega) (by omega)⟩
  obtain ⟨x, e⟩ := this
  rw [e]
  rfl
theorem ixg_nat {α : Type} [Inhabited α] {xs : List α} {i : Int} (h0 : 0 ≤ i) (h1 : i < (xs.length : Int)) : ixg xs i = xs.getD i.toNat default := by
  unfold ixg
  rw [atI_lt h0 h1]
  rfl
theorem ixg_mem {α : Type} [Inhabited α] {xs : List α} {i : Int} (h0 : 0 ≤ i) (h1 : i < (xs.length : Int)) : ixg xs i ∈ xs := by
  rw [ixg_nat h0 h1]
  have h : i.toNat < xs.length := by omega
  have e : xs.getD i.toNat default = xs[i.toNat] := by simp [h]
  rw [e]
  exact List.getElem_mem h
end J

namespace J
open PySem L2 PyProof.Rows
section
variable {ε S L R : Type} {X : Cx} {W : ε → L2.St → Hp → Prop} {σ : L2.St} {G : Hp} {cs : Cells} {Φ : Po ε S L R} {m : Out ε S L R} {sts rest : List Stmt} {e tg : Expr} {P : Hp → V → Prop} {pos p : Pos}
theorem letV_intro {α : Type} {y : α} {f : α → Out ε S L R} (h : ∀ z, z = y → B X W sts σ G cs Φ (f z)) : B X W sts σ G cs Φ (letV y f) := h y rfl
theorem b_augAddV (i : Nat) {x : Str} {p' : Pos} {z y : Int} {f : Int → Out ε S L R} (hN : X.N.Nodup) (hz : σ[i]? = some (some (.int z))) (he : D X e σ G cs (rI y)) (k : ∀ u, u = z + y → ∀ G1, Same G G1 → B X W rest (σ.set i (some (.int u))) G1 cs Φ (f u)) (hi : X.N[i]? = some x := by rfl) (hx : Loc X.env.scope x := by first | exact Or.inl rfl | exact Or.inr rfl)
    (hf : X.fn x = true ∨ X.env.scope.names.lookup x = some .local := by first | exact .inl rfl | exact .inr rfl) : B X W (.AugAssign (.Name x p') .Add e pos :: rest) σ G cs Φ (letV (z + y) f) :=
  b_augAdd i hN hz he (fun G1 s1 => k _ rfl G1 s1) hi hx hf
theorem b_augSubV (i : Nat) {x : Str} {p' : Pos} {z y : Int} {f : Int → Out ε S L R} (hN : X.N.Nodup) (hz : σ[i]? = some (some (.int z))) (he : D X e σ G cs (rI y)) (k : ∀ u, u = z - y → ∀ G1, Same G G1 → B X W rest (σ.set i (some (.int u))) G1 cs Φ (f u)) (hi : X.N[i]? = some x := by rfl) (hx : Loc X.env.scope x := by first | exact Or.inl rfl | exact Or.inr rfl)
    (hf : X.fn x = true ∨ X.env.scope.names.lookup x = some .local := by first | exact .inl rfl | exact .inr rfl) : B X W (.AugAssign (.Name x p') .Sub e pos :: rest) σ G cs Φ (letV (z - y) f) :=
  b_augSub i hN hz he (fun G1 s1 => k _ rfl G1 s1) hi hx hf
theorem b_asgV {α : Type} {r : α → Hp → V → Prop} {y : α} {f : α → Out ε S L R} {Sx : α → Hp → L2.St → L2.St → Prop} (he : D X e σ G cs (r y)) (ht : Tg X tg r Sx) (k : ∀ z, z = y → ∀ σ' G1, Same G G1 → Sx z G1 σ σ' → B X W rest σ' G1 cs Φ (f z))
    (hs : swapsWithSole [tg] e pos.line X.env = pure false := by rfl) (hw : swappedStores [tg] e X.env = pure none := by rfl) (h1 : (assignEach [tg] X.env).map (·.2) = [assign tg X.env] := by rfl) : B X W (.Assign [tg] e pos :: rest) σ G cs Φ (letV y f) :=
  b_asg he ht (fun σ' G1 s1 h => k y rfl σ' G1 s1 h) hs hw h1
end
theorem wipe1 {σ : L2.St} {i : Nat} {x : Option V} : wipe ((wipe σ [i]).set i x) [i] = wipe σ [i] := by
  show (((σ.set i none).set i x).set i none) = σ.set i none
  rw [List.set_set, List.set_set]
theorem divS {i j : Int} (h : 0 < j) (hb : j < 2 ^ 62) : CDivW i j := wide_div (b := 62) h (by omega) (by decide) (by decide)
theorem pk_true {X : Cx} {kn : Option Str} {jj : Nat} {p2 p3 : Pos} : PK X [⟨kn, .Constant (.bool true) jj p2, p3⟩] (fun _ H Q => Q [.bl true] H) := pk_cons pe_bl pk_nil
end J
namespace J
theorem enum_mem {α : Type} {xs : List α} {p : Int × α} (h : p ∈ enumL xs) : p.2 ∈ xs := by
  obtain ⟨i, hi⟩ := List.getElem?_of_mem h
  exact List.mem_of_getElem? (enumL_getE hi).2
theorem enum_bd {α : Type} {xs : List α} {p : Int × α} (h : p ∈ enumL xs) : 0 ≤ p.1 ∧ p.1 < (xs.length : Int) := by
  obtain ⟨i, hi⟩ := List.getElem?_of_mem h
  obtain ⟨e1, e2⟩ := enumL_getE hi
  have := (List.getElem?_eq_some_iff.mp e2).1
  omega
end J
namespace J
theorem ix_mod {a : Int} {n : Nat} (h : 0 < n) : -(n : Int) ≤ a % (n : Int) ∧ a % (n : Int) < (n : Int) := by
  have h1 := Int.emod_nonneg a (show (n : Int) ≠ 0 by omega)
  have h2 := Int.emod_lt_of_pos a (show (0 : Int) < n by omega)
  omega
/-- a loop that always goes on is a fold -/
theorem forL_fold {ε S L R α : Type} {f : S → α → Out ε S S R} {g : S → α → S} : ∀ {xs : List α} {s : S}, (∀ s x, x ∈ xs → f s x = .nx (g s x)) → (forL f s xs : Out ε S L R) = .nx (xs.foldl g s)
  | [], _, _ => rfl
  | x :: xs, s, h => by
    rw [forL_cons, h s x List.mem_cons_self]
    exact forL_fold fun s y hy => h s y (List.mem_cons_of_mem _ hy)
/-- an invariant of a loop that always goes on -/
theorem forL_inv {ε S L R α : Type} {f : S → α → Out ε S S R} (P : Nat → S → Prop) : ∀ {xs : List α} {s : S} {n : Nat}, P n s → (∀ n s x, x ∈ xs → P n s → ∃ s', f s x = .nx s' ∧ P (n + 1) s') → ∃ s', (forL f s xs : Out ε S L R) = .nx s' ∧ P (n + xs.length) s'
  | [], s, n, h, _ => ⟨s, rfl, h⟩
  | x :: xs, s, n, h, st => by
    obtain ⟨s1, e1, h1⟩ := st n s x List.mem_cons_self h
    obtain ⟨s2, e2, h2⟩ := forL_inv (L := L) P (xs := xs) h1 fun n s y hy => st n s y (List.mem_cons_of_mem _ hy)
    refine ⟨s2, ?_, ?_⟩
    · rw [forL_cons, e1]
      exact e2
    · rw [List.length_cons, show n + (xs.length + 1) = n + 1 + xs.length by omega]
      exact h2
/-- .. by the item -/
theorem forL_all {ε S L R α : Type} {f : S → α → Out ε S S R} (P : S → Prop) {xs : List α} {s : S} (h : P s) (st : ∀ s x, x ∈ xs → P s → ∃ s', f s x = .nx s' ∧ P s') : ∃ s', (forL f s xs : Out ε S L R) = .nx s' ∧ P s' :=
  forL_inv (fun _ => P) (n := 0) h fun _ s x hx hp => st s x hx hp
end J
namespace J
theorem letV_elim {α β : Type} {y : α} {f : α → β} {m : β} (h : ∀ z, z = y → f z = m) : letV y f = m := h y rfl
theorem ifB {α : Type} {c : Bool} {a b m : α} (hc : c = false) (h : b = m) : (if c = true then a else b) = m := by
  subst hc
  rw [if_neg Bool.false_ne_true]
  exact h
theorem ifT {α : Type} {c : Bool} {a b m : α} (hc : c = true) (h : a = m) : (if c = true then a else b) = m := by
  subst hc
  rw [if_pos rfl]
  exact h
theorem bind_elim {ε S S' L R : Type} {m : Out ε S L R} {k : S → Out ε S' L R} {o : Out ε S' L R} {s : S} (e : m = .nx s) (h : k s = o) : m.bind k = o := by
  rw [e]
  exact h
/-- a loop all of whose turns go on with nothing -/
theorem forL_unit {ε L R α : Type} {f : Unit → α → Out ε Unit Unit R} {xs : List α} (h : ∀ x, x ∈ xs → f () x = .nx ()) : (forL f () xs : Out ε Unit L R) = .nx () := by
  obtain ⟨_, e, _⟩ := forL_all (L := L) (fun _ : Unit => True) (f := f) (xs := xs) (s := ()) trivial fun _ x hx _ => ⟨(), h x hx, trivial⟩
  exact e
end J

namespace J
open PySem L2 PyProof.Rows

/-! ### outcomes of what may raise -/
def callE {ε S L R O : Type} (m : Except ε O) (k : O → Out ε S L R) : Out ε S L R := match m with
  | .ok o => k o
  | .error e => .er e
@[simp] theorem callE_ok {ε S L R O : Type} (o : O) (k : O → Out ε S L R) : callE (.ok o) k = k o := rfl
@[simp] theorem callE_er {ε S L R O : Type} (e : ε) (k : O → Out ε S L R) : callE (.error e) k = .er e := rfl
def tryO {ε' ε S L R : Type} (m : Out ε' S L R) (h : ε' → Out ε S L R) : Out ε S L R := match m with
  | .nx s => .nx s
  | .bk l => .bk l
  | .ct l => .ct l
  | .rt r => .rt r
  | .er e => h e
@[simp] theorem tryO_nx {ε' ε S L R : Type} (s : S) (h : ε' → Out ε S L R) : tryO (.nx s : Out ε' S L R) h = .nx s := rfl
@[simp] theorem tryO_rt {ε' ε S L R : Type} (r : R) (h : ε' → Out ε S L R) : tryO (.rt r : Out ε' S L R) h = .rt r := rfl
@[simp] theorem tryO_er {ε' ε S L R : Type} (e : ε') (h : ε' → Out ε S L R) : tryO (.er e : Out ε' S L R) h = h e := rfl
/-- what it gives, if it gives anything -/
def okV {ε O : Type} [Inhabited O] (m : Except ε O) : O := match m with
  | .ok o => o
  | .error _ => default
@[simp] theorem okV_ok {ε O : Type} [Inhabited O] (o : O) : okV (.ok o : Except ε O) = o := rfl

/-! ### the errors of a law: n classes, each right under the one at B -/
structure ErrOne (K : PySem.W.Frag) (mg : Str → Option Value) (x : Str) (C B : Addr) : Prop where
  ex : PySem.W.excIn K C [.type "ValueError", .type "Exception", .type "BaseException", .type "object"] "ValueError.__new__" = true
  mg : mg x = some (.ref C)
  kp : PySem.W.keepIn K (.ref C) = true
  be : PySem.W.subIn K (.ref C) (.type "BaseException") = some true
  ty : PySem.W.typeIn K (.ref C) = some (.type "type")
  cl : ExcC K C
  ca : PySem.W.exmOne K (.ref C) (.ref B) = some true
structure Errs (K : PySem.W.Frag) (mg : Str → Option Value) {n : Nat} (nm : Fin n → Str) (adr : Fin n → Addr) (B : Addr) : Prop where
  one : ∀ i, ErrOne K mg (nm i) (adr i) B
  is : ∀ i j, PySem.W.kitOne K (.ref (adr i)) (.ref (adr j)) = some (decide (i = j))
  mB : mg "BankError" = some (.ref B)
theorem kit_ref {K : PySem.W.Frag} {C D : Addr} {b : Bool} (hd : PySem.W.hasDictIn K D = true) (ht : PySem.W.typeIn K (.ref D) = some (.type "type")) (hs : PySem.W.subIn K (.ref C) (.ref D) = some b) (hc : PySem.W.subIn K (.ref D) (.ref D) = some true) : PySem.W.kitOne K (.ref C) (.ref D) = some b := by
  obtain ⟨cd, hcd, _⟩ := PySem.W.any_some hd
  unfold PySem.W.kitOne
  by_cases h : (Value.ref C == Value.ref D) = true
  · rw [if_pos h]
    have e : C = D := Value.ref.inj (beq_iff_eq.mp h)
    rw [e, hc] at hs
    exact hs
  · rw [if_neg h]
    show (if ((PySem.W.clsIn K D).isSome && PySem.W.typeIn K (.ref D) == some (.type "type")) = true then PySem.W.subIn K (.ref C) (.ref D) else none) = some b
    rw [hcd, ht, if_pos (show ((some cd).isSome && (some (Value.type "type") == some (Value.type "type"))) = true by rw [Option.isSome_some, Bool.true_and]; exact beq_self_eq_true _), hs]
/-- how an error lies in the wishes of the layer -/
abbrev wE2 {n : Nat} (adr : Fin n → Addr) (Wx : WX) : Fin n → L2.St → Hp → Prop := fun e σ H => Wx (.ref (adr e)) none σ H
abbrev cE {n : Nat} (adr : Fin n → Addr) : Fin n → Value := fun e => .ref (adr e)

section
variable {n : Nat} {nm : Fin n → Str} {adr : Fin n → Addr} {B0 : Addr}
variable {S L R : Type} {X : Cx} {Wx : WX} {σ : L2.St} {G : Hp} {cs : Cells} {st : Stmt} {rest body : List Stmt} {e : Expr} {es : List Expr} {pos p q : Pos}
/-- raise X('..') -/
theorem b_raise {Φ : Po (Fin n) S L R} {x m : Str} {j : Nat} {p2 p3 : Pos} (i : Fin n) (Er : Errs X.K X.mg nm adr B0) (hc : X.calm = true) (tk : Takes X Wx) (hx : nm i = x) (k : Φ.er i σ G cs) (hg : Gl X x := by rfl) (hd : (x == ("__debug__" : Str)) = false := by decide) :
    B X (wE2 adr Wx) (.Raise (some (.Call (.Name x p) [.Constant (.str m) j p2] [] p3)) none pos :: rest) σ G cs Φ (.er i) := by
  subst hx
  have o := Er.one i
  exact b_cons (ps_raise hc tk (pmk_own F.excBase_ValueError o.ex o.mg o.kp (raises_own o.be o.ty) hg hd)) fun H d E w => w σ G cs H (Same.refl _) d k
/-- a call that may raise, as a value of a statement -/
def DE (X : Cx) (adr : Fin n → Addr) (Wx : WX) (e : Expr) (σ : L2.St) (G : Hp) (cs : Cells) {O : Type} (P : O → Hp → V → Prop) (m : Except (Fin n) O) : Prop :=
  ∀ G1 H, Same G G1 → Desc G1 cs H → ∀ Q : VK, (match m with
    | .ok o => ∀ G2 H2 v, Same G1 G2 → Desc G2 cs H2 → P o G2 v → Q v H2
    | .error k => ∀ G2 H2, Same G1 G2 → Desc G2 cs H2 → Wx (.ref (adr k)) none σ H2) → wE X e σ H Q
theorem de_call {I O : Type} {pre : I → Hp → List V → Prop} {r : I → O → Hp → V → Prop} {m : I → Except (Fin n) O} {k j a : Nat} {x : Str} {Ps : Hp → List V → Prop} (i : I) (F : Fn0 X.prog X.w X.K X.mg X.base (L2.CX X.prog X.w) k x a (SpE (cE adr) pre r m)) (tk : Takes X Wx) (hr : Room j X.A) (hk : k ≤ j)
    (ha : A X (e :: es) σ G cs Ps) (hp : ∀ G1 vs, Same G G1 → Ps G1 vs → pre i G1 vs) (hg : Gl X x := by rfl) (hd : (x == ("__debug__" : Str)) = false := by decide)
    (he : starEach (e :: es) X.env = (false, eval e X.env) :: starEach es X.env := by exact star_plain rfl) (hpl : (backTo pos (starEach es X.env)).any (·.1) = false := by rfl) : DE X adr Wx (.Call (.Name x p) (e :: es) [] pos) σ G cs (r i) (m i) := by
  obtain ⟨f, fd, ps, F, hm, kp, b, _⟩ := F.ex
  refine fun G1 H s d Q q => uE (pe_callS F (hr.mono hk) hg hm kp b (fun σ => passAt tk σ) (sA X _) (hdb := hd) (he := he) (hpl := hpl)) ?_
  refine ha G1 H s d _ fun G2 H2 vs s2 d2 hvs => ⟨i, G2, cs, d2, hp G2 vs (s.trans s2) hvs, ?_⟩
  cases hm : m i with
  | ok o =>
    rw [hm] at q
    exact fun v G3 H3 s3 d3 hv => q G3 H3 v (s2.trans s3) d3 hv
  | error k =>
    rw [hm] at q
    exact fun G3 H3 s3 d3 => q G3 H3 (s2.trans s3) d3
theorem DE.imp {O : Type} {P P' : O → Hp → V → Prop} {m : Except (Fin n) O} (h : DE X adr Wx e σ G cs P m) (i : ∀ o G v, P o G v → P' o G v) : DE X adr Wx e σ G cs P' m := fun G1 H s d Q q => h G1 H s d Q (by
  cases m with
  | ok o => exact fun G2 H2 v s2 d2 hv => q G2 H2 v s2 d2 (i _ _ _ hv)
  | error k => exact q)
/-- a call that may raise, but does not here -/
theorem d_callS {I O : Type} {pre : I → Hp → List V → Prop} {r : I → O → Hp → V → Prop} {m : I → Except (Fin n) O} {P : Hp → V → Prop} {k j a : Nat} {x : Str} {Ps : Hp → List V → Prop} {o : O} (i : I) (F : Fn0 X.prog X.w X.K X.mg X.base (L2.CX X.prog X.w) k x a (SpE (cE adr) pre r m)) (ho : m i = .ok o) (hr : Room j X.A) (hk : k ≤ j)
    (ha : A X (e :: es) σ G cs Ps) (hp : ∀ G1 vs, Same G G1 → Ps G1 vs → pre i G1 vs) (hP : ∀ G v, r i o G v → P G v) (hg : Gl X x := by rfl) (hd : (x == ("__debug__" : Str)) = false := by decide)
    (he : starEach (e :: es) X.env = (false, eval e X.env) :: starEach es X.env := by exact star_plain rfl) (hpl : (backTo pos (starEach es X.env)).any (·.1) = false := by rfl) : D X (.Call (.Name x p) (e :: es) [] pos) σ G cs P := by
  obtain ⟨f, fd, ps, F, hm, kp, b, _⟩ := F.ex
  refine d_by (pe_callS (E := fun _ _ _ _ => False) F (hr.mono hk) hg hm kp b (fun σ pins H s u s' I c => ?_) (sA X _) (hdb := hd) (he := he) (hpl := hpl)) fun G1 H s d Q q => ?_
  · obtain ⟨_, _, _, _, _, _, _, _, _, _, _, _, z⟩ := c
    exact z.elim
  · refine ha G1 H s d _ fun G2 H2 vs s2 d2 hvs => ⟨i, G2, cs, d2, hp G2 vs (s.trans s2) hvs, ?_⟩
    rw [ho]
    exact fun v G3 H3 s3 d3 hv => q G3 H3 v (s2.trans s3) d3 (hP _ _ hv)
section
variable {Φ : Po (Fin n) S L R} {O : Type} {P : O → Hp → V → Prop} {m : Except (Fin n) O}
/-- x = f(..) -/
theorem b_setE (i : Nat) {x : Str} {g : O → Out (Fin n) S L R} (hN : X.N.Nodup) (he : DE X adr Wx e σ G cs P m) (kr : ∀ k, m = .error k → ∀ G1, Same G G1 → Φ.er k σ G1 cs)
    (k : ∀ o, m = .ok o → ∀ v G1, Same G G1 → P o G1 v → B X (wE2 adr Wx) rest (σ.set i (some v)) G1 cs Φ (g o)) (hi : X.N[i]? = some x := by rfl) (hx : Loc X.env.scope x := by first | exact Or.inl rfl | exact Or.inr rfl)
    (hs : swapsWith e (some (.Name x p)) pos.line X.env = pure false := by rfl) (hf : X.fn x = true ∨ X.env.scope.names.lookup x = some .local := by first | exact .inl rfl | exact .inr rfl) : B X (wE2 adr Wx) (.Assign [.Name x p] e pos :: rest) σ G cs Φ (callE m g) :=
  b_cons (ps_set hN hi hx (sE X e) hs hf) fun H d E w => he G H (Same.refl _) d _ (by
    cases hm : m with
    | ok o =>
      rw [hm] at w
      exact fun G2 H2 v s2 d2 hv => k o hm v G2 s2 hv H2 d2 E (Wish.up (m := g o) w s2)
    | error c =>
      rw [hm] at w
      exact fun G2 H2 s2 d2 => w σ G2 cs H2 s2 d2 (kr c hm G2 s2))
/-- return f(..) -/
theorem b_retE {g : O → R} (he : DE X adr Wx e σ G cs P m) (kr : ∀ k, m = .error k → ∀ G1, Same G G1 → Φ.er k σ G1 cs) (k : ∀ o, m = .ok o → ∀ v G1, Same G G1 → P o G1 v → Φ.rt (g o) G1 cs v) :
    B X (wE2 adr Wx) (.Return (some e) pos :: rest) σ G cs Φ (callE m fun o => .rt (g o)) :=
  b_cons (ps_ret (sE X e)) fun H d E w => he G H (Same.refl _) d _ (by
    cases hm : m with
    | ok o =>
      rw [hm] at w
      exact fun G2 H2 v s2 d2 hv => w v G2 cs H2 s2 d2 (k o hm v G2 s2 hv)
    | error c =>
      rw [hm] at w
      exact fun G2 H2 s2 d2 => w σ G2 cs H2 s2 d2 (kr c hm G2 s2))
/-- f(..) alone -/
theorem b_exprE {g : O → Out (Fin n) S L R} (he : DE X adr Wx e σ G cs P m) (kr : ∀ k, m = .error k → ∀ G1, Same G G1 → Φ.er k σ G1 cs)
    (k : ∀ o, m = .ok o → ∀ G1, Same G G1 → B X (wE2 adr Wx) rest σ G1 cs Φ (g o)) (hs : swapsWith e none pos.line X.env = pure false := by rfl) : B X (wE2 adr Wx) (.Expr e pos :: rest) σ G cs Φ (callE m g) :=
  b_cons (ps_expr (sE X e) hs) fun H d E w => he G H (Same.refl _) d _ (by
    cases hm : m with
    | ok o =>
      rw [hm] at w
      exact fun G2 H2 v s2 d2 hv => k o hm G2 s2 H2 d2 E (Wish.up (m := g o) w s2)
    | error c =>
      rw [hm] at w
      exact fun G2 H2 s2 d2 => w σ G2 cs H2 s2 d2 (kr c hm G2 s2))
end
section
variable {ε S' : Type} {Φ : Po ε S L R} {W : ε → L2.St → Hp → Prop} {suite : List Stmt} {b₀ : Stmt} {np : Pos}
/-- try: .. except BankError as x: .. -/
theorem b_tryAs {mb : Out (Fin n) S' L R} {mh : Fin n → Out ε S' L R} {g : S' → Out ε S L R} {x : Str} (i : Nat) (Mid : S' → L2.St → Hp → Cells → Prop) (Mx : Fin n → L2.St → Hp → Cells → Prop) (Er : Errs X.K X.mg nm adr B0) (hN : X.N.Nodup)
    (hb : ∀ (Wx : WX) (pn : List (Addr × Obj)) (xe : Value → Shared → Prop), Takes (X.tr pn xe) Wx → PassesOwn (model X.prog X.w) X.A X.env xe → B (X.tr pn xe) (wE2 adr Wx) body σ G cs { nx := Mid, lp := Φ.lp, rt := Φ.rt, er := Mx } mb)
    (hh : ∀ k, mb = .er k → ∀ (a : Addr) (oe : Obj) (pn : List (Addr × Obj)) (σ1 : L2.St) (G1 : Hp) (cs1 : Cells), Same G G1 → Mx k σ1 G1 cs1 → Zc (.ref (adr k)) none oe → (∃ vs, oe.data = .fields vs) →
      B (X.suite a ((a, oe) :: pn)) W (b₀ :: suite) (σ1.set i (some (.ref a))) G1 cs1 { nx := fun s σ2 => Mid s (σ2.set i none), lp := fun l σ2 => Φ.lp l (σ2.set i none), rt := Φ.rt, er := fun _ _ _ _ => False } (mh k))
    (hr : ∀ s σ2 G2 cs2, Same G G2 → Mid s σ2 G2 cs2 → tryO mb mh = .nx s → B X W rest σ2 G2 cs2 Φ (g s))
    (hs : X.stack = X.env :: X.outer := by rfl) (hf : X.env.frame = some X.env.locals := by rfl) (hi : X.N[i]? = some x := by rfl) (hln : X.env.kindOf x = some .local := by rfl) (hg : Gl X "BankError" := by rfl) :
    B X W (.Try body [.ExceptHandler (some (.Name "BankError" np)) (some x) (b₀ :: suite) q] [] [] pos :: rest) σ G cs Φ ((tryO mb mh).bind g) := by
  refine b_cons (ps_try_as (i := i) (tb := fun Wx D σ H => ∀ pn xe, Takes (X.tr pn xe) Wx → PassesOwn (model X.prog X.w) X.A X.env xe → wSs (X.tr pn xe) body D σ H) (ts := fun a cls d D σ H => ∀ oe pn, Zc cls d oe → (∃ vs, oe.data = .fields vs) → wSs (X.suite a ((a, oe) :: pn)) (b₀ :: suite) D σ H) (Wout := fun _ _ _ _ => False)
    hs hf hN hi hln ⟨hg, by decide, .inl Er.mB⟩ takes0 (fun Wx pn xe tk po => ⟨fun pins s _ _ _ I h => (h pn xe tk po).run pins s I⟩) (fun a oe cls d pn hz hfd => ⟨fun pins s _ _ _ I h => (h oe pn hz hfd).run pins s I⟩)) fun H d E w => ?_
  intro pn xe tk po
  have h1 := hb _ pn xe tk po
  refine h1 H d _ ?_
  cases hm : mb with
  | nx s =>
    rw [hm] at w hr
    exact fun σ2 G2 cs2 H2 s2 d2 p => hr s σ2 G2 cs2 s2 p rfl H2 d2 E (Wish.up (G := G) (show Wish W G Φ E (g s) from w) s2)
  | bk l =>
    rw [hm] at w
    exact fun σ2 G2 cs2 H2 s2 d2 p => w σ2 G2 cs2 H2 s2 d2 p
  | ct l =>
    rw [hm] at w
    exact fun σ2 G2 cs2 H2 s2 d2 p => w σ2 G2 cs2 H2 s2 d2 p
  | rt r =>
    rw [hm] at w
    exact fun v G2 cs2 H2 s2 d2 p => w v G2 cs2 H2 s2 d2 p
  | er k =>
    rw [hm] at w hr
    intro σ2 G2 cs2 H2 s2 d2 p
    refine ⟨true, (Er.one k).ca, fun _ a ha oe pn2 hz hfd => ?_, fun z => nomatch z⟩
    refine hh k hm a oe pn2 σ2 G2 cs2 s2 p hz hfd H2 d2 _ ?_
    have w2 : Wish W G Φ E ((mh k).bind g) := w
    have hr2 : ∀ s σ2 G2 cs2, Same G G2 → Mid s σ2 G2 cs2 → mh k = .nx s → B X W rest σ2 G2 cs2 Φ (g s) := hr
    cases hk : mh k with
    | nx s =>
      rw [hk] at w2
      exact fun σ3 G3 cs3 H3 s3 d3 p3 => hr2 s _ G3 cs3 (s2.trans s3) p3 hk H3 d3 E (Wish.up (G := G) (show Wish W G Φ E (g s) from w2) (s2.trans s3))
    | bk l =>
      rw [hk] at w2
      exact fun σ3 G3 cs3 H3 s3 d3 p3 => w2 _ G3 cs3 H3 (s2.trans s3) d3 p3
    | ct l =>
      rw [hk] at w2
      exact fun σ3 G3 cs3 H3 s3 d3 p3 => w2 _ G3 cs3 H3 (s2.trans s3) d3 p3
    | rt r =>
      rw [hk] at w2
      exact fun v G3 cs3 H3 s3 d3 p3 => w2 v G3 cs3 H3 (s2.trans s3) d3 p3
    | er e => exact fun _ _ _ _ _ _ z => z.elim
/-- try: .. except BankError: .. -/
theorem b_tryOnly {mb : Out (Fin n) S' L R} {mh : Fin n → Out ε S' L R} {g : S' → Out ε S L R} (Mid : S' → L2.St → Hp → Cells → Prop) (Mx : Fin n → L2.St → Hp → Cells → Prop) (Er : Errs X.K X.mg nm adr B0)
    (hb : ∀ (Wx : WX) (pn : List (Addr × Obj)) (xe : Value → Shared → Prop), Takes (X.tr pn xe) Wx → PassesOwn (model X.prog X.w) X.A X.env xe → B (X.tr pn xe) (wE2 adr Wx) body σ G cs { nx := Mid, lp := Φ.lp, rt := Φ.rt, er := Mx } mb)
    (hh : ∀ k, mb = .er k → ∀ (a : Addr) (oe : Obj) (pn : List (Addr × Obj)) (σ1 : L2.St) (G1 : Hp) (cs1 : Cells), Same G G1 → Mx k σ1 G1 cs1 → Zc (.ref (adr k)) none oe → (∃ vs, oe.data = .fields vs) →
      B (X.suite a ((a, oe) :: pn)) W (b₀ :: suite) σ1 G1 cs1 { nx := Mid, lp := Φ.lp, rt := Φ.rt, er := fun _ _ _ _ => False } (mh k))
    (hr : ∀ s σ2 G2 cs2, Same G G2 → Mid s σ2 G2 cs2 → tryO mb mh = .nx s → B X W rest σ2 G2 cs2 Φ (g s))
    (hs : X.stack = X.env :: X.outer := by rfl) (hf : X.env.frame = some X.env.locals := by rfl) (hg : Gl X "BankError" := by rfl) :
    B X W (.Try body [.ExceptHandler (some (.Name "BankError" np)) none (b₀ :: suite) q] [] [] pos :: rest) σ G cs Φ ((tryO mb mh).bind g) := by
  refine b_cons (ps_try_only (tb := fun Wx D σ H => ∀ pn xe, Takes (X.tr pn xe) Wx → PassesOwn (model X.prog X.w) X.A X.env xe → wSs (X.tr pn xe) body D σ H) (ts := fun a cls d D σ H => ∀ oe pn, Zc cls d oe → (∃ vs, oe.data = .fields vs) → wSs (X.suite a ((a, oe) :: pn)) (b₀ :: suite) D σ H) (Wout := fun _ _ _ _ => False)
    hs hf ⟨hg, by decide, .inl Er.mB⟩ takes0 (fun Wx pn xe tk po => ⟨fun pins s _ _ _ I h => (h pn xe tk po).run pins s I⟩) (fun a oe cls d pn hz hfd => ⟨fun pins s _ _ _ I h => (h oe pn hz hfd).run pins s I⟩)) fun H d E w => ?_
  intro pn xe tk po
  have h1 := hb _ pn xe tk po
  refine h1 H d _ ?_
  cases hm : mb with
  | nx s =>
    rw [hm] at w hr
    exact fun σ2 G2 cs2 H2 s2 d2 p => hr s σ2 G2 cs2 s2 p rfl H2 d2 E (Wish.up (G := G) (show Wish W G Φ E (g s) from w) s2)
  | bk l =>
    rw [hm] at w
    exact fun σ2 G2 cs2 H2 s2 d2 p => w σ2 G2 cs2 H2 s2 d2 p
  | ct l =>
    rw [hm] at w
    exact fun σ2 G2 cs2 H2 s2 d2 p => w σ2 G2 cs2 H2 s2 d2 p
  | rt r =>
    rw [hm] at w
    exact fun v G2 cs2 H2 s2 d2 p => w v G2 cs2 H2 s2 d2 p
  | er k =>
    rw [hm] at w hr
    intro σ2 G2 cs2 H2 s2 d2 p
    refine ⟨true, (Er.one k).ca, fun _ a ha oe pn2 hz hfd => ?_, fun z => nomatch z⟩
    refine hh k hm a oe pn2 σ2 G2 cs2 s2 p hz hfd H2 d2 _ ?_
    have w2 : Wish W G Φ E ((mh k).bind g) := w
    have hr2 : ∀ s σ2 G2 cs2, Same G G2 → Mid s σ2 G2 cs2 → mh k = .nx s → B X W rest σ2 G2 cs2 Φ (g s) := hr
    cases hk : mh k with
    | nx s =>
      rw [hk] at w2
      exact fun σ3 G3 cs3 H3 s3 d3 p3 => hr2 s _ G3 cs3 (s2.trans s3) p3 hk H3 d3 E (Wish.up (G := G) (show Wish W G Φ E (g s) from w2) (s2.trans s3))
    | bk l =>
      rw [hk] at w2
      exact fun σ3 G3 cs3 H3 s3 d3 p3 => w2 _ G3 cs3 H3 (s2.trans s3) d3 p3
    | ct l =>
      rw [hk] at w2
      exact fun σ3 G3 cs3 H3 s3 d3 p3 => w2 _ G3 cs3 H3 (s2.trans s3) d3 p3
    | rt r =>
      rw [hk] at w2
      exact fun v G3 cs3 H3 s3 d3 p3 => w2 v G3 cs3 H3 (s2.trans s3) d3 p3
    | er e => exact fun _ _ _ _ _ _ z => z.elim
end
end
end J

namespace J
open PySem PySem.Spec L2 PyProof.Rows
open L2H (RoomH PinOk cxH)

/-! ### defs that are handed the error in hand -/
/-- what a def promises that is called within an except suite: a the error, C its class -/
structure FnX (P : Program) (w : World) (K : PySem.W.Frag) (mg : Str → Option Value) (base : Heap) (k : Nat) (x : Str) (n : Nat) (sp : Addr → Addr → Sp) : Prop where
  ex : ∃ (f : Addr) (fd : FuncData) (ps : List Str), (∀ a C vs H Q E, sp a C vs H Q E → vs.length = ps.length) ∧
    (∀ (A : Around) (outer : List Env) (s : Shared) (H : Hp) (args : Args) (us : List Value) (vs : List V) (Q : VK) (E : XK) (p : Addr × Obj) (C : Addr), RoomH k A → PinOk outer H s p → Zc (.ref C) none p.2 → (∃ u, p.2.data = .fields u) → Env0 P w K mg base A outer s H →
      BindsTo s fd args (ps.zip us) → Vals vs us → sp p.1 C vs H Q E → codeAny (model P w) A (.call (.ref f) args) (CR CX0 outer P w H s Q E) s) ∧
    mg x = some (.ref f) ∧ PySem.W.keepIn K (.ref f) = true ∧ Binds K fd ps [] ∧ ps.length = n
section
variable {P : Program} {w : World} {K : PySem.W.Frag} {mg : Str → Option Value} {base : Heap}
/-- the promise of such a def, that raises nothing: i the error's number -/
def SpK {I O : Type} (adr : I → Addr) (r : O → Hp → V → Prop) (m : I → O) : Addr → Addr → Sp := fun a C vs H Q _ => ∃ (i : I) (G : Hp) (cs : Cells), C = adr i ∧ vs = [.ref a] ∧ Desc G cs H ∧ ∀ v G2 H2, Same G G2 → Desc G2 cs H2 → r (m i) G2 v → Q v H2
theorem fn_mkX {I O : Type} [Inhabited O] {x y : Str} {st : Stmt} {f : Addr} {fd : FuncData} {N : List Str} {k : Nat} {adr : I → Addr} {r : O → Hp → V → Prop} (F : Fun K x x st f fd) (S : FnScope N [y] (defScope st)) (b : Binds K fd [y] []) (hmg : mg x = some (.ref f))
    (body : I → Out Empty Unit Empty O)
    (h : ∀ (cdv : Value) (A : Around) (outer : List Env) (s : Shared) (H : Hp) (E : XK) (p : Addr × Obj) (i : I) (G : Hp) (cs : Cells), RoomH k (A.deeper (envOfC x (defScope st) s.heap.objs.size f cdv)) → Zc (.ref (adr i)) none p.2 → (∃ u, p.2.data = .fields u) →
      B (cxH CX0 P w K mg base N x (defScope st) f cdv A outer s H E p) (fun e _ _ => e.elim) (defBody st) (start N [.ref p.1]) G cs (PoF cs r) (body i)) :
    FnX P w K mg base (k + 1) x 1 (SpK adr r fun i => (body i).val) := by
  obtain ⟨oc, od, kV, doc, pm, an, cdv, ct, osl, rfl, hk, hcode⟩ := F.ex
  refine ⟨f, _, [y], ?_, ?_, hmg, F.kp, b, rfl⟩
  · rintro a C vs H Q E ⟨i, G, cs, _, rfl, _⟩
    rfl
  · rintro A outer s0 H args us vs Q E p C room pin hz hf en hbi rv ⟨i, G, cs, rfl, rfl, d, q⟩
    have kin := en.mod.kin.keeps fun a o z => (en.bs a o z).1
    have nol := en.mod.nolimit.keeps fun a o z => (en.bs a o z).1
    have kinds : ∀ z ∈ [y].zip us, (defScope st).names.lookup z.1 = some .local ∨ ((defScope st).names.lookup z.1 = some .cell ∧ ((cellsFrom (s0.heap.objs.size + 1) (defScope st).names []).lookup z.1).isSome = true) := fun ⟨nm, v⟩ hz =>
      (S.par nm (List.of_mem_zip hz).1).imp id fun t => ⟨t, PySem.W.cellsFrom_some _ _ _ (.inl t)⟩
    refine codeAny_call_function room.depth (kin _ _ hk) rfl S.co S.gen rfl (PySem.W.codeRec_of kin hcode) (hbi _ _ _ _ (wpAny_newFunctionEnv_cells S.kind kinds fun env he s1 ic => ?_))
    subst he
    refine ⟨nol.keeps ic.toInCall.keep, codeAny_func ?_⟩
    have Iv := L2H.inv_startH (CX := CX0) (qual := x) (cd := cdv) (E := E) S pin en rfl rv ic
    have run := h cdv A outer s0 H E p i G cs (room.deeper _) hz hf H d { nx := fun _ H' => Q .non H', rt := Q } (by
      dsimp only at q
      cases hb : body i with
      | nx u =>
        rw [hb] at q
        rintro σ2 G2 cs2 H2 s2 d2 ⟨⟨loc, rfl⟩, hr2⟩
        exact q _ G2 H2 s2 d2.drop hr2
      | bk l => exact l.elim
      | ct l => exact l.elim
      | rt o =>
        rw [hb] at q
        rintro v G2 cs2 H2 s2 d2 ⟨⟨loc, rfl⟩, hr2⟩
        exact q _ G2 H2 s2 d2.drop hr2
      | er e => exact e.elim)
    refine wpAny_mono (run.run [] s1 Iv) (fun fl s2 hs => ?_) fun e s2 hs => hs
    have done : ∀ {σ' : L2.St} {H' : Hp} {v : V} {u : Value}, Inv (cxH CX0 P w K mg base N x (defScope st) f cdv A outer s0 H E p) [] σ' H' s2 → RelV v u → Q v H' → CE outer P w H s0 Q u s2 := fun Jv rvu qv => ⟨_, _, Jv.os, Jv.bare, Jv.base, Jv.hok, rvu, qv⟩
    cases fl with
    | ret u =>
      obtain ⟨v, σ2, H2, Jv, rvu, qv⟩ := hs
      exact done Jv rvu qv
    | next =>
      obtain ⟨σ2, H2, Jv, qv⟩ := hs
      exact done (v := V.non) (u := Value.none) Jv rfl qv
    | brk =>
      obtain ⟨_, _, _, z⟩ := hs
      exact z.elim
    | cont =>
      obtain ⟨_, _, _, z⟩ := hs
      exact z.elim
end
section
variable {n : Nat} {nm : _root_.Fin n → Str} {adr : _root_.Fin n → Addr} {B0 : Addr} {X : Cx} {σ : L2.St} {G : Hp} {cs : Cells} {e : Expr} {es : List Expr} {pos p : Pos}
theorem roomX {A A' : Around} {j k : Nat} (h : Room j A) (hk : k ≤ j) (hd : A'.depth = A.depth := by rfl) (hu : A'.units = A.units := by rfl) : RoomH k A' := ⟨by rw [hd]; exact (h.mono hk).dp, by rw [hu]; exact (h.mono hk).un⟩
/-- f(e), e the error in hand -/
theorem d_callX {I O : Type} {ad : I → Addr} {r : O → Hp → V → Prop} {m : I → O} {P : Hp → V → Prop} {k a : Nat} {x : Str} {b : Addr} {ob : Obj} (i : I) (F : FnX X.prog X.w X.K X.mg X.base k x a (SpK ad r m)) (hr : RoomH k X.A) (hp : (b, ob) ∈ X.pn) (hz : Zc (.ref (ad i)) none ob) (hf : ∃ u, ob.data = .fields u)
    (he : D X e σ G cs (rV (.ref b))) (hP : ∀ G v, r (m i) G v → P G v) (hg : Gl X x := by rfl) (hd : (x == ("__debug__" : Str)) = false := by decide)
    (hst : starEach [e] X.env = (false, eval e X.env) :: starEach [] X.env := by rfl) (hpl : (backTo pos (starEach [] X.env)).any (·.1) = false := by rfl) : D X (.Call (.Name x p) [e] [] pos) σ G cs P := by
  obtain ⟨f, fd, ps, hlen, F, hm, kp, hb, _⟩ := F.ex
  refine fun G1 H s d Q q => ⟨fun pins s0 Iv => wpAny_Call_Name_kw (ld_glob Iv hg hm ?_ hd)⟩
  refine PySem.W.callWith_K (h₀ := X.base) Iv.ok.mod.kin kp (thn ((pa_cons (sE X e) pa_nil hst).run pos pins s0 σ H (fun vs H2 => vs = [V.ref b] ∧ ∃ G2, Same G1 G2 ∧ Desc G2 cs H2) Iv (he G1 H s d _ fun G2 H2 v s2 d2 hv => ⟨by rw [show v = V.ref b from hv], G2, s2, d2⟩)) fun us s1 hh => ?_) hst hpl
  obtain ⟨vs, H2, I2, rv, rfl, G2, s2, d2⟩ := hh
  refine ⟨I2.kIn, ?_⟩
  have sp : SpK ad r m b (ad i) [V.ref b] H2 Q (fun _ _ _ => False) := ⟨i, G2, cs, rfl, rfl, d2, fun v G3 H3 s3 d3 hv => q G3 H3 v (s2.trans s3) d3 (hP _ _ hv)⟩
  have bb := hb s1 us I2.kIn (by rw [List.append_nil, ← rv.length]; exact hlen _ _ _ _ _ _ sp)
  rw [List.append_nil] at bb
  obtain ⟨p1, p2, p3, p4, p5⟩ := I2.pin (b, ob) (List.mem_append_left _ hp)
  have pin : PinOk X.stack H2 s1 (b, ob) := ⟨p1, p2, fun z => (List.mem_cons.mp (I2.stkSub b z)).elim p3 p4, p5⟩
  refine wpAny_call (codeAny_mono (F X.A X.stack s1 H2 ⟨us, []⟩ us _ Q (fun _ _ _ => False) (b, ob) (ad i) hr pin hz hf I2.env0 bb rv sp) fun t s2 hq => ?_)
  cases t with
  | error c => exact absurd hq (by intro z; exact z)
  | ok fl =>
    cases fl with
    | ret u => exact I2.after hq
    | next => exact hq.elim
    | brk => exact hq.elim
    | cont => exact hq.elim
/-- isinstance(e, C), e the error in hand -/
theorem call_isP {b C : Addr} {ob : Obj} (c : ExcC X.K C) (hz : Zc (.ref C) none ob) (hf : ∃ u, ob.data = .fields u) (hp : (b, ob) ∈ X.pn) : CallR X (.builtin "isinstance") (rIsE X.K C b) := by
  rintro pins s0 σ H xs us Q Iv rv ⟨cl, cv, t, rfl, hcv, kt, q⟩
  obtain ⟨u1, u2, rfl, r1, r2⟩ := vals2 rv
  obtain rfl := hcv _ r2
  cases (show u1 = Value.ref b from r1)
  obtain ⟨fs, hv⟩ := hf
  have at1 : PySem.W.InstAt s0.heap b ob C none := by
    have g := (Iv.pin (b, ob) (List.mem_append_left _ hp)).1
    obtain ⟨k1, k2, k3, k4⟩ := ob
    obtain ⟨rfl, rfl⟩ := hz
    cases (show k3 = _ from hv)
    exact ⟨g, rfl, rfl, trivial⟩
  exact PySem.W.kia_one (PySem.W.handS_kitx_exc c.hg c.hk c.hs c.hd c.ha c.hn c.ht c.hm) Iv.kIn at1 kt (fun z => nomatch z) fun tk => ⟨.bl t, H, Iv.kept (t' := tk) fun _ _ z => z, rfl, q⟩
theorem d_isE {y : Str} {b : Addr} {ob : Obj} {py : Pos} (i j : _root_.Fin n) (Er : Errs X.K X.mg nm adr B0) (hz : Zc (.ref (adr i)) none ob) (hf : ∃ u, ob.data = .fields u) (hp : (b, ob) ∈ X.pn) (hm : X.mg "isinstance" = none) (he : D X e σ G cs (rV (.ref b))) (hy : nm j = y)
    (hg : Gl X "isinstance" := by rfl) (hgy : Gl X y := by rfl) (hdy : (y == ("__debug__" : Str)) = false := by decide) (hst : starEach [e, .Name y py] X.env = (false, eval e X.env) :: starEach [.Name y py] X.env := by rfl) (hst2 : starEach [.Name y py] X.env = (false, eval (.Name y py) X.env) :: starEach [] X.env := by rfl)
    (hpl : (backTo pos (starEach [.Name y py] X.env)).any (·.1) = false := by rfl) : D X (.Call (.Name "isinstance" p) [e, .Name y py] [] pos) σ G cs (rB (decide (i = j))) := by
  subst hy
  refine d_callB (Ps := aC (rV (.ref b)) (aC (rV (.ref (adr j))) aN)) (call_isP (Er.one i).cl hz hf hp) hm (a_cons (P := rV (.ref b)) he (a_cons (P := rV (.ref (adr j))) ?_ a_nil hst2) hst) (fun G1 H vs s d h Q q => ?_) hg (he := hst) (hpl := hpl)
  · exact d_by (pe_glob hgy (Er.one j).mg (v := .ref (adr j)) rfl hdy) fun G1 H s d Q q => q G1 H _ (Same.refl _) d rfl
  · obtain ⟨v, w, rfl, hv, v2, w2, rfl, hv2, hw⟩ := h
    cases (show w2 = [] from hw)
    cases (show v = V.ref b from hv)
    cases (show v2 = V.ref (adr j) from hv2)
    exact ⟨_, _, _, rfl, fun u z => z, Er.is i j, q G1 H _ (Same.refl _) d rfl⟩
end
end J

namespace J
open PySem L2 PyProof.Rows
/-! ### one of two kinds of values -/
def rSum {α β : Type} (r : α → Hp → V → Prop) (r' : β → Hp → V → Prop) : α ⊕ β → Hp → V → Prop
  | .inl x => r x
  | .inr y => r' y
instance {α β : Type} (r : α → Hp → V → Prop) (r' : β → Hp → V → Prop) [m : ∀ x, Mono (r x)] [m' : ∀ x, Mono (r' x)] (x : α ⊕ β) : Mono (rSum r r' x) :=
  ⟨fun e h => by
    cases x with
    | inl x => exact (m x).mono e h
    | inr x => exact (m' x).mono e h⟩
instance (K : PySem.W.Frag) : EqR K (rSum rI rS) where
  toD x := match x with
    | .inl i => .int i
    | .inr l => .str (SX.S l)
  ok x := match x with
    | .inl _ => True
    | .inr l => ∀ c ∈ l, c < 1114112
  dep := 1
  dp {x} _ _ _ h s := by
    cases x with
    | inl i => cases (show _ = _ from h); exact .int _
    | inr l => cases (show _ = _ from h); exact .str _
  lay {x} h := by
    cases x with
    | inl i => rfl
    | inr l => exact (inferInstance : EqR K rS).lay h
  deep x := by cases x <;> (unfold PyData.depth; omega)
  eqv x y := by
    cases x <;> cases y <;> unfold PyData.eqv
    · simp [beq_iff_eq]
    · simp
    · simp
    · rw [SX.S_beq]
      simp [beq_iff_eq]
section
variable {X : Cx} {σ : L2.St} {G : Hp} {cs : Cells} {a b e : Expr} {pos p : Pos} {i j : Int}
theorem d_inl {α β : Type} {r : α → Hp → V → Prop} {r' : β → Hp → V → Prop} {x : α} (h : D X e σ G cs (r x)) : D X e σ G cs (rSum r r' (.inl x)) := h
theorem d_inr {α β : Type} {r : α → Hp → V → Prop} {r' : β → Hp → V → Prop} {x : β} (h : D X e σ G cs (r' x)) : D X e σ G cs (rSum r r' (.inr x)) := h
theorem Rs.to {α β : Type} {r : α → Hp → V → Prop} {r' : β → Hp → V → Prop} {f : α → β} {G : Hp} (h : ∀ x v, r x G v → r' (f x) G v) : ∀ {xs : List α} {vs : List V}, Rs r G xs vs → Rs r' G (xs.map f) vs
  | _, _, .nil => .nil
  | _, _, .cons q t => .cons (h _ _ q) (Rs.to h t)
/-- a list, each item told otherwise -/
theorem d_lmap {α β : Type} {r : α → Hp → V → Prop} {r' : β → Hp → V → Prop} (f : α → β) {xs : List α} (h : D X e σ G cs (rL X.K r xs)) (q : ∀ x G v, r x G v → r' (f x) G v) : D X e σ G cs (rL X.K r' (xs.map f)) :=
  h.imp fun G v ⟨l, vs, e1, e2, e3⟩ => ⟨l, vs, e1, e2, Rs.to (fun x v => q x G v) e3⟩

/-! ### what may be None, and is not -/
def oGet {α : Type} [Inhabited α] (o : Option α) : α := o.getD default
theorem oS1 {α : Type} {o : Option α} (h : (!o.isNone) = true) : o.isSome = true := by cases o <;> simp_all
theorem oS2 {α : Type} {o : Option α} (h : o.isNone = false) : o.isSome = true := by cases o <;> simp_all
theorem d_unO {α : Type} [Inhabited α] {r : α → Hp → V → Prop} {o : Option α} (h : D X e σ G cs (rO r o)) (hs : o.isSome = true) : D X e σ G cs (r (oGet o)) := by
  cases o with
  | none => cases hs
  | some x => exact h

/-! ### is of bools -/
theorem c_isB {H : Hp} {Q : VK} {i j : Bool} {x y : V} {G1 : Hp} (hx : rB i G1 x) (hy : rB j G1 y) (q : Q (.bl (decide (i = j))) H) : ∃ a b, x = .bl a ∧ y = .bl b ∧ Q (.bl (decide (a = b))) H := ⟨i, j, hx, hy, q⟩
theorem c_nisB {H : Hp} {Q : VK} {i j : Bool} {x y : V} {G1 : Hp} (hx : rB i G1 x) (hy : rB j G1 y) (q : Q (.bl (!decide (i = j))) H) : ∃ a b, x = .bl a ∧ y = .bl b ∧ Q (.bl (!decide (a = b))) H := ⟨i, j, hx, hy, q⟩

theorem d_isNN {jj : Nat} {p' : Pos} (ha : D X a σ G cs (rN ())) : D X (.Compare a [.Is] [.Constant .none jj p'] pos) σ G cs (rB true) :=
  d_cmp op_isN (nomark _) ha d_non fun G1 H x y s d hx hy Q q => ⟨hy, by cases (show x = V.non from hx); exact q⟩
theorem t_isNN {jj : Nat} {p' : Pos} (ha : D X a σ G cs (rN ())) : T X (.Compare a [.Is] [.Constant .none jj p'] pos) σ G cs true :=
  t_cmp op_isN (nomark _) ha d_non fun G1 H x y s d hx hy Q q => ⟨hy, by cases (show x = V.non from hx); exact q⟩
theorem d_notNN {jj : Nat} {p' : Pos} (ha : D X a σ G cs (rN ())) : D X (.Compare a [.IsNot] [.Constant .none jj p'] pos) σ G cs (rB false) :=
  d_cmp op_notN (nomark _) ha d_non fun G1 H x y s d hx hy Q q => ⟨hy, by cases (show x = V.non from hx); exact q⟩
theorem t_notNN {jj : Nat} {p' : Pos} (ha : D X a σ G cs (rN ())) : T X (.Compare a [.IsNot] [.Constant .none jj p'] pos) σ G cs false :=
  t_cmp op_notN (nomark _) ha d_non fun G1 H x y s d hx hy Q q => ⟨hy, by cases (show x = V.non from hx); exact q⟩

/-! ### x in xs -/
theorem inV_S (l : List Nat) : ∀ xs : List (List Nat), inV (.str (SX.S l)) (xs.map fun y => .str (SX.S y)) = decide (l ∈ xs)
  | [] => by simp [inV]
  | y :: xs => by
    have ih := inV_S l xs
    unfold inV at ih ⊢
    rw [List.map_cons, List.any_cons, ih]
    show (SX.S y == SX.S l || _) = _
    rw [SX.S_beq]
    by_cases h : y = l
    · subst h
      simp
    · have h2 : ¬ l = y := fun z => h z.symm
      simp [h, h2]
theorem inV_I (i : Int) : ∀ xs : List Int, inV (.int i) (xs.map V.int) = decide (i ∈ xs)
  | [] => by simp [inV]
  | y :: xs => by
    have ih := inV_I i xs
    unfold inV at ih ⊢
    rw [List.map_cons, List.any_cons, ih]
    show (y == i || _) = _
    by_cases h : y = i
    · subst h
      simp
    · have h2 : ¬ i = y := fun z => h z.symm
      simp [h, h2]
/-- items that `in` may ask -/
class InR {α : Type} [DecidableEq α] (r : α → Hp → V → Prop) where
  f : α → V
  is : ∀ {x G v}, r x G v → v = f x
  fl : ∀ x, flatV (f x) = true
  iv : ∀ (x : α) (xs : List α), inV (f x) (xs.map f) = decide (x ∈ xs)
instance : InR rS where
  f l := .str (SX.S l)
  is h := h
  fl _ := rfl
  iv x xs := (inV_S x xs).trans (decide_eq_decide.mpr Iff.rfl)
instance : InR rI where
  f := .int
  is h := h
  fl _ := rfl
  iv x xs := (inV_I x xs).trans (decide_eq_decide.mpr Iff.rfl)
theorem Rs.eqMap {α : Type} [DecidableEq α] {r : α → Hp → V → Prop} [q : InR r] {G : Hp} : ∀ {xs : List α} {vs : List V}, Rs r G xs vs → vs = xs.map q.f
  | _, _, .nil => rfl
  | _, _, .cons h t => by rw [List.map_cons, q.is h, Rs.eqMap t]
theorem allFlat {α : Type} [DecidableEq α] {r : α → Hp → V → Prop} [q : InR r] (xs : List α) : (xs.map q.f).all flatV = true := by
  rw [List.all_eq_true]
  intro v hv
  obtain ⟨x, _, rfl⟩ := List.mem_map.mp hv
  exact q.fl x
/-- readable as a row of items: a list or a tuple -/
def rRow (K : PySem.W.Frag) (cs : Cells) {α : Type} (r : α → Hp → V → Prop) (xs : List α) : Hp → V → Prop := fun G v => ∃ a vs, v = .ref a ∧ (∀ H, Desc G cs H → SqL K H a vs ∨ SqT K H a vs) ∧ Rs r G xs vs
theorem rRow_l {K : PySem.W.Frag} {cs : Cells} {α : Type} {r : α → Hp → V → Prop} {xs : List α} {G : Hp} {v : V} (h : rdL K cs r xs G v) : rRow K cs r xs G v := by
  obtain ⟨a, vs, e, h1, h2⟩ := h
  refine ⟨a, vs, e, fun H d => .inl ?_, h2⟩
  rcases h1 with h1 | h1
  · exact d.same.seq h1
  · exact SqL.of (d.at_ h1)
theorem rRow_t {K : PySem.W.Frag} {cs : Cells} {α : Type} {r : α → Hp → V → Prop} {xs : List α} {G : Hp} {v : V} (h : rU K r xs G v) : rRow K cs r xs G v := by
  obtain ⟨a, vs, e, h1, h2⟩ := h
  exact ⟨a, vs, e, fun H d => .inr (seqT d.same h1), h2⟩
section
/-- x among xs -/
def inB {α : Type} [DecidableEq α] (x : α) (xs : List α) : Bool := decide (x ∈ xs)
theorem inB_iff {α : Type} [DecidableEq α] {x : α} {xs : List α} : inB x xs = true ↔ x ∈ xs := decide_eq_true_iff
variable {α : Type} [DecidableEq α] {r : α → Hp → V → Prop} [q0 : InR r] [∀ x, Mono (r x)] {x : α} {xs : List α}
theorem d_in (ha : D X a σ G cs (r x)) (hb : D X b σ G cs (rRow X.K cs r xs)) (hm : behindInMarks .In b = false := by rfl) : D X (.Compare a [.In] [b] pos) σ G cs (rB (inB x xs)) :=
  d_cmp op_in_seq hm ha hb fun G1 H u w s d hu hw Q q => by
    obtain ⟨l, vs, rfl, h1, h2⟩ := hw
    rw [h2.eqMap] at h1
    rw [q0.is hu]
    refine ⟨l, _, rfl, h1 H d, q0.fl x, allFlat xs, ?_⟩
    rw [if_neg (by simp), q0.iv]
    exact q
theorem d_nin (ha : D X a σ G cs (r x)) (hb : D X b σ G cs (rRow X.K cs r xs)) (hm : behindInMarks .NotIn b = false := by rfl) : D X (.Compare a [.NotIn] [b] pos) σ G cs (rB (!inB x xs)) :=
  d_cmp op_notIn_seq hm ha hb fun G1 H u w s d hu hw Q q => by
    obtain ⟨l, vs, rfl, h1, h2⟩ := hw
    rw [h2.eqMap] at h1
    rw [q0.is hu]
    refine ⟨l, _, rfl, h1 H d, q0.fl x, allFlat xs, ?_⟩
    rw [if_pos rfl, q0.iv]
    exact q
theorem t_in (ha : D X a σ G cs (r x)) (hb : D X b σ G cs (rRow X.K cs r xs)) (hm : behindInMarks .In b = false := by rfl) : T X (.Compare a [.In] [b] pos) σ G cs (inB x xs) :=
  t_cmp op_in_seq hm ha hb fun G1 H u w s d hu hw Q q => by
    obtain ⟨l, vs, rfl, h1, h2⟩ := hw
    rw [h2.eqMap] at h1
    rw [q0.is hu]
    refine ⟨l, _, rfl, h1 H d, q0.fl x, allFlat xs, ?_⟩
    rw [if_neg (by simp), q0.iv]
    exact q
theorem t_nin (ha : D X a σ G cs (r x)) (hb : D X b σ G cs (rRow X.K cs r xs)) (hm : behindInMarks .NotIn b = false := by rfl) : T X (.Compare a [.NotIn] [b] pos) σ G cs (!inB x xs) :=
  t_cmp op_notIn_seq hm ha hb fun G1 H u w s d hu hw Q q => by
    obtain ⟨l, vs, rfl, h1, h2⟩ := hw
    rw [h2.eqMap] at h1
    rw [q0.is hu]
    refine ⟨l, _, rfl, h1 H d, q0.fl x, allFlat xs, ?_⟩
    rw [if_pos rfl, q0.iv]
    exact q
end

/-! ### isinstance(x, T), T built in -/
class HasTy {α : Type} (K : PySem.W.Frag) (r : α → Hp → V → Prop) (t : outParam String) : Prop where
  ty : ∀ {x G H v cs}, r x G v → Desc G cs H → TyX K H v (.type t)
instance (K : PySem.W.Frag) : HasTy K rI "int" := ⟨fun h _ => by cases h; exact .base (.int _)⟩
instance (K : PySem.W.Frag) : HasTy K rB "bool" := ⟨fun h _ => by cases h; exact .base (.bl _)⟩
instance (K : PySem.W.Frag) : HasTy K rS "str" := ⟨fun h _ => by cases h; exact .base (.str _)⟩
theorem ty_list {K : PySem.W.Frag} {H : Hp} {a : Addr} {vs : List V} (h : SqL K H a vs) : TyX K H (.ref a) (.type "list") := by
  rcases h with (h | ⟨o, h⟩) | ⟨o, _, _, h1, h2, _⟩
  · exact .base (.lst h)
  · exact .base (.frz h)
  · exact .kList h1 h2
theorem ty_tuple {K : PySem.W.Frag} {H : Hp} {a : Addr} {vs : List V} (h : SqT K H a vs) : TyX K H (.ref a) (.type "tuple") := by
  rcases h with (h | ⟨o, h⟩) | ⟨o, _, _, h1, h2, _⟩
  · exact .base (.tup h)
  · exact .fTuple h
  · exact .kTuple h1 h2
instance (K : PySem.W.Frag) {α : Type} (r : α → Hp → V → Prop) : HasTy K (rL K r) "list" := ⟨fun h d => by
  obtain ⟨a, vs, rfl, h1, h2⟩ := h
  exact ty_list (d.same.seq h1)⟩
instance (K : PySem.W.Frag) {α : Type} (r : α → Hp → List V → Prop) : HasTy K (rT K r) "tuple" := ⟨fun h d => by
  obtain ⟨a, vs, rfl, h1, h2⟩ := h
  exact ty_tuple (seqT d.same h1)⟩
theorem d_isi {α : Type} {r : α → Hp → V → Prop} {x : α} {t u : String} {y : Str} {k : Bool} {py : Pos} [h : HasTy X.K r t] [∀ x, Mono (r x)] (hm : X.mg "isinstance" = none) (hmy : X.mg y = none) (ha : D X a σ G cs (r x)) (hk : kitB t u = some k := by decide +kernel)
    (hy : bootBuiltins y = some (.type u) := by decide +kernel) (hg : Gl X "isinstance" := by rfl) (hgy : Gl X y := by rfl) (hny : y ≠ "__name__" := by decide) (hdy : (y == ("__debug__" : Str)) = false := by decide)
    (hst : starEach [a, .Name y py] X.env = (false, eval a X.env) :: starEach [.Name y py] X.env := by rfl) (hst2 : starEach [.Name y py] X.env = (false, eval (.Name y py) X.env) :: starEach [] X.env := by rfl)
    (hpl : (backTo pos (starEach [.Name y py] X.env)).any (·.1) = false := by rfl) : D X (.Call (.Name "isinstance" p) [a, .Name y py] [] pos) σ G cs (rB k) := by
  refine d_callB (Ps := aC (r x) (aC (rV (.ty u)) aN)) call_isi hm (a_cons ha (a_cons (P := rV (.ty u)) ?_ a_nil hst2) hst) (fun G1 H vs s d h1 Q q => ?_) hg (he := hst) (hpl := hpl)
  · exact d_by (pe_bltn hgy hmy hy (v := .ty u) rfl hny hdy) fun G1 H s d Q q => q G1 H _ (Same.refl _) d rfl
  · obtain ⟨v, w, rfl, hv, v2, w2, rfl, hv2, hw⟩ := h1
    cases (show w2 = [] from hw)
    cases (show v2 = V.ty u from hv2)
    exact ⟨_, _, _, _, k, rfl, .ty u, h.ty hv d, kit_ty hk, q G1 H _ (Same.refl _) d rfl⟩

/-! ### slices -/
def cutL {α : Type} (xs : List α) (lo hi : Option Int) : List α := (xs.drop (HT.sIx xs.length 0 lo)).take (HT.sIx xs.length xs.length hi - HT.sIx xs.length 0 lo)
theorem cutL_map {α β : Type} (f : α → β) (xs : List α) (lo hi : Option Int) : cutL (xs.map f) lo hi = (cutL xs lo hi).map f := by
  unfold cutL
  rw [List.length_map, List.map_take, List.map_drop]
theorem cutL_le {α : Type} (xs : List α) (lo hi : Option Int) : (cutL xs lo hi).length ≤ xs.length := by
  unfold cutL
  rw [List.length_take, List.length_drop]
  omega
theorem cutL_up {α : Type} (xs : List α) {n : Int} (h : 0 ≤ n) : cutL xs none (some n) = xs.take n.toNat := by
  unfold cutL
  rw [HT.sIx_none]
  show List.take (HT.sIx xs.length xs.length (some n) - 0) (List.drop 0 xs) = _
  have e : n = (n.toNat : Int) := by omega
  rw [e, HT.sIx_nat, Nat.sub_zero, List.drop_zero]
  show List.take (min n.toNat xs.length) xs = List.take n.toNat xs
  rw [List.take_eq_take_iff]
  omega
theorem cutL_from {α : Type} (xs : List α) {n : Int} (h : 0 ≤ n) : cutL xs (some n) none = xs.drop n.toNat := by
  unfold cutL
  rw [HT.sIx_none]
  have e : n = (n.toNat : Int) := by omega
  rw [e, HT.sIx_nat]
  show List.take (xs.length - min n.toNat xs.length) (List.drop (min n.toNat xs.length) xs) = List.drop n.toNat xs
  by_cases hl : n.toNat ≤ xs.length
  · rw [Nat.min_eq_left hl, List.take_of_length_le (by rw [List.length_drop]; omega)]
  · rw [Nat.min_eq_right (by omega), List.drop_of_length_le (Nat.le_refl _), List.drop_of_length_le (by omega), List.take_nil]
structure wO (X : Cx) (eo : Option Expr) (σ : L2.St) (H : Hp) (Q : Option Int → Hp → Prop) : Prop where
  run : ∀ pins s, Inv X pins σ H s → wpAny (model X.prog X.w) X.A (evalPart eo X.env) (fun u s' => ∃ o H', Inv X pins σ H' s' ∧ IsPart u o ∧ Q o H') X.xe s
/-- a slice's part -/
def DO (X : Cx) (eo : Option Expr) (σ : L2.St) (G : Hp) (cs : Cells) (o : Option Int) : Prop :=
  ∀ G1 H, Same G G1 → Desc G1 cs H → ∀ Q : Option Int → Hp → Prop, (∀ G2 H2, Same G1 G2 → Desc G2 cs H2 → Q o H2) → wO X eo σ H Q
theorem do_none : DO X none σ G cs none := fun G1 H s d Q q => ⟨fun pins s0 Iv => po_none.run pins s0 σ H Q Iv (q G1 H (Same.refl _) d)⟩
theorem do_some (h : D X e σ G cs (rI i)) : DO X (some e) σ G cs (some i) := fun G1 H s d Q q => ⟨fun pins s0 Iv => (po_some (sE X e)).run pins s0 σ H Q Iv (h G1 H s d _ fun G2 H2 v s2 d2 hv => ⟨i, hv, q G2 H2 s2 d2⟩)⟩
theorem sO (eo : Option Expr) : PO X eo (wO X eo) := ⟨fun pins s _ _ _ Iv h => h.run pins s Iv⟩
section
variable {lo hi : Option Expr} {l u : Option Int} {p2 : Pos}
theorem d_slS {z : List Nat} (ha : D X a σ G cs (rS z)) (hl : DO X lo σ G cs l) (hu : DO X hi σ G cs u) (hz : z.length ≤ sizeLine) : D X (.Subscript a (.Slice lo hi none p2) pos) σ G cs (rS (cutL z l u)) :=
  d_by (pe_slice sl_str (sE X a) (sO lo) (sO hi)) fun G1 H s d Q q => ha G1 H s d _ fun G2 H2 v s2 d2 hv => hl G2 H2 (s.trans s2) d2 _ fun G3 H3 s3 d3 => hu G3 H3 ((s.trans s2).trans s3) d3 _ fun G4 H4 s4 d4 => by
    refine ⟨SX.S z, hv, by rw [SX.S_len]; exact hz, ?_⟩
    have e : cutS (SX.S z) l u = SX.S (cutL z l u) := by
      unfold cutS cutL
      rw [SX.S_len]
    rw [e]
    exact q G4 H4 _ ((s2.trans s3).trans s4) d4 rfl
theorem rs_cut {α : Type} {r : α → Hp → V → Prop} {G : Hp} {xs : List α} {vs : List V} (h : Rs r G xs vs) (l u : Option Int) : Rs r G (cutL xs l u) (cutV vs l u) := by
  unfold cutL cutV
  rw [h.length]
  exact (h.drop _).take _
theorem n_slL {α : Type} {r : α → Hp → V → Prop} [∀ x, Mono (r x)] {xs : List α} (ha : D X a σ G cs (rdL X.K cs r xs)) (hl : DO X lo σ G cs l) (hu : DO X hi σ G cs u) : N X (.Subscript a (.Slice lo hi none p2) pos) σ G cs r (cutL xs l u) := fun G1 H s d Q q =>
  uE (pe_slice sl_list (sE X a) (sO lo) (sO hi)) (ha G1 H s d _ fun G2 H2 v s2 d2 hv => hl G2 H2 (s.trans s2) d2 _ fun G3 H3 s3 d3 => hu G3 H3 ((s.trans s2).trans s3) d3 _ fun G4 H4 s4 d4 => by
    obtain ⟨x, vs, e1, h1, h2⟩ := (Mono.mono (s3.trans s4) hv).sq d4
    exact ⟨x, vs, e1, h1, fun p hp => q G4 _ p _ ((s2.trans s3).trans s4) (d4.newCell hp _) (rs_cut h2 l u)⟩)
end
theorem d_upper {z : List Nat} {apos : Pos} (ha : D X a σ G cs (rS z)) (h : z.all (· < 128) = true) (hz : z.length ≤ 5592405) (hbase : attributeBase a "upper" X.env (eval a X.env) = eval a X.env := by rfl) (hline : (apos.endLine == pos.line) = true := by rfl) :
    D X (.Call (.Attribute a "upper" apos) [] [] pos) σ G cs (rS (z.map PyProof.Rows.up1)) :=
  d_by (pe_upper (sE X a) hbase hline) fun G1 H s d Q q => ha G1 H s d _ fun G2 H2 v s2 d2 hv => ⟨⟨SX.S z, hv⟩, SX.S z, hv, rfl, by rw [SX.S_len]; exact hz, by rw [SX.upper_S h]; exact q G2 H2 _ s2 d2 rfl⟩

/-! ### tuples of the module -/
theorem d_ixU {α : Type} {r : α → Hp → V → Prop} [∀ x, Mono (r x)] {xs : List α} {x : α} (ha : D X a σ G cs (rU X.K r xs)) (hb : D X b σ G cs (rI i)) (hx : atI xs i = some x) (hs : PlainIx b := by exact fun _ _ => rfl) : D X (.Subscript a b pos) σ G cs (r x) :=
  d_by (pe_ix ix_tup (sE X a) (sE X b) hs) fun G1 H s d Q q => ha G1 H s d _ fun G2 H2 u s2 d2 hu => hb G2 H2 (s.trans s2) d2 _ fun G3 H3 y s3 d3 hy => by
    obtain ⟨l, vs, e, hl, hr⟩ := Mono.mono s3 hu
    obtain ⟨v, hv, hp⟩ := atI_rs hr hx
    exact ⟨l, vs, i, v, e, hy, seqT d3.same hl, hv, q G3 H3 v (s2.trans s3) d3 hp⟩
/-- a name of the module that tells data -/
def GlobR (mg : Str → Option Value) (x : Str) (P : Hp → V → Prop) : Prop := ∃ v u, mg x = some u ∧ RelV v u ∧ ∀ G, P G v
theorem d_globR {x : Str} {P : Hp → V → Prop} (h : GlobR X.mg x P) (hg : Gl X x := by rfl) (hd : (x == ("__debug__" : Str)) = false := by decide) : D X (.Name x pos) σ G cs P := by
  obtain ⟨v, u, hm, hr, hp⟩ := h
  exact d_by (pe_glob hg hm hr hd) fun G1 H s d Q q => q G1 H v (Same.refl _) d (hp G1)
theorem globT {K : PySem.W.Frag} {mg : Str → Option Value} {x : Str} {α : Type} {r : α → Hp → V → Prop} {xs : List α} {vs : List V} {a : Addr} {dd : Option Addr} {us : List Value} {n : Nat} {sl : Array (Option Value)} (hm : mg x = some (.ref a)) (hk : K.lookup a = some ⟨.type "tuple", dd, .seq us.toArray n, sl⟩)
    (hv : Vals vs us) (hl : us.length ≤ sizeLine) (hr : ∀ G, Rs r G xs vs) : GlobR mg x (rU K r xs) :=
  ⟨.ref a, _, hm, rfl, fun G => ⟨a, vs, rfl, .inr ⟨_, us.toArray, n, hk, rfl, rfl, by rw [List.size_toArray]; exact hl, by simpa using hv⟩, hr G⟩⟩
end
end J

namespace J
/-! the numbers that a law draws of a cell: every law's own mirror of them is this one, by rfl -/
def numStep (c : Int) (z : Int × List Int) (x : Int) : Out Empty (Int × List Int) (Int × List Int) (List Int) :=
  if (decide (0 < z.1)) = true then (letV (z.2 ++ [(z.1 % 10000000000000)]) fun ns => letV (z.1 / 10000000000000) fun r => .nx (r, ns))
  else (letV ((((c * 48271) + (x * 69621)) + 1013) % 2147483647) fun m => letV ((((m * m) + (8191 * x)) + 77) % 2147483629) fun m2 =>
    letV (z.2 ++ [(((((m2 * m2) + m2) % 2147483587) * 4001) + x)]) fun ns => .nx (z.1, ns))
def numsOf (c : Int) (n : Int) : List Int :=
  Out.val (letV 0 fun r => (if (decide (1000000000000000000 ≤ c)) = true then (letV (c / 1000000000000000000) fun r => .nx (r)) else (.nx (r)) : Out Empty (Int) Empty (List Int)).bind fun z =>
    letV ([] : (List Int)) fun ns => (forL (numStep c) (z, ns) (rng 0 n)).bind fun z => .rt z.2)
theorem numsOf_is (c n : Int) : ∃ r s, numsOf c n = s.2 ∧ (forL (numStep c) (r, []) (rng 0 n) : Out Empty _ Empty (List Int)) = .nx s ∧ (∀ (P : Nat → Int × List Int → Prop), (∀ r, P 0 (r, [])) → (∀ k s x, x ∈ rng 0 n → P k s → ∃ s', numStep c s x = .nx s' ∧ P (k + 1) s') → P (rng 0 n).length s) := by
  have key : ∀ r : Int, ∃ s, (forL (numStep c) (r, []) (rng 0 n) : Out Empty _ Empty (List Int)) = .nx s ∧ (∀ (P : Nat → Int × List Int → Prop), (∀ r, P 0 (r, [])) → (∀ k s x, x ∈ rng 0 n → P k s → ∃ s', numStep c s x = .nx s' ∧ P (k + 1) s') → P (rng 0 n).length s) := fun r => by
    obtain ⟨s, e, _⟩ := forL_inv (ε := Empty) (L := Empty) (f := numStep c) (xs := rng 0 n) (s := (r, [])) (n := 0) (fun _ _ => True) trivial fun k s x hx _ => by
      unfold numStep letV
      by_cases hc : 0 < s.1
      · exact ⟨_, by rw [decide_eq_true hc]; rfl, trivial⟩
      · exact ⟨_, by rw [decide_eq_false hc]; rfl, trivial⟩
    refine ⟨s, e, fun P h0 hs => ?_⟩
    obtain ⟨s2, e2, h2⟩ := forL_inv (ε := Empty) (L := Empty) (f := numStep c) (xs := rng 0 n) (s := (r, [])) (n := 0) P (h0 r) hs
    rw [e] at e2
    cases e2
    rw [Nat.zero_add] at h2
    exact h2
  unfold numsOf letV
  by_cases hc : 1000000000000000000 ≤ c
  · rw [decide_eq_true hc]
    obtain ⟨s, e, hl⟩ := key (c / 1000000000000000000)
    refine ⟨_, s, ?_, e, hl⟩
    show Out.val (Out.bind (forL (numStep c) (c / 1000000000000000000, []) (rng 0 n)) fun z => .rt z.2) = _
    rw [e]
    rfl
  · rw [decide_eq_false hc]
    obtain ⟨s, e, hl⟩ := key 0
    refine ⟨_, s, ?_, e, hl⟩
    show Out.val (Out.bind (forL (numStep c) (0, []) (rng 0 n)) fun z => .rt z.2) = _
    rw [e]
    rfl
theorem numsOf_length (c : Int) {n : Int} (h : 0 ≤ n) : (numsOf c n).length = n.toNat := by
  obtain ⟨r, s, e, _, hp⟩ := numsOf_is c n
  rw [e, hp (fun k s => s.2.length = k) (fun _ => rfl) (fun k s x hx hk => by
    unfold numStep letV
    by_cases hc : 0 < s.1
    · exact ⟨_, by rw [decide_eq_true hc]; rfl, by simp [hk]⟩
    · exact ⟨_, by rw [decide_eq_false hc]; rfl, by simp [hk]⟩), rng_length]
  omega
theorem numsOf_bd (c : Int) {n : Int} (h : n ≤ 1000) : ∀ x ∈ numsOf c n, 0 ≤ x ∧ x < 10000000000000 := by
  obtain ⟨r, s, e, _, hp⟩ := numsOf_is c n
  rw [e]
  refine hp (fun _ s => ∀ x ∈ s.2, 0 ≤ x ∧ x < 10000000000000) (fun _ x hx => by simp at hx) (fun k s x hx hk => ?_)
  unfold numStep letV
  have hk0 := rng_mem.mp hx
  by_cases hc : 0 < s.1
  · refine ⟨_, by rw [decide_eq_true hc]; rfl, fun y hy => ?_⟩
    rcases List.mem_append.mp hy with hy | hy
    · exact hk y hy
    · have e := List.mem_singleton.mp hy
      rw [e]
      omega
  · refine ⟨_, by rw [decide_eq_false hc]; rfl, fun y hy => ?_⟩
    rcases List.mem_append.mp hy with hy | hy
    · exact hk y hy
    · have e := List.mem_singleton.mp hy
      rw [e]
      generalize ((c * 48271 + x * 69621 + 1013) % 2147483647 * ((c * 48271 + x * 69621 + 1013) % 2147483647) + 8191 * x + 77) % 2147483629 = m
      generalize m * m + m = q
      omega
/-- what a law may count on of its numbers -/
structure Nums (n : Nat) (xs : List Int) : Prop where
  len : xs.length = n
  mem : ∀ x ∈ xs, 0 ≤ x ∧ x < 10000000000000
theorem nums (c : Int) (n : Nat) (h : n ≤ 1000 := by decide) : Nums n (numsOf c (n : Int)) := ⟨by rw [numsOf_length c (by omega)]; omega, numsOf_bd c (by omega)⟩
theorem Nums.bd {n : Nat} {xs : List Int} (h : Nums n xs) (i : Int) : 0 ≤ ixg xs i ∧ ixg xs i < 10000000000000 := by
  unfold ixg
  cases e : L2.atI xs i with
  | none => exact ⟨by decide, by decide⟩
  | some x =>
    refine h.mem x ?_
    have e2 : ((L2.ixN xs.length i).bind fun j => xs[j]?) = some x := e
    obtain ⟨j, _, hj⟩ := Option.bind_eq_some_iff.mp e2
    exact List.mem_of_getElem? hj
end J

namespace J
open PySem L2
/-- the turns n are enough -/
def Ends {ε S R : Type} (c : S → Bool) (f : S → Out ε S S R) : Nat → S → Prop
  | 0, s => c s = false
  | n + 1, s => c s = true → ∀ s', (f s = .nx s' ∨ f s = .ct s') → Ends c f n s'
theorem whileN_false {ε S L R : Type} {c : S → Bool} {f : S → Out ε S S R} {n : Nat} {s : S} (h : c s = false) : (whileN c f n s : Out ε S L R) = .nx s := by
  cases n with
  | zero => rfl
  | succ n =>
    unfold whileN
    rw [h]
    rfl
theorem whileN_true {ε S L R : Type} {c : S → Bool} {f : S → Out ε S S R} {n : Nat} {s : S} (h : c s = true) : (whileN c f (n + 1) s : Out ε S L R) = (match f s with
    | .nx s' => whileN c f n s'
    | .ct s' => whileN c f n s'
    | .bk s' => .nx s'
    | .rt r => .rt r
    | .er e => .er e) := by
  conv => lhs; unfold whileN
  rw [h]
  rfl
theorem while_out {ε S L R : Type} {c : S → Bool} {f : S → Out ε S S R} {z : S} (hb : ∀ s s', f s ≠ .bk s') : ∀ {n : Nat} {s : S}, Ends c f n s → (whileN c f n s : Out ε S L R) = .nx z → c z = false
  | 0, s, he, h => by
    have e : s = z := Out.nx.inj h
    rw [← e]
    exact he
  | n + 1, s, he, h => by
    cases hc : c s with
    | false =>
      rw [whileN_false hc] at h
      have e : s = z := Out.nx.inj h
      rw [← e]
      exact hc
    | true =>
      rw [whileN_true hc] at h
      cases hm : f s with
      | nx s' =>
        rw [hm] at h
        exact while_out hb (he hc s' (.inl hm)) h
      | ct s' =>
        rw [hm] at h
        exact while_out hb (he hc s' (.inr hm)) h
      | bk s' => exact absurd hm (hb s s')
      | rt r =>
        rw [hm] at h
        cases h
      | er e =>
        rw [hm] at h
        cases h
theorem while_run {ε S L R : Type} {c : S → Bool} {f : S → Out ε S S R} (I : S → Prop) (hs : ∀ s, I s → c s = true → ∃ s', f s = .nx s' ∧ I s') : ∀ {n : Nat} {s : S}, Ends c f n s → I s → ∃ z, (whileN c f n s : Out ε S L R) = .nx z ∧ I z ∧ c z = false
  | 0, s, he, hi => ⟨s, rfl, hi, he⟩
  | n + 1, s, he, hi => by
    cases hc : c s with
    | false => exact ⟨s, whileN_false hc, hi, hc⟩
    | true =>
      obtain ⟨s', h1, h2⟩ := hs s hi hc
      obtain ⟨z, h3, h4⟩ := while_run (L := L) I hs (he hc s' (.inl h1)) h2
      exact ⟨z, by rw [whileN_true hc, h1]; exact h3, h4⟩
theorem ends_by {ε S R : Type} {c : S → Bool} {f : S → Out ε S S R} (I : S → Prop) (μ : S → Nat) (hs : ∀ s, I s → c s = true → 0 < μ s ∧ ∀ s', (f s = .nx s' ∨ f s = .ct s') → I s' ∧ μ s' < μ s) : ∀ {n : Nat} {s : S}, I s → μ s ≤ n → Ends c f n s
  | 0, s, hi, hm => by
    show c s = false
    cases hc : c s with
    | false => rfl
    | true =>
      have := (hs s hi hc).1
      omega
  | n + 1, s, hi, hm => fun hc s' h => by
    obtain ⟨h1, h2⟩ := (hs s hi hc).2 s' h
    exact ends_by I μ hs h1 (by omega)
section
variable {ε S L R S1 : Type} {X : Cx} {W : ε → L2.St → Hp → Prop} {σ : L2.St} {G : Hp} {cs : Cells} {Φ : Po ε S L R} {rest body : List Stmt} {c : Expr} {pos : Pos}
theorem b_while {cond : S1 → Bool} {f : S1 → Out ε S1 S1 R} {g : S1 → Out ε S L R} {n : Nat} {s0 : S1} (N : S1 → L2.St → Hp → Cells → Prop) (hp : PassesOwn (model X.prog X.w) X.A X.env X.xe)
    (h0 : ∀ G1, Same G G1 → N s0 σ G1 cs) (hc : ∀ s σ1 G1 cs1, Same G G1 → N s σ1 G1 cs1 → T X c σ1 G1 cs1 (cond s))
    (hb : ∀ s σ1 G0 G1 cs1, Same G G0 → N s σ1 G0 cs1 → Same G0 G1 → cond s = true → B X W body σ1 G1 cs1 { nx := N, lp := N, rt := Φ.rt, er := Φ.er } (f s))
    (he : Ends cond f n s0)
    (hr : ∀ s σ1 G0 G1 cs1, Same G G0 → N s σ1 G0 cs1 → Same G0 G1 → (whileN cond f n s0 : Out ε S1 L R) = .nx s → B X W rest σ1 G1 cs1 Φ (g s)) : B X W (.While c body [] pos :: rest) σ G cs Φ ((whileN cond f n s0).bind g) := by
  refine b_cons (ps_while hp (sT X c) (sSs X body)) fun H d E w => ?_
  refine ⟨fun k σ1 H1 => ∃ s G1 cs1, Same G G1 ∧ Desc G1 cs1 H1 ∧ N s σ1 G1 cs1 ∧ Ends cond f k s ∧ (whileN cond f k s : Out ε S1 L R) = whileN cond f n s0, ⟨n, s0, G, cs, Same.refl _, d, h0 G (Same.refl _), he, rfl⟩, ?_⟩
  rintro k σ1 H1 ⟨s, G1, cs1, s1, d1, hN, en, eq⟩
  refine hc s σ1 G1 cs1 s1 hN G1 H1 (Same.refl _) d1 _ fun G2 H2 s2 d2 => ?_
  have sG : Same G G2 := s1.trans s2
  cases hk : cond s with
  | false =>
    rw [whileN_false hk] at eq
    rw [if_neg Bool.false_ne_true]
    rw [← eq] at w
    exact hr s σ1 G1 G2 cs1 s1 hN s2 eq.symm H2 d2 E (Wish.up (show Wish W G Φ E (g s) from w) sG)
  | true =>
    rw [if_pos rfl]
    cases k with
    | zero =>
      have : cond s = false := en
      rw [hk] at this
      cases this
    | succ k =>
      rw [whileN_true hk] at eq
      refine ⟨fun σ' H' => ∃ m', m' < k + 1 ∧ ∃ s G1 cs1, Same G G1 ∧ Desc G1 cs1 H' ∧ N s σ' G1 cs1 ∧ Ends cond f m' s ∧ (whileN cond f m' s : Out ε S1 L R) = whileN cond f n s0, fun σ' H' h => h, ?_⟩
      refine hb s σ1 G1 G2 cs1 s1 hN s2 hk H2 d2 _ ?_
      cases hm : f s with
      | nx s' => exact fun σ4 G4 cs4 H4 s4 d4 p4 => ⟨k, Nat.lt_succ_self k, s', G4, cs4, sG.trans s4, d4, p4, en hk s' (.inl hm), by rw [hm] at eq; exact eq⟩
      | ct s' => exact fun σ4 G4 cs4 H4 s4 d4 p4 => ⟨k, Nat.lt_succ_self k, s', G4, cs4, sG.trans s4, d4, p4, en hk s' (.inr hm), by rw [hm] at eq; exact eq⟩
      | bk s' =>
        rw [hm] at eq
        rw [← eq] at w
        exact fun σ4 G4 cs4 H4 s4 d4 p4 => hr s' σ4 G4 G4 cs4 (sG.trans s4) p4 (Same.refl _) eq.symm H4 d4 E (Wish.up (show Wish W G Φ E (g s') from w) (sG.trans s4))
      | rt r =>
        rw [hm] at eq
        rw [← eq] at w
        exact fun v4 G4 cs4 H4 s4 d4 p4 => w v4 G4 cs4 H4 (sG.trans s4) d4 p4
      | er e =>
        rw [hm] at eq
        rw [← eq] at w
        exact fun σ4 G4 cs4 H4 s4 d4 p4 => w σ4 G4 cs4 H4 (sG.trans s4) d4 p4
end
/-! ### tuples of one kind of items -/
class HomT {α : Type} {β : outParam Type} (r : α → Hp → List V → Prop) (q : outParam (β → Hp → V → Prop)) where
  toL : α → List β
  rs : ∀ {x G vs}, r x G vs → Rs q G (toL x) vs
instance {β : Type} (q : β → Hp → V → Prop) : HomT (c0 q) q where
  toL x := [x]
  rs := fun ⟨_, e, h⟩ => by
    rw [e]
    exact .cons h .nil
instance {α β : Type} (q : β → Hp → V → Prop) (r : α → Hp → List V → Prop) [h : HomT r q] : HomT (cc q r) q where
  toL x := x.1 :: h.toL x.2
  rs := fun ⟨_, _, e, h1, h2⟩ => by
    rw [e]
    exact .cons h1 (h.rs h2)
class LenT {α : Type} (r : α → Hp → List V → Prop) (n : outParam Nat) : Prop where
  len : ∀ {x G vs}, r x G vs → vs.length = n
instance {β : Type} (q : β → Hp → V → Prop) : LenT (c0 q) 1 := ⟨fun ⟨_, e, _⟩ => by rw [e]; rfl⟩
instance {α β : Type} (q : β → Hp → V → Prop) (r : α → Hp → List V → Prop) {n : Nat} [h : LenT r n] : LenT (cc q r) (n + 1) := ⟨fun ⟨_, _, e, _, h2⟩ => by rw [e, List.length_cons, h.len h2]⟩
section
variable {X : Cx} {σ : L2.St} {G : Hp} {cs : Cells} {a : Expr} {pos p : Pos}
theorem d_homT {α β : Type} {r : α → Hp → List V → Prop} {q : β → Hp → V → Prop} [h : HomT r q] {x : α} (ha : D X a σ G cs (rT X.K r x)) : D X a σ G cs (rU X.K q (h.toL x)) := ha.imp fun G v ⟨l, vs, e, hl, hr⟩ => ⟨l, vs, e, hl, h.rs hr⟩
theorem d_lenT {α : Type} {r : α → Hp → List V → Prop} {n : Nat} [h : LenT r n] [∀ x, MonoA (r x)] {y : α} {x : Str} (hm : X.mg x = none) (ha : D X a σ G cs (rT X.K r y)) (hg : Gl X x := by rfl) (hv : bootBuiltins x = some (.builtin "len") := by first | exact PySem.boot_len | decide +kernel) (hn : x ≠ "__name__" := by decide) (hd : (x == ("__debug__" : Str)) = false := by decide)
    (he : starEach [a] X.env = (false, eval a X.env) :: starEach [] X.env := by rfl) (hpl : (backTo pos (starEach [] X.env)).any (·.1) = false := by rfl) : D X (.Call (.Name x p) [a] [] pos) σ G cs (rI (n : Int)) :=
  d_callB call_len hm (a_cons ha a_nil he) (fun G1 H vs s d hvs Q q => by
    obtain ⟨v, ws, e1, h1, h2⟩ := hvs
    cases h2
    obtain ⟨l, us, e, hl, hr⟩ := h1
    subst e
    exact ⟨_, n, e1, .inr ⟨us, seqT d.same hl, (h.len hr).symm⟩, q G1 H _ (Same.refl _) d rfl⟩) hg hv hn hd he hpl
end
end J

namespace J
open PySem L2 PyProof.Rows
section
variable {X : Cx} {σ : L2.St} {G : Hp} {cs : Cells} {a b e : Expr} {pos p : Pos}
theorem d_intB {x : Str} {k : Bool} (hm : X.mg x = none) (ha : D X a σ G cs (rB k)) (hg : Gl X x := by rfl) (hv : bootBuiltins x = some (.type "int") := by decide +kernel) (hn : x ≠ "__name__" := by decide) (hd : (x == ("__debug__" : Str)) = false := by decide)
    (he : starEach [a] X.env = (false, eval a X.env) :: starEach [] X.env := by rfl) (hpl : (backTo pos (starEach [] X.env)).any (·.1) = false := by rfl) : D X (.Call (.Name x p) [a] [] pos) σ G cs (rI (if k then 1 else 0)) :=
  d_callTy call_int1 hm (a_cons ha a_nil he) (fun G1 H vs s d hvs Q q => by
    obtain ⟨v, ws, e1, h1, h2⟩ := hvs
    cases h2
    cases h1
    exact .inr ⟨k, e1, q G1 H _ (Same.refl _) d rfl⟩) hg hv hn hd he hpl
/-! ### isinstance of one of two kinds -/
def kSum {α β : Type} (k k' : Bool) : α ⊕ β → Bool
  | .inl _ => k
  | .inr _ => k'
theorem d_isiS {α β : Type} {r : α → Hp → V → Prop} {r' : β → Hp → V → Prop} {x : α ⊕ β} {t t' u : String} {y : Str} {k k' : Bool} {py : Pos} [h : HasTy X.K r t] [h' : HasTy X.K r' t'] [∀ x, Mono (r x)] [∀ x, Mono (r' x)] (hm : X.mg "isinstance" = none) (hmy : X.mg y = none) (ha : D X a σ G cs (rSum r r' x)) (hk : kitB t u = some k := by decide +kernel) (hk' : kitB t' u = some k' := by decide +kernel)
    (hy : bootBuiltins y = some (.type u) := by decide +kernel) (hg : Gl X "isinstance" := by rfl) (hgy : Gl X y := by rfl) (hny : y ≠ "__name__" := by decide) (hdy : (y == ("__debug__" : Str)) = false := by decide)
    (hst : starEach [a, .Name y py] X.env = (false, eval a X.env) :: starEach [.Name y py] X.env := by rfl) (hst2 : starEach [.Name y py] X.env = (false, eval (.Name y py) X.env) :: starEach [] X.env := by rfl)
    (hpl : (backTo pos (starEach [.Name y py] X.env)).any (·.1) = false := by rfl) : D X (.Call (.Name "isinstance" p) [a, .Name y py] [] pos) σ G cs (rB (kSum k k' x)) := by
  cases x with
  | inl x => exact d_isi (r := r) (x := x) hm hmy ha hk hy hg hgy hny hdy hst hst2 hpl
  | inr x => exact d_isi (r := r') (x := x) hm hmy ha hk' hy hg hgy hny hdy hst hst2 hpl
/-! ### two kinds that are never equal -/
class NeR {α β : Type} (K : PySem.W.Frag) (r : α → Hp → V → Prop) (r' : β → Hp → V → Prop) [q : EqR K r] [q' : EqR K r'] : Prop where
  ne : ∀ x y, PyData.eqv (q.toD x) (q'.toD y) = false ∧ PyData.eqv (q'.toD y) (q.toD x) = false
instance (K : PySem.W.Frag) : NeR K rB rS := ⟨fun x y => by constructor <;> (show PyData.eqv _ _ = false; unfold PyData.eqv; rfl)⟩
instance (K : PySem.W.Frag) {α : Type} (r : α → Hp → V → Prop) [EqR K r] : NeR K rB (rL K r) := ⟨fun x y => by constructor <;> (show PyData.eqv _ _ = false; unfold PyData.eqv; rfl)⟩
instance (K : PySem.W.Frag) {α : Type} (r : α → Hp → V → Prop) [EqR K r] : NeR K rI (rL K r) := ⟨fun x y => by constructor <;> (show PyData.eqv _ _ = false; unfold PyData.eqv; rfl)⟩
instance (K : PySem.W.Frag) {α : Type} (r : α → Hp → V → Prop) [EqR K r] : NeR K rS (rL K r) := ⟨fun x y => by constructor <;> (show PyData.eqv _ _ = false; unfold PyData.eqv; rfl)⟩
instance (K : PySem.W.Frag) {α β : Type} (r : α → Hp → V → Prop) (r' : β → Hp → V → Prop) [q : EqR K r] [q' : EqR K r'] [n : NeR K r r'] : EqR K (rSum r r') where
  toD x := match x with
    | .inl i => q.toD i
    | .inr l => q'.toD l
  ok x := match x with
    | .inl i => q.ok i
    | .inr l => q'.ok l
  dep := max q.dep q'.dep
  dp {x} _ _ _ h s := by
    cases x with
    | inl i => exact q.dp h s
    | inr l => exact q'.dp h s
  lay {x} h := by
    cases x with
    | inl i => exact q.lay h
    | inr l => exact q'.lay h
  deep x := by
    cases x with
    | inl i => exact Nat.le_trans (q.deep i) (Nat.le_max_left _ _)
    | inr l => exact Nat.le_trans (q'.deep l) (Nat.le_max_right _ _)
  eqv x y := by
    cases x with
    | inl x =>
      cases y with
      | inl y => exact (q.eqv x y).trans ⟨fun h => by rw [h], fun h => by cases h; rfl⟩
      | inr y => exact ⟨fun h => (by rw [(n.ne x y).1] at h; cases h), fun h => nomatch h⟩
    | inr x =>
      cases y with
      | inl y => exact ⟨fun h => (by rw [(n.ne y x).2] at h; cases h), fun h => nomatch h⟩
      | inr y => exact (q'.eqv x y).trans ⟨fun h => by rw [h], fun h => by cases h; rfl⟩
/-! ### order of data -/
def rCmpD (K : PySem.W.Frag) (f : PyData → PyData → Bool) : R2 := fun x y H Q => ∃ d e, Dp K H x d ∧ Dp K H y e ∧ PySem.W.alike d e = true ∧ d ≠ .none ∧ d.depth ≤ 64 ∧ Q (.bl (f d e)) H
theorem op_ltD (hu : X.A.units + 64 < cLine) : OpR X (compareOp .Lt) (rCmpD X.K fun d e => PySem.W.dataLt d e) := by
  intro pins s σ H x y v u Q I rx ry h
  obtain ⟨d, e, hd, he, ha, hn, hz, q⟩ := h
  obtain ⟨as, r1⟩ := Dp.reads I d x v hd rx
  obtain ⟨bs, r2⟩ := Dp.reads I e y u he ry
  exact PySem.W.lt_data r1 r2 ha hn (by omega) ⟨.bl _, H, I, rfl, q⟩
theorem op_gtD (hu : X.A.units + 64 < cLine) : OpR X (compareOp .Gt) (rCmpD X.K fun d e => PySem.W.dataLt e d) := by
  intro pins s σ H x y v u Q I rx ry h
  obtain ⟨d, e, hd, he, ha, hn, hz, q⟩ := h
  obtain ⟨as, r1⟩ := Dp.reads I d x v hd rx
  obtain ⟨bs, r2⟩ := Dp.reads I e y u he ry
  exact PySem.W.gt_data r1 r2 ha hn (by omega) ⟨.bl _, H, I, rfl, q⟩
theorem op_leD (hu : X.A.units + 64 < cLine) : OpR X (compareOp .LtE) (rCmpD X.K fun d e => !PySem.W.dataLt e d) := by
  intro pins s σ H x y v u Q I rx ry h
  obtain ⟨d, e, hd, he, ha, hn, hz, q⟩ := h
  obtain ⟨as, r1⟩ := Dp.reads I d x v hd rx
  obtain ⟨bs, r2⟩ := Dp.reads I e y u he ry
  exact PySem.W.le_data r1 r2 ha hn (by omega) ⟨.bl _, H, I, rfl, q⟩
theorem op_geD (hu : X.A.units + 64 < cLine) : OpR X (compareOp .GtE) (rCmpD X.K fun d e => !PySem.W.dataLt d e) := by
  intro pins s σ H x y v u Q I rx ry h
  obtain ⟨d, e, hd, he, ha, hn, hz, q⟩ := h
  obtain ⟨as, r1⟩ := Dp.reads I d x v hd rx
  obtain ⟨bs, r2⟩ := Dp.reads I e y u he ry
  exact PySem.W.ge_data r1 r2 ha hn (by omega) ⟨.bl _, H, I, rfl, q⟩
end
theorem rm64 {k : Nat} {A : Around} (hr : Room k A) : A.units + 64 < cLine := Nat.lt_of_le_of_lt (by omega) hr.un
/-- order of plain data: any two of a kind are alike -/
class OrdR {α : Type} (K : PySem.W.Frag) (r : α → Hp → V → Prop) where
  toD : α → PyData
  dep : Nat
  dp : ∀ {x G H v}, r x G v → Same G H → Dp K H v (toD x)
  alike : ∀ x y, PySem.W.alike (toD x) (toD y) = true
  nn : ∀ x, toD x ≠ .none
  deep : ∀ x, (toD x).depth ≤ dep
instance (K : PySem.W.Frag) : OrdR K rI where
  toD := .int
  dep := 1
  dp h _ := by cases h; exact .int _
  alike _ _ := by unfold PySem.W.alike; rfl
  nn _ h := nomatch h
  deep x := by unfold PyData.depth; omega
/-- of lists of whole numbers: the first one that differs, or the shorter one -/
def ltI (xs ys : List Int) : Bool := PySem.W.dataLt (.list (xs.map .int)) (.list (ys.map .int))
theorem alikeInts : ∀ xs ys : List Int, PySem.W.alikeAll (xs.map .int) (ys.map .int) = true
  | [], ys => by rw [List.map_nil]; unfold PySem.W.alikeAll; rfl
  | x :: xs, [] => by rw [List.map_nil, List.map_cons]; unfold PySem.W.alikeAll; rfl
  | x :: xs, y :: ys => by
    rw [List.map_cons, List.map_cons]
    unfold PySem.W.alikeAll PySem.W.alike
    rw [alikeInts xs ys]
    rfl
section
variable {X : Cx} {σ : L2.St} {G : Hp} {cs : Cells} {a b e : Expr} {pos p : Pos} {xs ys : List Int} {G1 H : Hp} {x y : V} {Q : VK}
theorem c_ints {f : PyData → PyData → Bool} (hx : rL X.K rI xs G1 x) (hy : rL X.K rI ys G1 y) (s : Same G1 H) (q : Q (.bl (f (.list (xs.map .int)) (.list (ys.map .int)))) H) : rCmpD X.K f x y H Q := by
  have d1 := (inferInstance : EqR X.K (rL X.K rI)).dp hx s
  have d2 := (inferInstance : EqR X.K (rL X.K rI)).dp hy s
  refine ⟨.list (xs.map .int), .list (ys.map .int), d1, d2, ?_, fun z => (by cases z), ?_, q⟩
  · unfold PySem.W.alike
    exact alikeInts xs ys
  · have := (inferInstance : EqR X.K (rL X.K rI)).deep xs
    exact Nat.le_trans this (by exact Nat.le_of_ble_eq_true rfl)
/-- a list all of whose items are of the first kind -/
def unL {α β : Type} [Inhabited α] (x : α ⊕ β) : α := match x with
  | .inl y => y
  | .inr _ => default
def isL {α β : Type} (x : α ⊕ β) : Bool := match x with
  | .inl _ => true
  | .inr _ => false
theorem rs_unL {α β : Type} [Inhabited α] {r : α → Hp → V → Prop} {r' : β → Hp → V → Prop} : ∀ {xs : List (α ⊕ β)} {vs : List V}, xs.all isL = true → Rs (rSum r r') G xs vs → Rs r G (xs.map unL) vs
  | _, _, _, .nil => .nil
  | x :: _, _, ha, .cons h t => by
    rw [List.all_cons, Bool.and_eq_true] at ha
    cases x with
    | inl x => exact .cons h (rs_unL ha.2 t)
    | inr x => cases ha.1
theorem d_unL {α β : Type} [Inhabited α] {r : α → Hp → V → Prop} {r' : β → Hp → V → Prop} {xs : List (α ⊕ β)} (ha : D X a σ G cs (rL X.K (rSum r r') xs)) (h : xs.all isL = true) : D X a σ G cs (rL X.K r (xs.map unL)) :=
  ha.imp fun G v ⟨l, vs, e, hl, hr⟩ => ⟨l, vs, e, hl, rs_unL h hr⟩
def unR {α β : Type} [Inhabited β] (x : α ⊕ β) : β := match x with
  | .inl _ => default
  | .inr y => y
def isR {α β : Type} (x : α ⊕ β) : Bool := match x with
  | .inl _ => false
  | .inr _ => true
theorem d_unl {α β : Type} [Inhabited α] {r : α → Hp → V → Prop} {r' : β → Hp → V → Prop} {x : α ⊕ β} (ha : D X a σ G cs (rSum r r' x)) (h : isL x = true) : D X a σ G cs (r (unL x)) := by
  cases x with
  | inl x => exact ha
  | inr x => cases h
theorem d_unr {α β : Type} [Inhabited β] {r : α → Hp → V → Prop} {r' : β → Hp → V → Prop} {x : α ⊕ β} (ha : D X a σ G cs (rSum r r' x)) (h : isR x = true) : D X a σ G cs (r' (unR x)) := by
  cases x with
  | inl x => cases h
  | inr x => exact ha
/-! ### slices of tuples: the first n places -/
def Tk (R : Hp → List V → Prop) (n m : Nat) (P : Hp → List V → Prop) : Prop := ∀ G vs, R G vs → vs.length = m ∧ P G (vs.take n)
theorem tk_1 {α β : Type} {r : α → Hp → V → Prop} {r' : β → Hp → List V → Prop} {m : Nat} [h : LenT r' m] {x : α × β} : Tk (cc r r' x) 1 (m + 1) (c0 r x.1) := fun G vs ⟨v, ws, e, h1, h2⟩ => by
  rw [e]
  exact ⟨by rw [List.length_cons, h.len h2], v, rfl, h1⟩
theorem tk_c {α β γ : Type} {r : α → Hp → V → Prop} {r' : β → Hp → List V → Prop} {r2 : γ → Hp → List V → Prop} {n m : Nat} {x : α × β} {y : γ} (h : Tk (r' x.2) n m (r2 y)) : Tk (cc r r' x) (n + 1) (m + 1) (cc r r2 (x.1, y)) := fun G vs ⟨v, ws, e, h1, h2⟩ => by
  obtain ⟨k1, k2⟩ := h G ws h2
  rw [e]
  exact ⟨by rw [List.length_cons, k1], v, ws.take n, rfl, h1, k2⟩
theorem d_slT {α γ : Type} {r : α → Hp → List V → Prop} {r2 : γ → Hp → List V → Prop} [∀ x, MonoA (r x)] [∀ x, MonoA (r2 x)] {x : α} {y : γ} {n m : Nat} {hi : Option Expr} {p2 : Pos} (ha : D X a σ G cs (rT X.K r x)) (hu : DO X hi σ G cs (some (n : Int))) (ht : Tk (r x) n m (r2 y)) (hn : n < m := by decide) : D X (.Subscript a (.Slice none hi none p2) pos) σ G cs (rT X.K r2 y) :=
  d_by (pe_slice sl_tup (sE X a) (sO none) (sO hi)) fun G1 H s d Q q => ha G1 H s d _ fun G2 H2 v s2 d2 hv => do_none (X := X) (σ := σ) (cs := cs) G2 H2 (s.trans s2) d2 _ fun G3 H3 s3 d3 => hu G3 H3 ((s.trans s2).trans s3) d3 _ fun G4 H4 s4 d4 => by
    obtain ⟨l, vs, e, hl, hr⟩ := Mono.mono (s3.trans s4) hv
    obtain ⟨k1, k2⟩ := ht G4 vs hr
    have e0 : HT.sIx vs.length 0 none = 0 := HT.sIx_none _ _
    have e1 : HT.sIx vs.length vs.length (some (n : Int)) = n := by rw [HT.sIx_nat]; omega
    refine ⟨l, vs, e, seqT d4.same hl, by rw [e0, e1]; omega, fun p hp => ?_⟩
    have ec : cutV vs none (some (n : Int)) = vs.take n := by
      unfold cutV
      rw [e0, e1]
      rfl
    rw [ec]
    have sf : Same G4 (upd G4 p (.tup (vs.take n))) := Same.fresh d4.same hp _
    exact q _ _ _ (((s2.trans s3).trans s4).trans sf) (d4.new hp _) ⟨p, vs.take n, rfl, SqT.of upd_same, MonoA.mono sf k2⟩
end
section
variable {n : Nat} {adr : Fin n → Addr} {S L R : Type} {X : Cx} {Wx : WX} {σ : L2.St} {G : Hp} {cs : Cells} {rest : List Stmt} {e tg : Expr} {pos p : Pos} {Φ : Po (Fin n) S L R} {O : Type} {P : O → Hp → V → Prop} {m : Except (Fin n) O}
/-- a, b = f(..) that may raise -/
theorem b_asgE {g : O → Out (Fin n) S L R} {Sx : O → Hp → L2.St → L2.St → Prop} (he : DE X adr Wx e σ G cs P m) (ht : Tg X tg P Sx) (kr : ∀ k, m = .error k → ∀ G1, Same G G1 → Φ.er k σ G1 cs)
    (k : ∀ o, m = .ok o → ∀ σ' G1, Same G G1 → Sx o G1 σ σ' → B X (wE2 adr Wx) rest σ' G1 cs Φ (g o))
    (hs : swapsWithSole [tg] e pos.line X.env = pure false := by rfl) (hw : swappedStores [tg] e X.env = pure none := by rfl) (h1 : (assignEach [tg] X.env).map (·.2) = [assign tg X.env] := by rfl) : B X (wE2 adr Wx) (.Assign [tg] e pos :: rest) σ G cs Φ (callE m g) := by
  obtain ⟨gt, hg, h2⟩ := ht
  refine b_cons (ps_asg (sE X e) hg hs hw (h1 := h1)) fun H d E w => he G H (Same.refl _) d _ ?_
  cases hm : m with
  | ok o =>
    rw [hm] at w
    exact fun G2 H2 v s2 d2 hv => h2 o v G2 cs H2 σ hv d2 _ fun σ' hS => k o hm σ' G2 s2 hS H2 d2 E (Wish.up (m := g o) w s2)
  | error c =>
    rw [hm] at w
    exact fun G2 H2 s2 d2 => w σ G2 cs H2 s2 d2 (kr c hm G2 s2)
end
section
variable {n : Nat} {adr : Fin n → Addr} {X : Cx} {Wx : WX} {σ : L2.St} {G : Hp} {cs : Cells} {a b : Expr} {rest : List Expr} {pos : Pos} {O : Type} {m : Except (Fin n) O}
theorem de_callQ {I O : Type} {pre : I → Hp → List V → Prop} {r : I → O → Hp → V → Prop} {m : I → Except (Fin n) O} {P : O → Hp → V → Prop} {e : Expr} {es : List Expr} {p : Pos} {k j a : Nat} {x : Str} {Ps : Hp → List V → Prop} (i : I) (F : Fn0 X.prog X.w X.K X.mg X.base (L2.CX X.prog X.w) k x a (SpE (cE adr) pre r m)) (tk : Takes X Wx) (hr : Room j X.A) (hk : k ≤ j)
    (ha : A X (e :: es) σ G cs Ps) (hp : ∀ G1 vs, Same G G1 → Ps G1 vs → pre i G1 vs) (hP : ∀ o G v, r i o G v → P o G v) {mm : Except (Fin n) O} (hmm : m i = mm := by rfl) (hg : Gl X x := by rfl) (hd : (x == ("__debug__" : Str)) = false := by decide)
    (he : starEach (e :: es) X.env = (false, eval e X.env) :: starEach es X.env := by exact star_plain rfl) (hpl : (backTo pos (starEach es X.env)).any (·.1) = false := by rfl) : DE X adr Wx (.Call (.Name x p) (e :: es) [] pos) σ G cs P mm := by
  subst hmm
  exact (de_call i F tk hr hk ha hp hg hd he hpl).imp hP
/-- a call that may raise, ahead in a comparison, in an and -/
theorem de_cmp {op : CmpOp} {r : R2} {Pa : O → Hp → V → Prop} {Pb : Hp → V → Prop} {k : O → Bool} [∀ o, Mono (Pa o)] (ho : OpR X (compareOp op) r) (hm : behindInMarks op b = false) (ha : DE X adr Wx a σ G cs Pa m) (hb : D X b σ G cs Pb)
    (hr : ∀ o G1 H x y, Same G G1 → Desc G1 cs H → Pa o G1 x → Pb G1 y → ∀ Q : VK, Q (.bl (k o)) H → r x y H Q) : DE X adr Wx (.Compare a [op] [b] pos) σ G cs (fun o => rB (k o)) m := fun G1 H s d Q q =>
  uE (pe_cmpR ho (sE X a) (sE X b) hm) (ha G1 H s d _ (by
    cases hk : m with
    | ok o =>
      rw [hk] at q
      exact fun G2 H2 x s2 d2 hx => hb G2 H2 (s.trans s2) d2 _ fun G3 H3 y s3 d3 hy => hr o G3 H3 x y ((s.trans s2).trans s3) d3 (Mono.mono s3 hx) hy Q (q G3 H3 _ (s2.trans s3) d3 rfl)
    | error c =>
      rw [hk] at q
      exact q))
theorem de_and {k k' : O → Bool} (h : DE X adr Wx a σ G cs (fun o => rB (k o)) m) (h' : ∀ o, k o = true → D X (.BoolOp .And (b :: rest) pos) σ G cs (rB (k' o))) : DE X adr Wx (.BoolOp .And (a :: b :: rest) pos) σ G cs (fun o => rB (k o && k' o)) m := fun G1 H s d Q q =>
  uE (pe_and (sE X a) (sE X _)) (h G1 H s d _ (by
    cases hk : m with
    | ok o =>
      rw [hk] at q
      refine fun G2 H2 v s2 d2 hv => ⟨k o, hv, ?_⟩
      cases hko : k o with
      | false => exact iteF (q G2 H2 _ s2 d2 (by show _ = V.bl (k o && k' o); rw [hko]; rfl))
      | true => exact iteT (h' o hko G2 H2 (s.trans s2) d2 Q fun G3 H3 w s3 d3 hw => q G3 H3 w (s2.trans s3) d3 (by show _ = V.bl (k o && k' o); rw [hko]; exact hw))
    | error c =>
      rw [hk] at q
      exact q))
end
section
variable {ε S L R : Type} {X : Cx} {W : ε → L2.St → Hp → Prop} {σ : L2.St} {G : Hp} {cs : Cells} {Φ : Po ε S L R} {m : Out ε S L R} {rest : List Stmt} {e o i : Expr} {P : Hp → V → Prop} {pos p : Pos}
/-- xs[i] = e, xs the cell at k -/
theorem b_put (k : Nat) {l : Addr} {vs : List V} {z : Int} {j : Nat} (hk : cs[k]? = some (l, .lst vs)) (he : D X e σ G cs P) (ho : D X o σ G cs (rV (.ref l))) (hi : D X i σ G cs (rI z)) (hj : ixN vs.length z = some j)
    (q : ∀ v G1, Same G G1 → P G1 v → B X W rest σ G1 (cs.set k (l, .lst (vs.set j v))) Φ m) [Mono P]
    (ha : ∀ v, assign (.Subscript o i p) X.env v = (do
      let ov ← holding [v] (eval o X.env)
      let iv ← holding [v, ov] (eval i X.env)
      standAt p
      holding [v, ov, iv] (setItem ov iv v)
      release [v, ov, iv] []) := by intro _; rfl)
    (hs : swapsWithSole [.Subscript o i p] e pos.line X.env = pure false := by rfl) (hw : swappedStores [.Subscript o i p] e X.env = pure none := by rfl) (h1 : (assignEach [.Subscript o i p] X.env).map (·.2) = [assign (.Subscript o i p) X.env] := by rfl) :
    B X W (.Assign [.Subscript o i p] e pos :: rest) σ G cs Φ m :=
  b_cons (ps_asg (sE X e) (pg_sub (sE X o) (sE X i) set_list ha) hs hw (h1 := h1)) fun H d E w => he G H (Same.refl _) d _ fun G2 H2 v s2 d2 hv =>
    ho G2 H2 s2 d2 _ fun G3 H3 u s3 d3 hu => hi G3 H3 (s2.trans s3) d3 _ fun G4 H4 y s4 d4 hy => by
      have eu : u = .ref l := hu
      have ey : y = .int z := hy
      subst eu ey
      exact ⟨l, vs, z, j, rfl, rfl, d4.at_ (List.mem_of_getElem? hk), hj, q v G4 ((s2.trans s3).trans s4) (Mono.mono (s3.trans s4) hv) _ (d4.write hk _) E (w.up ((s2.trans s3).trans s4))⟩
end
/-- xs with its place i changed -/
def putL {α : Type} (xs : List α) (i : Int) (x : α) : List α := xs.set ((ixN xs.length i).getD 0) x
theorem putL_len {α : Type} (xs : List α) (i : Int) (x : α) : (putL xs i x).length = xs.length := by
  unfold putL
  rw [List.length_set]
theorem ixN_ok {n : Nat} {i : Int} (h : -(n : Int) ≤ i ∧ i < (n : Int)) : ixN n i = some ((ixN n i).getD 0) := by
  unfold ixN
  by_cases h0 : 0 ≤ i
  · rw [if_pos h0, if_pos h.2]
    rfl
  · rw [if_neg h0, if_pos h.1]
    rfl
theorem Rs.put {α : Type} {r : α → Hp → V → Prop} {G : Hp} {xs : List α} {vs : List V} {x : α} {v : V} (hx : r x G v) (h : Rs r G xs vs) (i : Int) : Rs r G (putL xs i x) (vs.set ((ixN vs.length i).getD 0) v) := by
  unfold putL
  rw [h.length]
  exact Rs.set hx _ h
end J

namespace J
open PySem L2 PyProof.Rows
/-- a text's signs -/
def tlS (x : Str) : List Nat := x.cps.toList
theorem S_tlS (x : Str) : SX.S (tlS x) = x := SX.S_tl x
def zfL (z : List Nat) (n : Int) : List Nat := tlS (Txt.zfill (SX.S z) n)
def ljL (z : List Nat) (n : Int) (w : List Nat) : List Nat := tlS (Txt.ljustF (SX.S z) n ((SX.S w).cps.getD 0 0))
def digB (z : List Nat) : Bool := Txt.isdigit (SX.S z)
def findL (z w : List Nat) : Int := Txt.find (SX.S z) (SX.S w)
def partL (z w : List Nat) : List Nat × List Nat × List Nat := (tlS (Txt.partition (SX.S z) (SX.S w)).1, tlS (Txt.partition (SX.S z) (SX.S w)).2.1, tlS (Txt.partition (SX.S z) (SX.S w)).2.2)
def splL (z w : List Nat) : List (List Nat) := (Txt.split (SX.S z) (SX.S w)).map tlS
def joiL (z : List Nat) (ws : List (List Nat)) : List Nat := tlS (Txt.join (SX.S z) (ws.map SX.S))
def numT (z : List Nat) : Int := (PySem.intText? (SX.S z)).getD 0
/-- a number that is not negative, written -/
def decL (i : Int) : List Nat := TL.numL i.toNat
theorem rs_str {G : Hp} {xs : List (List Nat)} {vs : List V} (h : Rs rS G xs vs) : vs = (xs.map SX.S).map V.str := by
  rw [List.map_map]
  exact h.map fun _ _ e => e
theorem rs_tlS {G : Hp} (ys : List Str) : Rs rS G (ys.map tlS) (ys.map V.str) := by
  induction ys with
  | nil => exact .nil
  | cons y ys ih => exact .cons (show V.str y = V.str (SX.S (tlS y)) by rw [S_tlS]) ih
section
variable {X : Cx} {σ : L2.St} {G : Hp} {cs : Cells} {o a b e : Expr} {es : List Expr} {pos p : Pos} {z w : List Nat} {n : Int} {apos : Pos}
theorem d_zfill (ho : D X o σ G cs (rS z)) (he : D X e σ G cs (rI n)) (hp : PadOk n = true) (hs : starEach [e] X.env = [(false, eval e X.env)] := by rfl) (hbase : attributeBase o "zfill" X.env (eval o X.env) = eval o X.env := by rfl) (hline : (apos.endLine == pos.line) = true := by rfl) :
    D X (.Call (.Attribute o "zfill" apos) [e] [] pos) σ G cs (rS (zfL z n)) :=
  d_by (pe_m1 PySem.F.slot_str_zfill PySem.F.type_str_zfill mt_zfill (sE X o) (sE X e) hs hbase hline) fun G1 H s d Q q => ho G1 H s d _ fun G2 H2 u s2 d2 hu => ⟨⟨_, hu⟩, he G2 H2 (s.trans s2) d2 _ fun G3 H3 v s3 d3 hv => by
    refine ⟨SX.S z, n, hu, by rw [show v = .int n from hv], hp, q G3 H3 _ (s2.trans s3) d3 ?_⟩
    show _ = V.str (SX.S (zfL z n))
    unfold zfL
    rw [S_tlS]⟩
theorem d_isdigit (ho : D X o σ G cs (rS z)) (hbase : attributeBase o "isdigit" X.env (eval o X.env) = eval o X.env := by rfl) (hline : (apos.endLine == pos.line) = true := by rfl) : D X (.Call (.Attribute o "isdigit" apos) [] [] pos) σ G cs (rB (digB z)) :=
  d_by (pe_m0 PySem.F.slot_str_isdigit PySem.F.type_str_isdigit mt_isdigit (sE X o) hbase hline) fun G1 H s d Q q => ho G1 H s d _ fun G2 H2 u s2 d2 hu => ⟨⟨_, hu⟩, SX.S z, hu, rfl, trivial, q G2 H2 _ s2 d2 rfl⟩
theorem d_find (ho : D X o σ G cs (rS z)) (he : D X e σ G cs (rS w)) (hs : starEach [e] X.env = [(false, eval e X.env)] := by rfl) (hbase : attributeBase o "find" X.env (eval o X.env) = eval o X.env := by rfl) (hline : (apos.endLine == pos.line) = true := by rfl) :
    D X (.Call (.Attribute o "find" apos) [e] [] pos) σ G cs (rI (findL z w)) :=
  d_by (pe_m1 PySem.F.slot_str_find PySem.F.type_str_find mt_find (sE X o) (sE X e) hs hbase hline) fun G1 H s d Q q => ho G1 H s d _ fun G2 H2 u s2 d2 hu => ⟨⟨_, hu⟩, he G2 H2 (s.trans s2) d2 _ fun G3 H3 v s3 d3 hv =>
    ⟨SX.S z, SX.S w, hu, by rw [show v = .str (SX.S w) from hv], q G3 H3 _ (s2.trans s3) d3 rfl⟩⟩
theorem d_part (ho : D X o σ G cs (rS z)) (he : D X e σ G cs (rS w)) (hw : (w.length == 0) = false) (hz : z.length ≤ sizeLine) (hs : starEach [e] X.env = [(false, eval e X.env)] := by rfl) (hbase : attributeBase o "partition" X.env (eval o X.env) = eval o X.env := by rfl) (hline : (apos.endLine == pos.line) = true := by rfl) :
    D X (.Call (.Attribute o "partition" apos) [e] [] pos) σ G cs (rT X.K (cc rS (cc rS (c0 rS))) (partL z w)) :=
  d_by (pe_partition (sE X o) (sE X e) hs hbase hline) fun G1 H s d Q q => ho G1 H s d _ fun G2 H2 u s2 d2 hu => ⟨⟨_, hu⟩, he G2 H2 (s.trans s2) d2 _ fun G3 H3 v s3 d3 hv => by
    refine ⟨SX.S z, SX.S w, hu, by rw [show v = .str (SX.S w) from hv], by rw [SX.S_len]; exact hw, by rw [SX.S_len]; exact hz, fun l hl => ?_⟩
    have sf : Same G3 (upd G3 l (.tup [.str (Txt.partition (SX.S z) (SX.S w)).1, .str (Txt.partition (SX.S z) (SX.S w)).2.1, .str (Txt.partition (SX.S z) (SX.S w)).2.2])) := Same.fresh d3.same hl _
    refine q _ _ _ ((s2.trans s3).trans sf) (d3.new hl _) ⟨l, _, rfl, SqT.of upd_same, _, _, rfl, ?_, _, _, rfl, ?_, _, rfl, ?_⟩
    · show _ = V.str (SX.S (partL z w).1)
      unfold partL
      rw [S_tlS]
    · show _ = V.str (SX.S (partL z w).2.1)
      unfold partL
      rw [S_tlS]
    · show _ = V.str (SX.S (partL z w).2.2)
      unfold partL
      rw [S_tlS]⟩
theorem n_split (ho : D X o σ G cs (rS z)) (he : D X e σ G cs (rS w)) (hw : (w.length == 0) = false) (hz : z.length + 2 ≤ sizeLine) (hs : starEach [e] X.env = [(false, eval e X.env)] := by rfl) (hbase : attributeBase o "split" X.env (eval o X.env) = eval o X.env := by rfl) (hline : (apos.endLine == pos.line) = true := by rfl) :
    N X (.Call (.Attribute o "split" apos) [e] [] pos) σ G cs rS (splL z w) := fun G1 H s d Q q =>
  uE (pe_split (sE X o) (sE X e) hs hbase hline) (ho G1 H s d _ fun G2 H2 u s2 d2 hu => ⟨⟨_, hu⟩, he G2 H2 (s.trans s2) d2 _ fun G3 H3 v s3 d3 hv =>
    ⟨SX.S z, SX.S w, hu, by rw [show v = .str (SX.S w) from hv], by rw [SX.S_len]; exact hw, by rw [SX.S_len]; exact hz, fun l hl => q G3 _ l _ (s2.trans s3) (d3.newCell hl _) (rs_tlS _)⟩⟩)
theorem d_join {ws : List (List Nat)} (ho : D X o σ G cs (rS z)) (he : D X e σ G cs (rdL X.K cs rS ws)) (hz : (ws.map List.length).sum + ws.length * z.length ≤ 16777216) (hs : starEach [e] X.env = [(false, eval e X.env)] := by rfl) (hbase : attributeBase o "join" X.env (eval o X.env) = eval o X.env := by rfl) (hline : (apos.endLine == pos.line) = true := by rfl) :
    D X (.Call (.Attribute o "join" apos) [e] [] pos) σ G cs (rS (joiL z ws)) :=
  d_by (pe_join (sE X o) (sE X e) hs hbase hline) fun G1 H s d Q q => ho G1 H s d _ fun G2 H2 u s2 d2 hu => ⟨⟨_, hu⟩, he G2 H2 (s.trans s2) d2 _ fun G3 H3 v s3 d3 hv => by
    obtain ⟨l, vs, e1, hl, hr⟩ := hv.sq d3
    have ev := rs_str hr
    subst ev
    refine ⟨SX.S z, l, ws.map SX.S, hu, by rw [e1], .inl hl, ?_, q G3 H3 _ (s2.trans s3) d3 ?_⟩
    · rw [SX.lens, List.length_map, SX.S_len]
      exact hz
    · show _ = V.str (SX.S (joiL z ws))
      unfold joiL
      rw [S_tlS]⟩
theorem d_strI {x : Str} (hm : X.mg x = none) (ha : D X a σ G cs (rI n)) (h0 : 0 ≤ n) (hb : n < 2 ^ 1000) (hg : Gl X x := by rfl) (hv : bootBuiltins x = some (.type "str") := by decide +kernel) (hn : x ≠ "__name__" := by decide) (hd : (x == ("__debug__" : Str)) = false := by decide)
    (he : starEach [a] X.env = (false, eval a X.env) :: starEach [] X.env := by rfl) (hpl : (backTo pos (starEach [] X.env)).any (·.1) = false := by rfl) : D X (.Call (.Name x p) [a] [] pos) σ G cs (rS (decL n)) :=
  d_callTy call_str_int hm (a_cons ha a_nil he) (fun G1 H vs s d hvs Q q => by
    obtain ⟨v, ws, e1, h1, h2⟩ := hvs
    cases h2
    cases h1
    refine ⟨n, e1, ?_, q G1 H _ (Same.refl _) d ?_⟩
    · by_cases z : n.natAbs = 0
      · rw [z]
        decide
      · exact Nat.lt_trans ((Nat.log2_lt z).mpr (show n.natAbs < 2 ^ 1000 by omega)) (by decide)
    · show _ = V.str (SX.S (decL n))
      unfold decL
      obtain ⟨k, rfl⟩ := Int.eq_ofNat_of_zero_le h0
      exact congrArg V.str (SX.num_S k)) hg hv hn hd he hpl
theorem d_intS {x : Str} (hm : X.mg x = none) (ha : D X a σ G cs (rS z)) (h0 : (PySem.intText? (SX.S z)).isSome = true) (hb : z.length ≤ 640) (hg : Gl X x := by rfl) (hv : bootBuiltins x = some (.type "int") := by decide +kernel) (hn : x ≠ "__name__" := by decide) (hd : (x == ("__debug__" : Str)) = false := by decide)
    (he : starEach [a] X.env = (false, eval a X.env) :: starEach [] X.env := by rfl) (hpl : (backTo pos (starEach [] X.env)).any (·.1) = false := by rfl) : D X (.Call (.Name x p) [a] [] pos) σ G cs (rI (numT z)) :=
  d_callTy call_int_str hm (a_cons ha a_nil he) (fun G1 H vs s d hvs Q q => by
    obtain ⟨v, ws, e1, h1, h2⟩ := hvs
    cases h2
    cases h1
    refine ⟨SX.S z, numT z, e1, ?_, by rw [SX.S_len]; exact hb, q G1 H _ (Same.refl _) d rfl⟩
    unfold numT
    cases hc : PySem.intText? (SX.S z) with
    | none => rw [hc] at h0; cases h0
    | some k => rfl) hg hv hn hd he hpl
theorem d_ord {x : Str} {c : Nat} (hm : X.mg x = none) (ha : D X a σ G cs (rS [c])) (hg : Gl X x := by rfl) (hv : bootBuiltins x = some (.builtin "ord") := by decide +kernel) (hn : x ≠ "__name__" := by decide) (hd : (x == ("__debug__" : Str)) = false := by decide)
    (he : starEach [a] X.env = (false, eval a X.env) :: starEach [] X.env := by rfl) (hpl : (backTo pos (starEach [] X.env)).any (·.1) = false := by rfl) : D X (.Call (.Name x p) [a] [] pos) σ G cs (rI (c : Int)) :=
  d_callB call_ord hm (a_cons ha a_nil he) (fun G1 H vs s d hvs Q q => by
    obtain ⟨v, ws, e1, h1, h2⟩ := hvs
    cases h2
    cases h1
    exact ⟨SX.S [c], e1, rfl, q G1 H _ (Same.refl _) d rfl⟩) hg hv hn hd he hpl
/-! ### texts in texts -/
def inT (z w : List Nat) : Bool := !(Builtin.Str.occurrences (SX.S w) (SX.S z) 0 (SX.S w).length 1).isEmpty
theorem inT_one (c : Nat) (w : List Nat) : inT [c] w = decide (c ∈ w) := SX.in_one w c
theorem d_inT (ha : D X a σ G cs (rS z)) (hb : D X b σ G cs (rS w)) (hm : behindInMarks .In b = false := by rfl) : D X (.Compare a [.In] [b] pos) σ G cs (rB (inT z w)) :=
  d_cmp op_in_str hm ha hb fun G1 H u v s d hu hv Q q => ⟨SX.S z, SX.S w, hu, hv, q⟩
theorem d_ninT (ha : D X a σ G cs (rS z)) (hb : D X b σ G cs (rS w)) (hm : behindInMarks .NotIn b = false := by rfl) : D X (.Compare a [.NotIn] [b] pos) σ G cs (rB (!inT z w)) :=
  d_cmp op_notIn_str hm ha hb fun G1 H u v s d hu hv Q q => ⟨SX.S z, SX.S w, hu, hv, q⟩
theorem t_inT (ha : D X a σ G cs (rS z)) (hb : D X b σ G cs (rS w)) (hm : behindInMarks .In b = false := by rfl) : T X (.Compare a [.In] [b] pos) σ G cs (inT z w) :=
  t_cmp op_in_str hm ha hb fun G1 H u v s d hu hv Q q => ⟨SX.S z, SX.S w, hu, hv, q⟩
theorem t_ninT (ha : D X a σ G cs (rS z)) (hb : D X b σ G cs (rS w)) (hm : behindInMarks .NotIn b = false := by rfl) : T X (.Compare a [.NotIn] [b] pos) σ G cs (!inT z w) :=
  t_cmp op_notIn_str hm ha hb fun G1 H u v s d hu hv Q q => ⟨SX.S z, SX.S w, hu, hv, q⟩
/-! ### order of texts -/
theorem c_leS {H : Hp} {Q : VK} {x y : V} {G1 : Hp} (hx : rS z G1 x) (hy : rS w G1 y) (q : Q (.bl (!decide (w < z))) H) : ∃ i j, x = .str i ∧ y = .str j ∧ Q (.bl (!decide (j.cps.toList < i.cps.toList))) H := ⟨SX.S z, SX.S w, hx, hy, q⟩
/-! ### text times number -/
def repS (z : List Nat) (n : Int) : List Nat := (List.replicate n.toNat z).flatten
theorem foldl_cps : ∀ (k : Nat) (z : List Nat) (acc : Array Nat), ((List.replicate k z.toArray).foldl (· ++ ·) acc) = acc ++ ((List.replicate k z).flatten).toArray
  | 0, z, acc => by simp
  | k + 1, z, acc => by
    rw [List.replicate_succ, List.foldl_cons, foldl_cps k z, List.replicate_succ, List.flatten_cons]
    simp [Array.append_assoc]
theorem repS_len (z : List Nat) (n : Int) : (repS z n).length = n.toNat * z.length := by
  unfold repS
  rw [List.length_flatten, List.map_replicate, List.sum_replicate_nat]
theorem op_repS : OpR X (binaryOp .Mult) (fun x y H Q => ∃ (z : List Nat) (n : Int), x = .str (SX.S z) ∧ y = .int n ∧ -(2 ^ 31) < n ∧ n < 2 ^ 31 ∧ n.toNat * z.length ≤ 16777216 ∧ Q (.str (SX.S (repS z n))) H) := by
  intro pins s σ H x y v u Q I rx ry h
  obtain ⟨z, n, rfl, rfl, h1, h2, h3, q⟩ := h
  obtain ⟨t, rfl⟩ := rx
  obtain ⟨t', rfl⟩ := ry
  have el := SX.S_len z
  have es : ¬ n < 1 → (⟨(List.replicate n.toNat (SX.S z).cps).foldl (· ++ ·) #[]⟩ : Str) = SX.S (repS z n) := fun _ => by
    have e := foldl_cps n.toNat z #[]
    show (⟨(List.replicate n.toNat z.toArray).foldl (· ++ ·) #[]⟩ : Str) = ⟨(repS z n).toArray⟩
    rw [e]
    simp [repS]
  have hl : (SX.S (repS z n)).length ≤ sizeLine := by
    rw [SX.S_len, repS_len, sizeLine_eq]
    exact h3
  refine PySem.P.mul_str (by rw [decide_eq_false (by omega), decide_eq_false (by omega)]; rfl) (fun a _ => ?_) (fun a _ => ?_) ?_
  · rw [el]
    have hz : (z.length : Int) ≤ 16777216 := by
      have : z.length ≤ n.toNat * z.length := Nat.le_mul_of_pos_left _ (by omega)
      omega
    have hd : (4294967296 : Int) ≤ (2 ^ 63 - 1) / n := (Int.le_ediv_iff_mul_le (by omega)).mpr (by omega)
    omega
  · unfold Builtin.Str.tooLong
    rw [el]
    have := sizeLine_eq
    rw [Nat.mul_comm]
    simp
    omega
  · by_cases a : n < 1
    · rw [if_pos a]
      have e : repS z n = [] := by
        unfold repS
        rw [show n.toNat = 0 by omega]
        rfl
      rw [e] at q
      exact ⟨by decide, .str (SX.S []), H, I.tok _, ⟨_, rfl⟩, q⟩
    · rw [if_neg a]
      by_cases b : (n == 1 || (SX.S z).length == 0) = true
      · rw [if_pos b]
        have e : repS z n = z := by
          unfold repS
          rw [Bool.or_eq_true, beq_iff_eq, beq_iff_eq, el] at b
          rcases b with b | b
          · rw [b]
            simp
          · have e0 : z = [] := List.eq_nil_of_length_eq_zero b
            rw [e0]
            simp
        rw [e] at q
        exact ⟨.str (SX.S z), H, I, ⟨_, rfl⟩, q⟩
      · rw [if_neg b]
        rw [es a]
        exact ⟨hl, .str (SX.S (repS z n)), H, I.tok _, ⟨_, rfl⟩, q⟩
theorem d_repS (ha : D X a σ G cs (rS z)) (hb : D X b σ G cs (rI n)) (h1 : -(2 ^ 31) < n ∧ n < 2 ^ 31) (h3 : n.toNat * z.length ≤ 16777216) : D X (.BinOp a .Mult b pos) σ G cs (rS (repS z n)) :=
  d_bin op_repS ha hb fun G1 H u v s d hu hv Q q => ⟨z, n, hu, hv, h1.1, h1.2, h3, q G1 H _ (Same.refl _) d rfl⟩
theorem rs_rep {α : Type} {r : α → Hp → V → Prop} {xs : List α} {vs : List V} (h : Rs r G xs vs) : ∀ k : Nat, Rs r G (List.replicate k xs).flatten (List.replicate k vs).flatten
  | 0 => .nil
  | k + 1 => by
    rw [List.replicate_succ, List.replicate_succ, List.flatten_cons, List.flatten_cons]
    exact Rs.append (rs_rep h k) h
theorem n_rep {α : Type} {r : α → Hp → V → Prop} [∀ x, Mono (r x)] {xs : List α} (ha : N X a σ G cs r xs) (hb : D X b σ G cs (rI n)) (h1 : -(2 ^ 31) < n ∧ n < 2 ^ 31) (h3 : xs.length * n.toNat ≤ 16777216) : N X (.BinOp a .Mult b pos) σ G cs r (List.replicate n.toNat xs).flatten := fun G1 H s d Q q =>
  uE (pe_op op_rep (sE X a) (sE X b)) (ha G1 H s d _ fun G2 H2 l vs s2 d2 hr => by
    obtain ⟨f1, f2⟩ := d2.freeze
    refine hb _ H2 (s.trans (s2.trans f1)) f2 _ fun G3 H3 v s3 d3 hv => ?_
    refine ⟨l, n, vs, rfl, hv, d3.same _ _ (s3 _ _ upd_same), by omega, by omega, by rw [← hr.length]; exact sl_small h3, fun p hp => ?_⟩
    exact q G3 _ p _ ((s2.trans f1).trans s3) (d3.newCell hp _) (rs_rep (hr.mono (f1.trans s3)) _))
theorem mt_ljF : MtR X "str.ljust" (fun x xs H Q => ∃ (z : Str) (n : Int) (w : Str), x = .str z ∧ xs = [.int n, .str w] ∧ PadOk n = true ∧ w.length = 1 ∧ Q (.str (Txt.ljustF z n (w.cps.getD 0 0))) H) := by
  intro pins s σ H x xs v us Q I rx rs h
  obtain ⟨z, n, w, rfl, rfl, h1, h2, q⟩ := h
  obtain ⟨t, rfl⟩ := rx
  cases rs with
  | cons r1 rs =>
    cases rs with
    | cons r2 rs =>
      cases rs
      obtain ⟨u1, rfl⟩ := r1
      obtain ⟨u2, rfl⟩ := r2
      exact PyProof.Rows.ljust_fill h1 h2 fun t' k => ⟨.str (Txt.ljustF z n (w.cps.getD 0 0)), H, I.tok k, ⟨_, rfl⟩, q⟩
theorem d_ljust {cpos : Pos} (ho : D X o σ G cs (rS z)) (ha : D X a σ G cs (rI n)) (hb : D X b σ G cs (rS w)) (hp : PadOk n = true) (hw : w.length = 1) (hbase : attributeBase o "ljust" X.env (eval o X.env) = eval o X.env := by rfl)
    (hfew : ((backTo cpos (starEach [a, b] X.env)).all (fun x => !x.1) && (backToKw cpos (keywordEach [] X.env)).all (fun x => x.1.isSome)
      && decide ([a, b].length + ([] : List Keyword).length + (if ([] : List Keyword).isEmpty then 0 else 1) < 30)) = true := by rfl)
    (hline : (apos.endLine == cpos.line) = true := by rfl) (hs : starEach [a, b] X.env = (false, eval a X.env) :: starEach [b] X.env := by rfl) (hs2 : starEach [b] X.env = (false, eval b X.env) :: starEach [] X.env := by rfl) (hplain : (backTo cpos (starEach [b] X.env)).any (·.1) = false := by rfl) :
    D X (.Call (.Attribute o "ljust" apos) [a, b] [] cpos) σ G cs (rS (ljL z n w)) :=
  d_by (pe_bm PySem.F.plainAttrs_str PySem.F.slot_str_ljust PySem.F.type_str_ljust mt_ljF (sE X o) (sA X [a, b]) hbase hfew hline hs hplain) fun G1 H s d Q q => ho G1 H s d _ fun G2 H2 u s2 d2 hu => ⟨by rw [show u = .str (SX.S z) from hu]; rfl, a_cons ha (a_cons hb a_nil hs2) hs G2 H2 (s.trans s2) d2 _ fun G3 H3 vs s3 d3 hv => by
    obtain ⟨v1, ws, rfl, hv1, v2, ws2, rfl, hv2, h3⟩ := hv
    cases h3
    refine ⟨SX.S z, n, SX.S w, hu, by rw [show v1 = .int n from hv1, show v2 = .str (SX.S w) from hv2], hp, by rw [SX.S_len]; exact hw, q G3 H3 _ (s2.trans s3) d3 ?_⟩
    show _ = V.str (SX.S (ljL z n w))
    unfold ljL
    rw [S_tlS]⟩
theorem d_all {bs : List Bool} {x : Str} (hc : X.calm = true) (hm : X.mg x = none) (ha : D X a σ G cs (rdL X.K cs rB bs)) (hg : Gl X x := by rfl) (hv : bootBuiltins x = some (.builtin "all") := by decide +kernel) (hn : x ≠ "__name__" := by decide) (hd : (x == ("__debug__" : Str)) = false := by decide)
    (he : starEach [a] X.env = (false, eval a X.env) :: starEach [] X.env := by rfl) (hpl : (backTo pos (starEach [] X.env)).any (·.1) = false := by rfl) : D X (.Call (.Name x p) [a] [] pos) σ G cs (rB (bs.all id)) :=
  d_callB (cr_all hc) hm (a_cons ha a_nil he) (fun G1 H vs s d hvs Q q => by
    obtain ⟨v, ws, e1, h1, h2⟩ := hvs
    cases h2
    obtain ⟨l, us, e, hl, hr⟩ := h1.sq d
    subst e
    have hu := rs_bl hr
    subst hu
    exact ⟨l, bs, e1, hl, q G1 H _ (Same.refl _) d rfl⟩) hg hv hn hd he hpl
theorem d_any {bs : List Bool} {x : Str} (hc : X.calm = true) (hm : X.mg x = none) (ha : D X a σ G cs (rdL X.K cs rB bs)) (hg : Gl X x := by rfl) (hv : bootBuiltins x = some (.builtin "any") := by decide +kernel) (hn : x ≠ "__name__" := by decide) (hd : (x == ("__debug__" : Str)) = false := by decide)
    (he : starEach [a] X.env = (false, eval a X.env) :: starEach [] X.env := by rfl) (hpl : (backTo pos (starEach [] X.env)).any (·.1) = false := by rfl) : D X (.Call (.Name x p) [a] [] pos) σ G cs (rB (bs.any id)) :=
  d_callB (cr_any hc) hm (a_cons ha a_nil he) (fun G1 H vs s d hvs Q q => by
    obtain ⟨v, ws, e1, h1, h2⟩ := hvs
    cases h2
    obtain ⟨l, us, e, hl, hr⟩ := h1.sq d
    subst e
    have hu := rs_bl hr
    subst hu
    exact ⟨l, bs, e1, hl, q G1 H _ (Same.refl _) d rfl⟩) hg hv hn hd he hpl
end
end J

namespace J
open PySem L2 PyProof.Rows NumText
theorem rng_at {a b x : Int} {pre post : List Int} (h : rng a b = pre ++ x :: post) : x = a + (pre.length : Int) := by
  have e : (rng a b)[pre.length]? = some x := by rw [h]; simp
  have l : pre.length < (b - a).toNat := by
    have := congrArg List.length h
    rw [rng_length, List.length_append, List.length_cons] at this
    omega
  rw [rng_get l] at e
  exact (Option.some.inj e).symm
theorem isDig : ∀ c : Nat, c < 128 → Unicode.isDigit c = (decide (48 ≤ c) && decide (c ≤ 57)) := by decide +kernel
theorem digB_is {z : List Nat} (h : ∀ c ∈ z, c < 128) : digB z = (decide (z ≠ []) && z.all fun c => decide (48 ≤ c) && decide (c ≤ 57)) := by
  unfold digB Txt.isdigit
  rw [SX.S_len]
  have e : (SX.S z).cps.all Unicode.isDigit = z.all Unicode.isDigit := by
    show z.toArray.all _ = _
    simp
  rw [e]
  have e2 : z.all Unicode.isDigit = z.all fun c => decide (48 ≤ c) && decide (c ≤ 57) := by
    rw [Bool.eq_iff_iff, List.all_eq_true, List.all_eq_true]
    exact ⟨fun q c hc => by rw [← isDig c (h c hc)]; exact q c hc, fun q c hc => by rw [isDig c (h c hc)]; exact q c hc⟩
  rw [e2]
  cases z with
  | nil => rfl
  | cons c z => simp
theorem digB_of {z : List Nat} (h : AllDigits z) (hn : z ≠ []) : digB z = true := by
  rw [digB_is fun c hc => by have := h c hc; omega, Bool.and_eq_true]
  exact ⟨by simpa using hn, List.all_eq_true.mpr fun c hc => by have := h c hc; simp; omega⟩
theorem digits_of {z : List Nat} (ha : ∀ c ∈ z, c < 128) (h : digB z = true) : AllDigits z ∧ z ≠ [] := by
  rw [digB_is ha, Bool.and_eq_true] at h
  refine ⟨fun c hc => ?_, by simpa using h.1⟩
  have := List.all_eq_true.mp h.2 c hc
  simp at this
  omega
theorem part_at {p q : List Nat} {c : Nat} (h : c ∉ p) : partL (p ++ c :: q) [c] = (p, [c], q) := by
  have e := SX.partition_some (a := p ++ c :: q) (b := [c]) (by simp) (SX.par_head (sep := []) q h)
  unfold partL
  rw [e]
  rfl
theorem part_no {p : List Nat} {c : Nat} (h : c ∉ p) : partL p [c] = (p, [], []) := by
  unfold partL
  rw [SX.partition_none (by simp) (SX.par_head_none (sep := []) h)]
  rfl
theorem lj_is {z : List Nat} {n : Int} {c : Nat} : ljL z n [c] = z ++ List.replicate (n.toNat - z.length) c := by
  unfold ljL Txt.ljustF
  rw [SX.S_len]
  split
  · rw [show n.toNat - z.length = 0 by omega]
    simp [tlS, SX.S]
  · show tlS (Builtin.Str.padded _ _ _ _) = _
    unfold Builtin.Str.padded
    simp [tlS, SX.S]
/-- k digits -/
def pad : Nat → Nat → List Nat
  | 0, _ => []
  | k + 1, r => pad k (r / 10) ++ [48 + r % 10]
theorem pad_len : ∀ k r, (pad k r).length = k
  | 0, _ => rfl
  | k + 1, r => by
    unfold pad
    rw [List.length_append, pad_len k]
    rfl
theorem pad_dig : ∀ k r, AllDigits (pad k r)
  | 0, _ => fun c hc => nomatch hc
  | k + 1, r => fun c hc => by
    unfold pad at hc
    rcases List.mem_append.mp hc with hc | hc
    · exact pad_dig k _ c hc
    · rw [List.mem_singleton.mp hc]
      omega
theorem val_snoc (l : List Nat) (d : Nat) : digitsVal (l ++ [48 + d]) = digitsVal l * 10 + d := by
  rw [digitsVal_snoc]
  omega
theorem pad_val (l : List Nat) : ∀ k r, r < 10 ^ k → digitsVal (l ++ pad k r) = digitsVal l * 10 ^ k + r
  | 0, r, h => by
    unfold pad
    rw [List.append_nil]
    simp at h
    omega
  | k + 1, r, h => by
    unfold pad
    rw [← List.append_assoc, val_snoc, pad_val l k (r / 10) (by rw [Nat.pow_succ] at h; omega), Nat.pow_succ, Nat.add_mul, Nat.mul_assoc]
    omega
theorem num_pad : ∀ k n, 10 ^ k ≤ n → TL.numL n = TL.numL (n / 10 ^ k) ++ pad k (n % 10 ^ k)
  | 0, n, h => by
    unfold pad
    rw [Nat.pow_zero, Nat.div_one, List.append_nil]
  | k + 1, n, h => by
    have hp : 0 < 10 ^ k := Nat.pow_pos (by decide)
    have h10 : 10 ≤ n := by
      rw [Nat.pow_succ] at h
      have : 1 * 10 ≤ 10 ^ k * 10 := Nat.mul_le_mul_right 10 hp
      omega
    have hk : 10 ^ k ≤ n / 10 := by
      rw [Nat.pow_succ] at h
      omega
    rw [TL.numL_step h10, num_pad k (n / 10) hk, show pad (k + 1) (n % 10 ^ (k + 1)) = pad k (n % 10 ^ (k + 1) / 10) ++ [48 + n % 10 ^ (k + 1) % 10] from rfl]
    rw [List.append_assoc, Nat.pow_succ, Nat.div_div_eq_div_mul, Nat.mul_comm 10 (10 ^ k)]
    have e1 : n % (10 ^ k * 10) / 10 = n / 10 % 10 ^ k := by
      rw [Nat.mul_comm (10 ^ k) 10, Nat.mod_mul_right_div_self]
    have e2 : n % (10 ^ k * 10) % 10 = n % 10 := Nat.mod_mul_left_mod n (10 ^ k) 10
    rw [e1, e2]
/-- zeros ahead -/
theorem pad_small : ∀ k n, n < 10 ^ k → List.replicate (k - (TL.numL n).length) 48 ++ TL.numL n = (if k = 0 then TL.numL n else pad k n)
  | 0, n, _ => by simp
  | 1, n, h => by
    rw [TL.numL_lt (by simpa using h)]
    unfold pad pad
    simp at h ⊢
    omega
  | k + 2, n, h => by
    rw [if_neg (by omega)]
    by_cases c : n < 10
    · have q := pad_small (k + 1) 0 (Nat.pow_pos (by decide))
      rw [if_neg (by omega), TL.numL_lt (by decide : 0 < 10)] at q
      rw [TL.numL_lt c]
      show List.replicate (k + 2 - 1) 48 ++ [48 + n] = pad (k + 1) (n / 10) ++ [48 + n % 10]
      rw [Nat.div_eq_of_lt c, Nat.mod_eq_of_lt c, ← q]
      show _ = (List.replicate (k + 1 - 1) 48 ++ [48]) ++ [48 + n]
      rw [show k + 2 - 1 = (k + 1 - 1) + 1 by omega, List.replicate_succ']
    · have q := pad_small (k + 1) (n / 10) (by rw [Nat.pow_succ] at h; omega)
      rw [if_neg (by omega)] at q
      rw [TL.numL_step (by omega), List.length_append]
      show _ = pad (k + 1) (n / 10) ++ [48 + n % 10]
      rw [← q, ← List.append_assoc]
      show List.replicate (k + 2 - ((TL.numL (n / 10)).length + 1)) 48 ++ _ ++ _ = _
      rw [show k + 2 - ((TL.numL (n / 10)).length + 1) = k + 1 - (TL.numL (n / 10)).length by omega]
theorem zf_is {n : Nat} {k : Int} : zfL (TL.numL n) k = List.replicate (k.toNat - (TL.numL n).length) 48 ++ TL.numL n := by
  unfold zfL Txt.zfill
  rw [SX.S_len]
  split
  · rw [show k.toNat - (TL.numL n).length = 0 by omega]
    simp [tlS, SX.S]
  · unfold zfilled
    have hn := TL.numL_ne n
    have hd := TL.numL_digits n
    cases hc : TL.numL n with
    | nil => exact absurd hc hn
    | cons c l =>
      rw [hc] at hd
      have h0 := hd c List.mem_cons_self
      have e : (SX.S (c :: l)).cps[0]? = some c := by simp [SX.S]
      rw [e]
      split
      · rename_i q
        have := Option.some.inj q
        omega
      · rename_i q
        have := Option.some.inj q
        omega
      · unfold Builtin.Str.padded
        simp [tlS, SX.S]
theorem int_dig {z : List Nat} (h : AllDigits z) (hn : z ≠ []) (hl : z.length ≤ 640) : PySem.intText? (SX.S z) = some ((digitsVal z : Nat) : Int) :=
  SX.int_S (List.all_eq_true.mpr fun c hc => by have := h c hc; simp; omega) hn (by omega)
theorem numT_dig {z : List Nat} (h : AllDigits z) (hn : z ≠ []) (hl : z.length ≤ 640) : numT z = ((digitsVal z : Nat) : Int) := by
  unfold numT
  rw [int_dig h hn hl]
  rfl
theorem decL_len {n : Int} (h0 : 0 ≤ n) (h : n < 10000000000000) : (decL n).length ≤ 13 := TL.numL_len (by decide) (by omega)
theorem decL_dig (n : Int) : AllDigits (decL n) := TL.numL_digits _
theorem zf_len {n D : Int} (h0 : 0 ≤ n) (h : n < 10000000000000) (hD : D ≤ 3) : (zfL (decL n) D).length ≤ 16 := by
  have l := decL_len h0 h
  unfold decL at *
  rw [zf_is, List.length_append, List.length_replicate]
  omega
theorem lj_len (z : List Nat) (n : Int) (c : Nat) : (ljL z n [c]).length ≤ z.length + n.toNat := by
  rw [lj_is, List.length_append, List.length_replicate]
  omega
theorem pad_ok {i : Int} (h : 0 ≤ i ∧ i ≤ 1000) : PadOk i = true := by
  unfold PadOk fitsSsize Builtin.Str.tooLong
  have := sizeLine_eq
  simp
  omega
theorem cutL_mem {α : Type} {xs : List α} {l u : Option Int} {x : α} (h : x ∈ cutL xs l u) : x ∈ xs := List.mem_of_mem_drop (List.mem_of_mem_take h)
theorem part_or (z : List Nat) (c : Nat) : (c ∉ z ∧ partL z [c] = (z, [], [])) ∨ ∃ p q, z = p ++ c :: q ∧ c ∉ p ∧ partL z [c] = (p, [c], q) := by
  by_cases h : c ∈ z
  · right
    obtain ⟨p, q, e, hp⟩ : ∃ p q, z = p ++ c :: q ∧ c ∉ p := by
      induction z with
      | nil => cases h
      | cons a z ih =>
        by_cases ha : a = c
        · exact ⟨[], z, by rw [ha]; rfl, by simp⟩
        · rcases List.mem_cons.mp h with e | h
          · exact absurd e.symm ha
          · obtain ⟨p, q, e, hp⟩ := ih h
            exact ⟨a :: p, q, by rw [e]; rfl, fun m => by
              rcases List.mem_cons.mp m with e | m
              · exact ha e.symm
              · exact hp m⟩
    exact ⟨p, q, e, hp, by rw [e]; exact part_at hp⟩
  · exact .inl ⟨h, part_no h⟩
theorem part_le (z : List Nat) (c : Nat) : ((partL z [c]).1.length ≤ z.length ∧ ∀ x ∈ (partL z [c]).1, x ∈ z) ∧ (partL z [c]).2.2.length ≤ z.length ∧ ∀ x ∈ (partL z [c]).2.2, x ∈ z := by
  rcases part_or z c with ⟨_, e⟩ | ⟨p, q, ez, _, e⟩
  · rw [e]
    exact ⟨⟨Nat.le_refl _, fun _ h => h⟩, Nat.zero_le _, fun _ h => nomatch h⟩
  · rw [e, ez]
    refine ⟨⟨?_, fun x h => List.mem_append_left _ h⟩, ?_, fun x h => List.mem_append_right _ (List.mem_cons_of_mem _ h)⟩ <;> simp
    omega
theorem all_cat {P : Nat → Prop} {a b : List Nat} (h : ∀ c ∈ a, P c) (k : ∀ c ∈ b, P c) : ∀ c ∈ a ++ b, P c := fun c hc => (List.mem_append.mp hc).elim (h c) (k c)
theorem dig_asc {z : List Nat} (h : AllDigits z) : ∀ c ∈ z, c < 128 := fun c hc => by
  have := h c hc
  omega
end J

namespace Ck03
open PySem L2 PyProof.Rows J
def nm_ : _root_.Fin 7 → Str := fun i => match i with
  | 0 => "BadValue"
  | 1 => "BadDay"
  | 2 => "Missing"
  | 3 => "Refused"
  | 4 => "Full"
  | 5 => "NotAllowed"
  | 6 => "Damaged"
def st_law_numbers_1 (cell_ : Int) (z20 : (Int × (List Int))) (x27 : Int) : Out Empty (Int × (List Int)) (Int × (List Int)) (List Int) :=
  if (decide (0 < z20.1)) = true then (
        letV (z20.2 ++ [(z20.1 % 10000000000000)]) fun numbers_here_36 =>
        letV (z20.1 / 10000000000000) fun rest_38 =>
        .nx (rest_38, numbers_here_36)) else (
        letV ((((cell_ * 48271) + (x27 * 69621)) + 1013) % 2147483647) fun mixed_42 =>
        letV ((((mixed_42 * mixed_42) + (8191 * x27)) + 77) % 2147483629) fun mixed_46 =>
        letV (z20.2 ++ [(((((mixed_46 * mixed_46) + mixed_46) % 2147483587) * 4001) + x27)]) fun numbers_here_53 =>
        .nx (z20.1, numbers_here_53))

def b_law_numbers (cell_ : Int) (count_ : Int) : Out Empty Unit Empty (List Int) :=
  letV 0 fun rest_1 =>
  (if (decide (1000000000000000000 ≤ cell_)) = true then (
    letV (cell_ / 1000000000000000000) fun rest_11 =>
    .nx (rest_11)) else (
    .nx (rest_1)) : Out Empty (Int) Empty (List Int)).bind fun z7 =>
  letV ([] : (List Int)) fun numbers_here_15 =>
    (forL (st_law_numbers_1 cell_) (z7, numbers_here_15) (rng 0 count_)).bind fun z20 =>
    .rt z20.2

def m_law_numbers (cell_ : Int) (count_ : Int) : (List Int) := (b_law_numbers cell_ count_).val

def pre_law_numbers (K : PySem.W.Frag) : (Int × Int) → Hp → List V → Prop := fun i G vs => ∃ v0_ v1_ : V, vs = [v0_, v1_] ∧ rI i.1 G v0_ ∧ rI i.2 G v1_ ∧ (0 ≤ i.2 ∧ i.2 ≤ 100)

abbrev sp_law_numbers (K : PySem.W.Frag) : Sp := SpP (pre_law_numbers K) (fun _ o => (rL K rI) o) fun i : (Int × Int) => m_law_numbers i.1 i.2

def b_law_sign (number_here_ : Int) (few_ : Bool) : Out Empty Unit Empty (List Nat) :=
  letV [32, 33, 34, 35, 36, 38, 39, 40, 41, 42, 43, 44, 45, 46, 47, 48, 49, 50, 51, 52, 53, 54, 55, 56, 57, 58, 59, 60, 61, 62, 63, 64, 65, 66, 67, 68, 69, 70, 71, 72, 73, 74, 75, 76, 77, 78, 79, 80, 81, 82, 83, 84, 85, 86, 87, 88, 89, 90, 91, 92, 93, 94, 95, 96] fun signs_1 =>
  letV (signs_1 ++ [97, 98, 99, 100, 101, 102, 103, 104, 105, 106, 107, 108, 109, 110, 111, 112, 113, 114, 115, 116, 117, 118, 119, 120, 121, 122, 123, 124, 125, 126]) fun signs_5 =>
  (if (few_) = true then (
    letV [48, 49, 50, 51, 52, 53, 54, 55, 56, 57, 46, 45, 48, 48, 49, 57] fun signs_12 =>
    .nx (signs_12)) else (
    .nx (signs_5)) : Out Empty ((List Nat)) Empty (List Nat)).bind fun z11 =>
  .rt [(ixg z11 (number_here_ % (z11.length : Int)))]

def m_law_sign (number_here_ : Int) (few_ : Bool) : (List Nat) := (b_law_sign number_here_ few_).val

def pre_law_sign (K : PySem.W.Frag) : (Int × Bool) → Hp → List V → Prop := fun i G vs => ∃ v0_ v1_ : V, vs = [v0_, v1_] ∧ rI i.1 G v0_ ∧ rB i.2 G v1_

abbrev sp_law_sign (K : PySem.W.Frag) : Sp := SpP (pre_law_sign K) (fun _ o => rS o) fun i : (Int × Bool) => m_law_sign i.1 i.2

def st_law_any_1 (numbers_here_ : (List Int)) (few_ : Bool) (z5 : ((List Nat))) (x9 : Int) : Out Empty ((List Nat)) ((List Nat)) (List Nat) :=
  letV (z5 ++ (m_law_sign (ixg numbers_here_ (10 + x9)) few_)) fun text_here_13 =>
    .nx (text_here_13)

def b_law_any (numbers_here_ : (List Int)) (few_ : Bool) : Out Empty Unit Empty (List Nat) :=
  letV ([] : List Nat) fun text_here_1 =>
  (forL (st_law_any_1 numbers_here_ few_) (text_here_1) (rng 0 ((ixg numbers_here_ 1) % 21))).bind fun z5 =>
  .rt z5

def m_law_any (numbers_here_ : (List Int)) (few_ : Bool) : (List Nat) := (b_law_any numbers_here_ few_).val

def pre_law_any (K : PySem.W.Frag) : ((List Int) × Bool) → Hp → List V → Prop := fun i G vs => ∃ v0_ v1_ : V, vs = [v0_, v1_] ∧ (rL K rI) i.1 G v0_ ∧ rB i.2 G v1_ ∧ (J.Nums 32 i.1)

abbrev sp_law_any (K : PySem.W.Frag) : Sp := SpP (pre_law_any K) (fun _ o => rS o) fun i : ((List Int) × Bool) => m_law_any i.1 i.2

def st_law_written_1 (digits_ : Int) (z5 : ((List Nat))) (x9 : Int) : Out Empty ((List Nat)) ((List Nat)) (List Nat) :=
  if (decide ((z5.length : Int) ≤ digits_)) = true then (
      letV ([48] ++ z5) fun figures_15 =>
      .nx (figures_15)) else (
      .nx (z5))

def b_law_written (amount_ : Int) (digits_ : Int) : Out Empty Unit Empty (List Nat) :=
  letV (decL (if amount_ < 0 then -amount_ else amount_)) fun figures_1 =>
  (forL (st_law_written_1 digits_) (figures_1) (rng 0 4)).bind fun z5 =>
  (if (decide (0 < digits_)) = true then (
      letV (((cutL z5 none (some ((z5.length : Int) - digits_))) ++ [46]) ++ (cutL z5 (some ((z5.length : Int) - digits_)) none)) fun figures_25 =>
      .nx (figures_25)) else (
      .nx (z5)) : Out Empty ((List Nat)) Empty (List Nat)).bind fun z23 =>
    if (decide (amount_ < 0)) = true then (.rt ([45] ++ z23)) else
      .rt z23

def m_law_written (amount_ : Int) (digits_ : Int) : (List Nat) := (b_law_written amount_ digits_).val

def pre_law_written (K : PySem.W.Frag) : (Int × Int) → Hp → List V → Prop := fun i G vs => ∃ v0_ v1_ : V, vs = [v0_, v1_] ∧ rI i.1 G v0_ ∧ rI i.2 G v1_ ∧ (-10000000000000 < i.1 ∧ i.1 < 10000000000000)

abbrev sp_law_written (K : PySem.W.Frag) : Sp := SpP (pre_law_written K) (fun _ o => rS o) fun i : (Int × Int) => m_law_written i.1 i.2

def b_law_turned (numbers_here_ : (List Int)) (digits_ : Int) : Out Empty Unit Empty (List Nat) :=
  letV (m_law_written (((ixg numbers_here_ 1) % ((2 * 1000000000000) + 1)) - 1000000000000) digits_) fun text_here_1 =>
  (if (decide (((ixg numbers_here_ 2) % 2) = 1)) = true then (
    letV (m_law_written (((ixg numbers_here_ 1) % 2001) - 1000) digits_) fun text_here_10 =>
    .nx (text_here_10)) else (
    .nx (text_here_1)) : Out Empty ((List Nat)) Empty (List Nat)).bind fun z7 =>
  letV ((ixg numbers_here_ 3) % (z7.length : Int)) fun at_14 =>
    letV [z7, ((cutL z7 none (some at_14)) ++ (cutL z7 (some (at_14 + 1)) none)), ((cutL z7 none (some (at_14 + 1))) ++ (cutL z7 (some at_14) none))] fun turns_18 =>
    letV (turns_18 ++ [(((cutL z7 none (some at_14)) ++ (m_law_sign (ixg numbers_here_ 4) (decide (((ixg numbers_here_ 5) % 2) = 0)))) ++ (cutL z7 (some (at_14 + 1)) none))]) fun turns_22 =>
    .rt (ixg turns_22 ((ixg numbers_here_ 6) % 4))

def m_law_turned (numbers_here_ : (List Int)) (digits_ : Int) : (List Nat) := (b_law_turned numbers_here_ digits_).val

def pre_law_turned (K : PySem.W.Frag) : ((List Int) × Int) → Hp → List V → Prop := fun i G vs => ∃ v0_ v1_ : V, vs = [v0_, v1_] ∧ (rL K rI) i.1 G v0_ ∧ rI i.2 G v1_ ∧ (J.Nums 32 i.1 ∧ 0 ≤ i.2 ∧ i.2 ≤ 3)

abbrev sp_law_turned (K : PySem.W.Frag) : Sp := SpP (pre_law_turned K) (fun _ o => rS o) fun i : ((List Int) × Int) => m_law_turned i.1 i.2

def b_law_text (numbers_here_ : (List Int)) (digits_ : Int) : Out Empty Unit Empty (List Nat) :=
  letV ((ixg numbers_here_ 0) % 3) fun shape_1 =>
  letV (m_law_any numbers_here_ (decide (shape_1 = 1))) fun text_here_5 =>
  (if (decide (shape_1 = 2)) = true then (
    letV (m_law_turned numbers_here_ digits_) fun text_here_13 =>
    .nx (text_here_13)) else (
    .nx (text_here_5)) : Out Empty ((List Nat)) Empty (List Nat)).bind fun z11 =>
  (if (decide (((ixg numbers_here_ 7) % 5) = 1)) = true then (
      letV ((ixg numbers_here_ 9) % 41) fun size_21 =>
      (if (decide (((ixg numbers_here_ 7) % 35) = 1)) = true then (
        letV ((ixg numbers_here_ 9) % 6001) fun size_28 =>
        .nx (size_28)) else (
        .nx (size_21)) : Out Empty (Int) Empty (List Nat)).bind fun z27 =>
      letV (z11 ++ (repS (m_law_sign (ixg numbers_here_ 8) (decide (((ixg numbers_here_ 0) % 2) = 0))) z27)) fun text_here_32 =>
        .nx (text_here_32)) else (
      .nx (z11)) : Out Empty ((List Nat)) Empty (List Nat)).bind fun z19 =>
    .rt z19

def m_law_text (numbers_here_ : (List Int)) (digits_ : Int) : (List Nat) := (b_law_text numbers_here_ digits_).val

def pre_law_text (K : PySem.W.Frag) : ((List Int) × Int) → Hp → List V → Prop := fun i G vs => ∃ v0_ v1_ : V, vs = [v0_, v1_] ∧ (rL K rI) i.1 G v0_ ∧ rI i.2 G v1_ ∧ (J.Nums 32 i.1 ∧ 0 ≤ i.2 ∧ i.2 ≤ 3)

abbrev sp_law_text (K : PySem.W.Frag) : Sp := SpP (pre_law_text K) (fun _ o => rS o) fun i : ((List Int) × Int) => m_law_text i.1 i.2

def st_law_number_1  (z5 : (Int)) (x9 : Nat) : Out Empty (Int) (Int) Int :=
  letV ((10 * z5) + (findL [48, 49, 50, 51, 52, 53, 54, 55, 56, 57] [x9])) fun total_13 =>
    .nx (total_13)

def b_law_number (figures_ : (List Nat)) : Out Empty Unit Empty Int :=
  letV 0 fun total_1 =>
  (forL (st_law_number_1) (total_1) figures_).bind fun z5 =>
  .rt z5

def m_law_number (figures_ : (List Nat)) : Int := (b_law_number figures_).val

def pre_law_number (K : PySem.W.Frag) : ((List Nat)) → Hp → List V → Prop := fun i G vs => ∃ v0_ : V, vs = [v0_] ∧ rS i G v0_

abbrev sp_law_number (K : PySem.W.Frag) : Sp := SpP (pre_law_number K) (fun _ o => rI o) fun i : ((List Nat)) => m_law_number i

def st_law_due_1  (z28 : ((List (List Nat)) × Int)) (x36 : Nat) : Out Empty ((List (List Nat)) × Int) ((List (List Nat)) × Int) (Option Int) :=
  if (decide ([x36] = [46])) = true then (
          letV (z28.2 + 1) fun points_42 =>
          .nx (z28.1, points_42)) else (
          if ((!decide (x36 ∈ [48, 49, 50, 51, 52, 53, 54, 55, 56, 57])) || (decide (1 < z28.2))) = true then (
            .rt none) else (
            letV (putL z28.1 z28.2 ((ixg z28.1 z28.2) ++ [x36])) fun parts_52 =>
            .nx (parts_52, z28.2)))

def st_law_due_2  (z71 : (Int)) (x76 : Int) : Out Empty (Int) (Int) (Option Int) :=
  letV (10 * z71) fun size_80 =>
              .nx (size_80)

def b_law_due (text_here_ : (List Nat)) (digits_ : Int) : Out Empty Unit Empty (Option Int) :=
  if (decide (60 < (text_here_.length : Int))) = true then (.rt none) else
  letV text_here_ fun body_3 =>
    (if (decide ((cutL text_here_ none (some 1)) = [45])) = true then (
      letV (cutL text_here_ (some 1) none) fun body_15 =>
      .nx (body_15)) else (
      .nx (body_3)) : Out Empty ((List Nat)) Empty (Option Int)).bind fun z9 =>
    letV [([] : List Nat), ([] : List Nat)] fun parts_19 =>
      letV 0 fun points_24 =>
      (forL (st_law_due_1) (parts_19, points_24) z9).bind fun z28 =>
      if ((decide ((ixg z28.1 0) = ([] : List Nat))) || (((!decide ((ixg z28.1 0) = [48])) && (decide ([(ixg (ixg z28.1 0) 0)] = [48]))) || (decide (1 < z28.2)))) = true then (.rt none) else
        if ((decide (z28.2 = 1)) && ((decide ((ixg z28.1 1) = ([] : List Nat))) || (decide (digits_ < ((ixg z28.1 1).length : Int))))) = true then (.rt none) else
          letV (m_law_number ((ixg z28.1 0) ++ (ixg z28.1 1))) fun size_67 =>
            (forL (st_law_due_2) (size_67) (rng 0 (digits_ - ((ixg z28.1 1).length : Int)))).bind fun z71 =>
            if ((decide (1000000000000 < z71)) || ((!decide (z9 = text_here_)) && (decide (z71 = 0)))) = true then (.rt none) else
              if (!decide (z9 = text_here_)) = true then (.rt (some (0 - z71))) else
                .rt (some z71)

def m_law_due (text_here_ : (List Nat)) (digits_ : Int) : (Option Int) := (b_law_due text_here_ digits_).val

def pre_law_due (K : PySem.W.Frag) : ((List Nat) × Int) → Hp → List V → Prop := fun i G vs => ∃ v0_ v1_ : V, vs = [v0_, v1_] ∧ rS i.1 G v0_ ∧ rI i.2 G v1_ ∧ ((i.1.length ≤ 7000 ∧ ∀ c ∈ i.1, c < 128) ∧ 0 ≤ i.2 ∧ i.2 ≤ 3)

abbrev sp_law_due (K : PySem.W.Frag) : Sp := SpP (pre_law_due K) (fun _ o => (rO rI) o) fun i : ((List Nat) × Int) => m_law_due i.1 i.2

def b_check_digits (digits_ : Int) : Out (_root_.Fin 7) Unit Empty Unit :=
  if (!(decide (0 ≤ digits_) && decide (digits_ ≤ 3))) = true then (.er 0) else
  .nx ()

def m_check_digits (digits_ : Int) : Except (_root_.Fin 7) Unit := (b_check_digits digits_).res

def pre_check_digits (K : PySem.W.Frag) : (Int) → Hp → List V → Prop := fun i G vs => ∃ v0_ : V, vs = [v0_] ∧ rI i G v0_

abbrev sp_check_digits (K : PySem.W.Frag) (adr : _root_.Fin 7 → Addr) : Sp := SpE (cE adr) (pre_check_digits K) (fun _ o => rN o) fun i : (Int) => m_check_digits i

def b_check_whole (whole_ : (List Nat)) : Out (_root_.Fin 7) Unit Empty Unit :=
  if (!((digB whole_))) = true then (.er 0) else
  if ((decide ([(ixg whole_ 0)] = [48])) && (decide (1 < (whole_.length : Int)))) = true then (.er 0) else
    .nx ()

def m_check_whole (whole_ : (List Nat)) : Except (_root_.Fin 7) Unit := (b_check_whole whole_).res

def pre_check_whole (K : PySem.W.Frag) : ((List Nat)) → Hp → List V → Prop := fun i G vs => ∃ v0_ : V, vs = [v0_] ∧ rS i G v0_ ∧ ((i.length ≤ 100 ∧ ∀ c ∈ i, c < 128))

abbrev sp_check_whole (K : PySem.W.Frag) (adr : _root_.Fin 7 → Addr) : Sp := SpE (cE adr) (pre_check_whole K) (fun _ o => rN o) fun i : ((List Nat)) => m_check_whole i

def b_parse_amount (text_ : (List Nat)) (digits_ : Int) : Out (_root_.Fin 7) Unit Empty Int :=
  callE (m_check_digits digits_) fun _o2 =>
  letV (decide ((cutL text_ none (some 1)) = [45])) fun negative_3 =>
  letV (if (negative_3) = true then (cutL text_ (some 1) none) else text_) fun body_9 =>
  if (decide (17 < (body_9.length : Int))) = true then (.er 0) else
  letV (partL body_9 [46]) fun t15 =>
    callE (m_check_whole t15.1) fun _o24 =>
    if ((decide (t15.2.1 = [46])) && (!((decide (1 ≤ (t15.2.2.length : Int)) && decide ((t15.2.2.length : Int) ≤ digits_)) && ((digB t15.2.2))))) = true then (.er 0) else
    letV (numT (t15.1 ++ (ljL t15.2.2 digits_ [48]))) fun size_29 =>
      if (decide (1000000000000 < size_29)) = true then (.er 0) else
      if ((negative_3) && (decide (size_29 = 0))) = true then (.er 0) else
        .rt (if (negative_3) = true then (0 - size_29) else size_29)

def m_parse_amount (text_ : (List Nat)) (digits_ : Int) : Except (_root_.Fin 7) Int := (b_parse_amount text_ digits_).res

def pre_parse_amount (K : PySem.W.Frag) : ((List Nat) × Int) → Hp → List V → Prop := fun i G vs => ∃ v0_ v1_ : V, vs = [v0_, v1_] ∧ rS i.1 G v0_ ∧ rI i.2 G v1_ ∧ ((i.1.length ≤ 7000 ∧ ∀ c ∈ i.1, c < 128))

abbrev sp_parse_amount (K : PySem.W.Frag) (adr : _root_.Fin 7 → Addr) : Sp := SpE (cE adr) (pre_parse_amount K) (fun _ o => rI o) fun i : ((List Nat) × Int) => m_parse_amount i.1 i.2

def b_law_kinds (error_ : (_root_.Fin 7)) : Out Empty Unit Empty (List (List Nat)) :=
  letV ([] : (List (List Nat))) fun kinds_here_1 =>
  (if ((decide (error_ = 0))) = true then (
    letV (kinds_here_1 ++ [[66, 97, 100, 86, 97, 108, 117, 101]]) fun kinds_here_14 =>
    .nx (kinds_here_14)) else (
    .nx (kinds_here_1)) : Out Empty ((List (List Nat))) Empty (List (List Nat))).bind fun z8 =>
  (if ((decide (error_ = 1))) = true then (
      letV (z8 ++ [[66, 97, 100, 68, 97, 121]]) fun kinds_here_24 =>
      .nx (kinds_here_24)) else (
      .nx (z8)) : Out Empty ((List (List Nat))) Empty (List (List Nat))).bind fun z18 =>
    (if ((decide (error_ = 2))) = true then (
        letV (z18 ++ [[77, 105, 115, 115, 105, 110, 103]]) fun kinds_here_34 =>
        .nx (kinds_here_34)) else (
        .nx (z18)) : Out Empty ((List (List Nat))) Empty (List (List Nat))).bind fun z28 =>
      (if ((decide (error_ = 3))) = true then (
          letV (z28 ++ [[82, 101, 102, 117, 115, 101, 100]]) fun kinds_here_44 =>
          .nx (kinds_here_44)) else (
          .nx (z28)) : Out Empty ((List (List Nat))) Empty (List (List Nat))).bind fun z38 =>
        (if ((decide (error_ = 4))) = true then (
            letV (z38 ++ [[70, 117, 108, 108]]) fun kinds_here_54 =>
            .nx (kinds_here_54)) else (
            .nx (z38)) : Out Empty ((List (List Nat))) Empty (List (List Nat))).bind fun z48 =>
          (if ((decide (error_ = 5))) = true then (
              letV (z48 ++ [[78, 111, 116, 65, 108, 108, 111, 119, 101, 100]]) fun kinds_here_64 =>
              .nx (kinds_here_64)) else (
              .nx (z48)) : Out Empty ((List (List Nat))) Empty (List (List Nat))).bind fun z58 =>
            (if ((decide (error_ = 6))) = true then (
                letV (z58 ++ [[68, 97, 109, 97, 103, 101, 100]]) fun kinds_here_74 =>
                .nx (kinds_here_74)) else (
                .nx (z58)) : Out Empty ((List (List Nat))) Empty (List (List Nat))).bind fun z68 =>
              .rt z68

def m_law_kinds (error_ : (_root_.Fin 7)) : (List (List Nat)) := (b_law_kinds error_).val

abbrev sp_law_kinds (K : PySem.W.Frag) (adr : _root_.Fin 7 → Addr) : Addr → Addr → Sp := SpK adr (fun o => (rL K rS) o) m_law_kinds

def b_law_told (text_here_ : (List Nat)) (digits_ : Int) : Out Empty Unit Empty ((List Nat) × (List (Int ⊕ (List Nat)))) :=
  (tryO (ε' := _root_.Fin 7) (callE (m_parse_amount text_here_ digits_) fun told_here_12 =>
    .nx (told_here_12) : Out (_root_.Fin 7) (Int) Empty ((List Nat) × (List (Int ⊕ (List Nat))))) (fun k3 => .rt ([114, 97, 105, 115, 101, 100], ((m_law_kinds k3).map Sum.inr))) : Out Empty (Int) Empty ((List Nat) × (List (Int ⊕ (List Nat))))).bind fun z1 =>
  if ((false) || (!(true))) = true then (.rt ([115, 116, 114, 97, 110, 103, 101], ([] : (List (Int ⊕ (List Nat)))))) else
    .rt ([114, 101, 97, 100], [(Sum.inl z1)])

def m_law_told (text_here_ : (List Nat)) (digits_ : Int) : ((List Nat) × (List (Int ⊕ (List Nat)))) := (b_law_told text_here_ digits_).val

def pre_law_told (K : PySem.W.Frag) : ((List Nat) × Int) → Hp → List V → Prop := fun i G vs => ∃ v0_ v1_ : V, vs = [v0_, v1_] ∧ rS i.1 G v0_ ∧ rI i.2 G v1_ ∧ ((i.1.length ≤ 7000 ∧ ∀ c ∈ i.1, c < 128))

abbrev sp_law_told (K : PySem.W.Frag) : Sp := SpP (pre_law_told K) (fun _ o => (rT K (cc rS (c0 (rL K (rSum rI rS))))) o) fun i : ((List Nat) × Int) => m_law_told i.1 i.2

def st_law_1  (z1 : Unit) (x10 : Int) : Out Empty Unit Unit Bool :=
  letV (m_law_numbers x10 32) fun numbers_here_14 =>
    letV ((ixg numbers_here_14 31) % 4) fun digits_18 =>
    letV (m_law_text numbers_here_14 digits_18) fun text_here_22 =>
    letV (m_law_due text_here_22 digits_18) fun due_here_26 =>
    letV (m_law_told text_here_22 digits_18) fun told_here_30 =>
    if ((due_here_26.isNone) && (!decide (told_here_30 = ([114, 97, 105, 115, 101, 100], [(Sum.inr [66, 97, 100, 86, 97, 108, 117, 101])])))) = true then (.rt false) else
    if ((!due_here_26.isNone) && (!decide (told_here_30 = ([114, 101, 97, 100], [(Sum.inl (oGet due_here_26))])))) = true then (.rt false) else
      .nx ()

def b_law (script_ : (List Int)) : Out Empty Unit Empty Bool :=
  (forL (st_law_1) () ([4] ++ script_)).bind fun z1 =>
  .rt true

def m_law (script_ : (List Int)) : Bool := (b_law script_).val

def pre_law (K : PySem.W.Frag) : ((List Int)) → Hp → List V → Prop := fun i G vs => ∃ v0_ : V, vs = [v0_] ∧ (rL K rI) i G v0_ ∧ (i.length ≤ 63)

abbrev sp_law (K : PySem.W.Frag) : Sp := SpP (pre_law K) (fun _ o => rB o) fun i : ((List Int)) => m_law i
end Ck03

namespace Ck03
open J
/-- a written amount -/
def txt (neg : Bool) (q : Nat) (part : List Nat) : List Nat := (if neg = true then [45] else []) ++ (TL.numL q ++ (if part = [] then [] else 46 :: part))
theorem dig_ok {D : Int} (h : 0 ≤ D ∧ D ≤ 3) : m_check_digits D = .ok () := by
  unfold m_check_digits b_check_digits
  rw [if_neg (by simp; omega)]
  rfl
theorem dig_bad {D : Int} (h : ¬ (0 ≤ D ∧ D ≤ 3)) : m_check_digits D = .error 0 := by
  unfold m_check_digits b_check_digits
  rw [if_pos (by simp; omega)]
  rfl
theorem num_lead : ∀ (n : Nat), 0 < n → ∀ c r, TL.numL n = c :: r → c ≠ 48 := by
  intro n
  induction n using Nat.strongRecOn with
  | _ n ih =>
    intro h c r e
    by_cases q : n < 10
    · rw [TL.numL_lt q] at e
      have := (List.cons.inj e).1
      omega
    · rw [TL.numL_step (by omega)] at e
      cases hn : TL.numL (n / 10) with
      | nil => exact absurd hn (TL.numL_ne _)
      | cons c' r' =>
        rw [hn] at e
        have := (List.cons.inj e).1
        rw [← this]
        exact ih (n / 10) (by omega) (by omega) c' r' hn
theorem whole_ok (q : Nat) : m_check_whole (TL.numL q) = .ok () := by
  have hd := digB_of (TL.numL_digits q) (TL.numL_ne q)
  unfold m_check_whole b_check_whole
  rw [hd, if_neg (by decide), if_neg]
  · rfl
  · intro h
    rw [Bool.and_eq_true, decide_eq_true_eq, decide_eq_true_eq] at h
    obtain ⟨h1, h2⟩ := h
    cases hn : TL.numL q with
    | nil => exact TL.numL_ne q hn
    | cons c r =>
      rw [hn] at h1 h2
      have e : ixg (c :: r) 0 = c := by rw [ixg_nat (Int.le_refl 0) (by rw [List.length_cons]; omega)]; rfl
      rw [e] at h1
      have hc : c = 48 := (List.cons.inj h1).1
      by_cases z : 0 < q
      · exact num_lead q z c r hn hc
      · have e0 : q = 0 := by omega
        rw [e0, TL.numL_lt (n := 0) (by decide)] at hn
        have er := (List.cons.inj hn).2
        rw [← er] at h2
        simp at h2
theorem not46 (q : Nat) : 46 ∉ TL.numL q := TL.numL_free (.inl (by decide))
/-- what reading a written amount gives -/
theorem parse_txt {neg : Bool} {q : Nat} {part : List Nat} {D : Int} (h : 0 ≤ D ∧ D ≤ 3) (hp : PySem.NumText.AllDigits part) (hl : (part.length : Int) ≤ D) (hb : (TL.numL q).length ≤ 13) :
    m_parse_amount (txt neg q part) D = if 1000000000000 < (PySem.NumText.digitsVal (TL.numL q ++ (part ++ List.replicate (D.toNat - part.length) 48)) : Int) then .error 0 else
      if (neg && decide ((PySem.NumText.digitsVal (TL.numL q ++ (part ++ List.replicate (D.toNat - part.length) 48)) : Int) = 0)) = true then .error 0 else
      .ok (if neg = true then 0 - (PySem.NumText.digitsVal (TL.numL q ++ (part ++ List.replicate (D.toNat - part.length) 48)) : Int) else (PySem.NumText.digitsVal (TL.numL q ++ (part ++ List.replicate (D.toNat - part.length) 48)) : Int)) := by
  have hn := TL.numL_ne q
  have hd := TL.numL_digits q
  have e1 : cutL (txt neg q part) none (some 1) = (txt neg q part).take 1 := cutL_up _ (by decide)
  have e2 : cutL (txt neg q part) (some 1) none = (txt neg q part).drop 1 := cutL_from _ (by decide)
  have e3 : decide (cutL (txt neg q part) none (some 1) = [45]) = neg := by
    rw [e1]
    cases neg with
    | true => simp [txt]
    | false =>
      cases hc : TL.numL q with
      | nil => exact absurd hc hn
      | cons c r =>
        have := hd c (by rw [hc]; exact List.mem_cons_self)
        simp [txt, hc]
        omega
  have e4 : (if neg = true then cutL (txt neg q part) (some 1) none else txt neg q part) = TL.numL q ++ (if part = [] then [] else 46 :: part) := by
    rw [e2]
    cases neg with
    | true => simp [txt]
    | false => simp [txt]
  have hlen : (TL.numL q ++ (if part = [] then [] else 46 :: part)).length ≤ 17 := by
    rw [List.length_append]
    split
    · simp
      omega
    · rw [List.length_cons]
      omega
  have e5 : partL (TL.numL q ++ (if part = [] then [] else 46 :: part)) [46] = (TL.numL q, (if part = [] then [] else [46]), part) := by
    by_cases c : part = []
    · rw [if_pos c, if_pos c, List.append_nil, part_no (not46 q), c]
    · rw [if_neg c, if_neg c, part_at (not46 q)]
  have e6 : (decide ((if part = [] then ([] : List Nat) else [46]) = [46]) && (!((decide (1 ≤ (part.length : Int)) && decide ((part.length : Int) ≤ D)) && digB part))) = false := by
    by_cases c : part = []
    · rw [if_pos c]
      rfl
    · rw [if_neg c, digB_of hp c]
      have : 0 < part.length := List.length_pos_iff.mpr c
      simp
      omega
  have hz : PySem.NumText.AllDigits (TL.numL q ++ (part ++ List.replicate (D.toNat - part.length) 48)) := fun c hc => by
    rcases List.mem_append.mp hc with hc | hc
    · exact hd c hc
    · rcases List.mem_append.mp hc with hc | hc
      · exact hp c hc
      · rw [List.eq_of_mem_replicate hc]
        omega
  have e7 : numT (TL.numL q ++ ljL part D [48]) = (PySem.NumText.digitsVal (TL.numL q ++ (part ++ List.replicate (D.toNat - part.length) 48)) : Int) := by
    rw [lj_is]
    refine numT_dig hz (by simp [hn]) ?_
    rw [List.length_append, List.length_append, List.length_replicate]
    omega
  generalize (PySem.NumText.digitsVal (TL.numL q ++ (part ++ List.replicate (D.toNat - part.length) 48)) : Int) = v at *
  unfold m_parse_amount b_parse_amount letV
  rw [dig_ok h]
  simp only [callE_ok]
  rw [e3, e4, if_neg (by rw [decide_eq_true_eq]; omega), e5]
  dsimp only
  rw [whole_ok]
  simp only [callE_ok]
  rw [e6, if_neg (by decide), e7]
  by_cases c1 : 1000000000000 < v
  · rw [if_pos (by simpa using c1), if_pos c1]
    rfl
  · rw [if_neg (by simpa using c1), if_neg c1]
    by_cases c2 : (neg && decide (v = 0)) = true
    · rw [if_pos c2, if_pos c2]
      rfl
    · rw [if_neg c2, if_neg c2]
      rfl
theorem p10 {D : Int} (h : 0 ≤ D ∧ D ≤ 3) : (D.toNat = 0 ∧ 10 ^ D.toNat = 1) ∨ (D.toNat = 1 ∧ 10 ^ D.toNat = 10) ∨ (D.toNat = 2 ∧ 10 ^ D.toNat = 100) ∨ (D.toNat = 3 ∧ 10 ^ D.toNat = 1000) := by
  have : D.toNat = 0 ∨ D.toNat = 1 ∨ D.toNat = 2 ∨ D.toNat = 3 := by omega
  rcases this with e | e | e | e <;> rw [e] <;> decide
theorem pad_zero (D : Nat) : ∀ r, pad D r ++ List.replicate (D - (pad D r).length) 48 = pad D r := fun r => by
  rw [pad_len, Nat.sub_self, List.replicate_zero, List.append_nil]
theorem figs (n D : Nat) : List.replicate (D + 1 - (TL.numL n).length) 48 ++ TL.numL n = TL.numL (n / 10 ^ D) ++ pad D (n % 10 ^ D) := by
  have hp : 0 < 10 ^ D := Nat.pow_pos (by decide)
  by_cases c : 10 ^ D ≤ n
  · have e := num_pad D n c
    have l : D + 1 ≤ (TL.numL n).length := by
      rw [e, List.length_append, pad_len]
      have := List.length_pos_iff.mpr (TL.numL_ne (n / 10 ^ D))
      omega
    rw [show D + 1 - (TL.numL n).length = 0 by omega, List.replicate_zero, List.nil_append]
    exact e
  · have s := pad_small D n (by omega)
    rw [Nat.div_eq_of_lt (by omega), Nat.mod_eq_of_lt (by omega), TL.numL_lt (n := 0) (by decide)]
    by_cases d : D = 0
    · subst d
      have : n = 0 := by simp at c; omega
      subst this
      rw [TL.numL_lt (n := 0) (by decide)]
      rfl
    · rw [if_neg d] at s
      rw [← s]
      have l : (TL.numL n).length ≤ D := TL.numL_len (by omega) (by omega)
      rw [show D + 1 - (TL.numL n).length = (D - (TL.numL n).length) + 1 by omega, List.replicate_succ]
      rfl
theorem abs_is (a : Int) : (if a < 0 then -a else a) = (a.natAbs : Int) := by
  split <;> omega
theorem dig_in {D : Int} {u : Unit} (h : m_check_digits D = .ok u) : 0 ≤ D ∧ D ≤ 3 := by
  by_cases c : 0 ≤ D ∧ D ≤ 3
  · exact c
  · rw [dig_bad c] at h
    cases h
theorem whole_dig {w : List Nat} {u : Unit} (h : m_check_whole w = .ok u) : digB w = true := by
  unfold m_check_whole b_check_whole at h
  cases c : digB w with
  | true => rfl
  | false =>
    rw [c, if_pos (by decide)] at h
    cases h
/-- what is made a number is one -/
theorem int_ok {body : List Nat} {t : List Nat × List Nat × List Nat} {D : Int} {u : Unit} {b : Bool} (ha : ∀ c ∈ body, c < 128) (hb : body.length ≤ 100) (hD : 0 ≤ D ∧ D ≤ 3) (et : t = partL body [46]) (ew : m_check_whole t.1 = .ok u)
    (hc : (decide (t.2.1 = [46]) && !(b && digB t.2.2)) = false) : (PySem.intText? (SX.S (t.1 ++ ljL t.2.2 D [48]))).isSome = true ∧ (t.1 ++ ljL t.2.2 D [48]).length ≤ 300 := by
  have le := part_le body 46
  rw [← et] at le
  have dw := digits_of (fun c hc => ha c (le.1.2 c hc)) (whole_dig ew)
  have dp : PySem.NumText.AllDigits t.2.2 := by
    rcases part_or body 46 with ⟨_, e⟩ | ⟨p, q, _, _, e⟩
    · rw [et, e]
      exact fun c hc => nomatch hc
    · rw [← et] at e
      have e2 : t.2.1 = [46] := by rw [e]
      rw [e2] at hc
      have hd : digB t.2.2 = true := by
        cases hx : digB t.2.2 with
        | true => rfl
        | false =>
          rw [hx] at hc
          simp at hc
      exact (digits_of (fun c hc => ha c (le.2.2 c hc)) hd).1
  have all : PySem.NumText.AllDigits (t.1 ++ ljL t.2.2 D [48]) := by
    rw [lj_is]
    intro c hc
    rcases List.mem_append.mp hc with hc | hc
    · exact dw.1 c hc
    · rcases List.mem_append.mp hc with hc | hc
      · exact dp c hc
      · rw [List.eq_of_mem_replicate hc]
        omega
  have ll := lj_len t.2.2 D 48
  have len : (t.1 ++ ljL t.2.2 D [48]).length ≤ 300 := by
    rw [List.length_append]
    omega
  refine ⟨?_, len⟩
  rw [int_dig all (by simp [dw.2]) (by omega)]
  rfl
theorem txt_asc {neg : Bool} {q : Nat} {part : List Nat} (hp : PySem.NumText.AllDigits part) : ∀ c ∈ txt neg q part, c < 128 := by
  unfold txt
  refine all_cat ?_ (all_cat (dig_asc (TL.numL_digits q)) ?_)
  · split <;> simp
  · split
    · simp
    · intro c hc
      rcases List.mem_cons.mp hc with e | hc
      · omega
      · exact dig_asc hp c hc
theorem txt_len {neg : Bool} {q : Nat} {part : List Nat} (hp : part.length ≤ 3) (hq : (TL.numL q).length ≤ 13) : (txt neg q part).length ≤ 30 := by
  unfold txt
  rw [List.length_append, List.length_append]
  split <;> split <;> simp <;> omega
theorem zeros_loop (D : Int) : ∀ (xs : List Int) (z : List Nat), (forL (st_law_written_1 D) z xs : Out Empty (List Nat) Empty (List Nat)) = .nx (List.replicate (min xs.length (D.toNat + 1 - z.length)) 48 ++ z) ∨ D < 0
  | [], z => .inl (by simp [forL])
  | x :: xs, z => by
    by_cases hD : D < 0
    · exact .inr hD
    · left
      rw [forL_cons]
      unfold st_law_written_1
      by_cases c : (z.length : Int) ≤ D
      · rw [if_pos (by simpa using c)]
        show (forL (st_law_written_1 D) ([48] ++ z) xs : Out Empty (List Nat) Empty (List Nat)) = _
        rcases zeros_loop D xs ([48] ++ z) with q | q
        · rw [q]
          congr 1
          rw [List.length_append, List.length_singleton, List.length_cons, show min (xs.length + 1) (D.toNat + 1 - z.length) = min xs.length (D.toNat + 1 - (1 + z.length)) + 1 by omega, List.replicate_succ', List.append_assoc]
        · omega
      · rw [if_neg (by simpa using c)]
        show (forL (st_law_written_1 D) z xs : Out Empty (List Nat) Empty (List Nat)) = _
        rcases zeros_loop D xs z with q | q
        · rw [q]
          congr 1
          rw [show D.toNat + 1 - z.length = 0 by omega, Nat.min_zero, Nat.min_zero]
        · omega
theorem written_is (a : Int) {D : Int} (h : 0 ≤ D ∧ D ≤ 3) : m_law_written a D = txt (decide (a < 0)) (a.natAbs / 10 ^ D.toNat) (pad D.toNat (a.natAbs % 10 ^ D.toNat)) := by
  have hz : (forL (st_law_written_1 D) (decL (a.natAbs : Int)) (rng 0 4) : Out Empty (List Nat) Empty (List Nat)) = .nx (TL.numL (a.natAbs / 10 ^ D.toNat) ++ pad D.toNat (a.natAbs % 10 ^ D.toNat)) := by
    rcases zeros_loop D (rng 0 4) (decL (a.natAbs : Int)) with q | q
    · rw [q, ← figs]
      show Out.nx (List.replicate (min 4 (D.toNat + 1 - (TL.numL a.natAbs).length)) 48 ++ TL.numL a.natAbs) = _
      have := List.length_pos_iff.mpr (TL.numL_ne a.natAbs)
      rw [show min 4 (D.toNat + 1 - (TL.numL a.natAbs).length) = D.toNat + 1 - (TL.numL a.natAbs).length by omega]
    · omega
  have hl := pad_len D.toNat (a.natAbs % 10 ^ D.toNat)
  unfold m_law_written b_law_written letV
  dsimp only
  rw [abs_is, hz]
  simp only [Out.bind_nx]
  unfold txt
  generalize TL.numL (a.natAbs / 10 ^ D.toNat) = q at *
  have hm : (if decide (0 < D) = true then (.nx ((cutL (q ++ pad D.toNat (a.natAbs % 10 ^ D.toNat)) none (some (((q ++ pad D.toNat (a.natAbs % 10 ^ D.toNat)).length : Int) - D)) ++ [46]) ++ cutL (q ++ pad D.toNat (a.natAbs % 10 ^ D.toNat)) (some (((q ++ pad D.toNat (a.natAbs % 10 ^ D.toNat)).length : Int) - D)) none) : Out Empty (List Nat) Empty (List Nat)) else .nx (q ++ pad D.toNat (a.natAbs % 10 ^ D.toNat))) =
      .nx (q ++ (if pad D.toNat (a.natAbs % 10 ^ D.toNat) = [] then [] else 46 :: pad D.toNat (a.natAbs % 10 ^ D.toNat))) := by
    by_cases c : 0 < D
    · have hne : pad D.toNat (a.natAbs % 10 ^ D.toNat) ≠ [] := fun z => by
        rw [z] at hl
        simp at hl
        omega
      rw [if_pos (by simpa using c), if_neg hne]
      have el : ((q ++ pad D.toNat (a.natAbs % 10 ^ D.toNat)).length : Int) - D = (q.length : Int) := by
        rw [List.length_append, hl]
        omega
      rw [el, cutL_up _ (by omega), cutL_from _ (by omega)]
      simp
    · have e0 : D.toNat = 0 := by omega
      rw [if_neg (by simpa using c), e0]
      rfl
  rw [hm]
  simp only [Out.bind_nx]
  generalize (q ++ (if pad D.toNat (a.natAbs % 10 ^ D.toNat) = [] then [] else 46 :: pad D.toNat (a.natAbs % 10 ^ D.toNat))) = t
  by_cases c : a < 0
  · rw [decide_eq_true c]
    rfl
  · rw [decide_eq_false c]
    rfl
theorem whole13 (a D : Int) (ha : a.natAbs < 10 ^ 13) : (TL.numL (a.natAbs / 10 ^ D.toNat)).length ≤ 13 := TL.numL_len (by decide) (Nat.lt_of_le_of_lt (Nat.div_le_self _ _) ha)
theorem ok_kinds (k : _root_.Fin 7) : ∀ s ∈ m_law_kinds k, ∀ c ∈ s, c < 1114112 := by
  revert k
  decide
theorem ok_told (y : List Nat) (m : Int) : (∀ c ∈ (m_law_told y m).1, c < 1114112) ∧ ∀ x ∈ (m_law_told y m).2, match x with
    | .inl _ => True
    | .inr l => ∀ c ∈ l, c < 1114112 := by
  unfold m_law_told b_law_told
  cases m_parse_amount y m with
  | ok x =>
    refine ⟨?_, ?_⟩
    · show ∀ c ∈ ([114, 101, 97, 100] : List Nat), c < 1114112
      decide
    · show ∀ z ∈ [(Sum.inl x : Int ⊕ List Nat)], _
      intro z hz
      rw [List.mem_singleton.mp hz]
      trivial
  | error k =>
    refine ⟨?_, ?_⟩
    · show ∀ c ∈ ([114, 97, 105, 115, 101, 100] : List Nat), c < 1114112
      decide
    · show ∀ z ∈ (m_law_kinds k).map (Sum.inr : List Nat → Int ⊕ List Nat), _
      intro z hz
      obtain ⟨l, hl, rfl⟩ := List.mem_map.mp hz
      exact ok_kinds k l hl
theorem sign_is (n : Int) (few : Bool) : (m_law_sign n few).length = 1 ∧ ∀ c ∈ m_law_sign n few, c < 128 := by
  unfold m_law_sign b_law_sign letV
  dsimp only
  have key : ∀ z : List Nat, 0 < z.length → (∀ c ∈ z, c < 128) → ([ixg z (n % (z.length : Int))] : List Nat).length = 1 ∧ ∀ c ∈ [ixg z (n % (z.length : Int))], c < 128 := by
    intro z h0 h
    refine ⟨rfl, fun c hc => ?_⟩
    rw [List.mem_singleton.mp hc]
    exact h _ (ixg_mem (Int.emod_nonneg _ (by omega)) (Int.emod_lt_of_pos _ (by omega)))
  split
  · exact key _ (by decide) (by decide)
  · exact key _ (by decide) (by decide)
theorem written_asc {a D : Int} (h : 0 ≤ D ∧ D ≤ 3) (ha : -10000000000000 < a ∧ a < 10000000000000) : (1 ≤ (m_law_written a D).length ∧ (m_law_written a D).length ≤ 30) ∧ ∀ c ∈ m_law_written a D, c < 128 := by
  rw [written_is a h]
  refine ⟨⟨?_, txt_len (by rw [pad_len]; omega) (whole13 a D (by omega))⟩, txt_asc (pad_dig _ _)⟩
  unfold txt
  have := List.length_pos_iff.mpr (TL.numL_ne (a.natAbs / 10 ^ D.toNat))
  rw [List.length_append, List.length_append]
  omega
theorem any_asc {ns : List Int} (few : Bool) (h : Nums 32 ns) : (m_law_any ns few).length ≤ 20 ∧ ∀ c ∈ m_law_any ns few, c < 128 := by
  obtain ⟨z, e, p1, p2⟩ := forL_inv (ε := Empty) (L := Empty) (R := List Nat) (f := st_law_any_1 ns few) (fun n s => s.length = n ∧ ∀ c ∈ s, c < 128) (xs := rng 0 (ixg ns 1 % 21)) (s := []) (n := 0) ⟨rfl, by simp⟩ (fun n s x _ hs => by
    have q := sign_is (ixg ns (10 + x)) few
    refine ⟨_, rfl, ?_, all_cat hs.2 q.2⟩
    rw [List.length_append, q.1, hs.1])
  unfold m_law_any b_law_any letV
  dsimp only
  rw [e]
  simp only [Out.bind_nx, Out.val_rt]
  rw [rng_length] at p1
  exact ⟨by omega, p2⟩
theorem cut_asc {z : List Nat} {a b : Option Int} (h : ∀ c ∈ z, c < 128) : ∀ c ∈ cutL z a b, c < 128 := fun c hc => h c (cutL_mem hc)
theorem turned_asc {ns : List Int} {D : Int} (h : Nums 32 ns) (hD : 0 ≤ D ∧ D ≤ 3) : (m_law_turned ns D).length ≤ 100 ∧ ∀ c ∈ m_law_turned ns D, c < 128 := by
  have h1 := h.bd 1
  have key : ∀ z : List Nat, (1 ≤ z.length ∧ z.length ≤ 30) → (∀ c ∈ z, c < 128) → ∀ t ∈ ([z, ((cutL z none (some (ixg ns 3 % (z.length : Int)))) ++ (cutL z (some (ixg ns 3 % (z.length : Int) + 1)) none)), ((cutL z none (some (ixg ns 3 % (z.length : Int) + 1))) ++ (cutL z (some (ixg ns 3 % (z.length : Int))) none))] ++ [(((cutL z none (some (ixg ns 3 % (z.length : Int)))) ++ (m_law_sign (ixg ns 4) (decide (((ixg ns 5) % 2) = 0)))) ++ (cutL z (some (ixg ns 3 % (z.length : Int) + 1)) none))]), t.length ≤ 100 ∧ ∀ c ∈ t, c < 128 := by
    intro z hl ha t ht
    have s := sign_is (ixg ns 4) (decide (((ixg ns 5) % 2) = 0))
    have l : ∀ a b, (cutL z a b).length ≤ 30 := fun a b => Nat.le_trans (cutL_le _ _ _) hl.2
    have l1 := l none (some (ixg ns 3 % (z.length : Int)))
    have l2 := l (some (ixg ns 3 % (z.length : Int) + 1)) none
    have l3 := l none (some (ixg ns 3 % (z.length : Int) + 1))
    have l4 := l (some (ixg ns 3 % (z.length : Int))) none
    simp only [List.cons_append, List.nil_append, List.mem_cons, List.not_mem_nil, or_false] at ht
    rcases ht with e | e | e | e
    · rw [e]
      exact ⟨by omega, ha⟩
    · rw [e]
      exact ⟨by rw [List.length_append]; omega, all_cat (cut_asc ha) (cut_asc ha)⟩
    · rw [e]
      exact ⟨by rw [List.length_append]; omega, all_cat (cut_asc ha) (cut_asc ha)⟩
    · rw [e]
      exact ⟨by rw [List.length_append, List.length_append, s.1]; omega, all_cat (all_cat (cut_asc ha) s.2) (cut_asc ha)⟩
  unfold m_law_turned b_law_turned letV
  dsimp only
  split
  · simp only [Out.bind_nx, Out.val_rt]
    have w := written_asc (a := ixg ns 1 % 2001 - 1000) hD (by omega)
    exact key _ w.1 w.2 _ (ixg_mem (by omega) (by simp; omega))
  · simp only [Out.bind_nx, Out.val_rt]
    have w := written_asc (a := ixg ns 1 % (2 * 1000000000000 + 1) - 1000000000000) hD (by omega)
    exact key _ w.1 w.2 _ (ixg_mem (by omega) (by simp; omega))
theorem repS_mem {z : List Nat} {n : Int} {c : Nat} (h : c ∈ repS z n) : c ∈ z := by
  unfold repS at h
  obtain ⟨l, hl, hc⟩ := List.mem_flatten.mp h
  rw [List.eq_of_mem_replicate hl] at hc
  exact hc
theorem text_asc {ns : List Int} {D : Int} (h : Nums 32 ns) (hD : 0 ≤ D ∧ D ≤ 3) : (m_law_text ns D).length ≤ 7000 ∧ ∀ c ∈ m_law_text ns D, c < 128 := by
  have h9 := h.bd 9
  have key : ∀ (z : List Nat), z.length ≤ 100 → (∀ c ∈ z, c < 128) → ∀ k : Int, k ≤ 6001 → (z ++ repS (m_law_sign (ixg ns 8) (decide (ixg ns 0 % 2 = 0))) k).length ≤ 7000 ∧ ∀ c ∈ z ++ repS (m_law_sign (ixg ns 8) (decide (ixg ns 0 % 2 = 0))) k, c < 128 := by
    intro z hl ha k hk
    have s := sign_is (ixg ns 8) (decide (ixg ns 0 % 2 = 0))
    refine ⟨?_, all_cat ha fun c hc => s.2 c (repS_mem hc)⟩
    rw [List.length_append, repS_len, s.1]
    omega
  have key2 : ∀ z : List Nat, z.length ≤ 100 → (∀ c ∈ z, c < 128) → (((if decide (ixg ns 7 % 5 = 1) = true then (
      (if decide (ixg ns 7 % 35 = 1) = true then (.nx (ixg ns 9 % 6001)) else (.nx (ixg ns 9 % 41)) : Out Empty Int Empty (List Nat)).bind fun z27 => .nx (z ++ repS (m_law_sign (ixg ns 8) (decide (ixg ns 0 % 2 = 0))) z27)) else .nx z : Out Empty (List Nat) Empty (List Nat)).bind fun z19 => (.rt z19 : Out Empty Unit Empty (List Nat))).val.length ≤ 7000 ∧ ∀ c ∈ ((if decide (ixg ns 7 % 5 = 1) = true then (
      (if decide (ixg ns 7 % 35 = 1) = true then (.nx (ixg ns 9 % 6001)) else (.nx (ixg ns 9 % 41)) : Out Empty Int Empty (List Nat)).bind fun z27 => .nx (z ++ repS (m_law_sign (ixg ns 8) (decide (ixg ns 0 % 2 = 0))) z27)) else .nx z : Out Empty (List Nat) Empty (List Nat)).bind fun z19 => (.rt z19 : Out Empty Unit Empty (List Nat))).val, c < 128) := by
    intro z hl ha
    split
    · split
      · exact key z hl ha _ (by omega)
      · exact key z hl ha _ (by omega)
    · exact ⟨by simp only [Out.bind_nx, Out.val_rt]; omega, ha⟩
  unfold m_law_text b_law_text letV
  dsimp only
  have a := any_asc (decide (ixg ns 0 % 3 = 1)) h
  have t := turned_asc h hD
  by_cases c : ixg ns 0 % 3 = 2
  · rw [if_pos (by simpa using c)]
    exact key2 _ t.1 t.2
  · rw [if_neg (by simpa using c)]
    exact key2 _ (by omega) a.2
/-- the parts of a number that are read so far -/
def PInv (n : Nat) (ps : List (List Nat)) (k : Int) : Prop := ps.length = 2 ∧ 0 ≤ k ∧ ∀ p ∈ ps, p.length ≤ n
theorem pinv0 : PInv 0 [[], []] 0 := ⟨rfl, by decide, by simp⟩
theorem PInv.dot {n : Nat} {ps : List (List Nat)} {k : Int} (h : PInv n ps k) : PInv (n + 1) ps (k + 1) := ⟨h.1, by have := h.2.1; omega, fun p hp => by have := h.2.2 p hp; omega⟩
theorem putL_mem {α : Type} {xs : List α} {i : Int} {x y : α} (h : y ∈ putL xs i x) : y ∈ xs ∨ y = x := List.mem_or_eq_of_mem_set h
theorem PInv.put {n : Nat} {ps : List (List Nat)} {k : Int} {c : Nat} (h : PInv n ps k) (hk : k ≤ 1) : PInv (n + 1) (putL ps k (ixg ps k ++ [c])) k := by
  obtain ⟨h1, h2, h3⟩ := h
  refine ⟨by rw [putL_len, h1], h2, fun p hp => ?_⟩
  rcases putL_mem hp with q | q
  · have := h3 p q
    omega
  · rw [q, List.length_append, List.length_singleton]
    have := h3 _ (ixg_mem (xs := ps) (i := k) h2 (by omega))
    omega
end Ck03

namespace Ck03
open J PySem.NumText
abbrev DR := Out Empty (List (List Nat) × Int) Empty (Option Int)
theorem st_is (s : List (List Nat) × Int) (x : Nat) : st_law_due_1 s x = if x = 46 then .nx (s.1, s.2 + 1) else if (48 ≤ x ∧ x ≤ 57) ∧ s.2 ≤ 1 then .nx (putL s.1 s.2 (ixg s.1 s.2 ++ [x]), s.2) else .rt none := by
  unfold st_law_due_1 letV
  by_cases c : x = 46
  · rw [if_pos (by simpa using c), if_pos c]
  · rw [if_neg (by simpa using c), if_neg c]
    by_cases d : (48 ≤ x ∧ x ≤ 57) ∧ s.2 ≤ 1
    · rw [if_pos d, if_neg]
      have hm : x ∈ [48, 49, 50, 51, 52, 53, 54, 55, 56, 57] := by
        simp
        omega
      rw [decide_eq_true hm, decide_eq_false (by omega)]
      decide
    · rw [if_neg d, if_pos]
      by_cases m : x ∈ [48, 49, 50, 51, 52, 53, 54, 55, 56, 57]
      · have hm : 48 ≤ x ∧ x ≤ 57 := by
          simp at m
          omega
        rw [decide_eq_true m, decide_eq_true (show 1 < s.2 by omega)]
        decide
      · rw [decide_eq_false m]
        rfl
/-- more points make no number -/
theorem points : ∀ (l : List Nat) (s : List (List Nat) × Int), ((forL st_law_due_1 s l : DR) = .rt none) ∨ ∃ s', (forL st_law_due_1 s l : DR) = .nx s' ∧ s.2 ≤ s'.2 ∧ (46 ∈ l → s.2 + 1 ≤ s'.2)
  | [], s => .inr ⟨s, rfl, Int.le_refl _, fun h => nomatch h⟩
  | x :: l, s => by
    rw [forL_cons, st_is]
    by_cases c : x = 46
    · rw [if_pos c]
      rcases points l (s.1, s.2 + 1) with h | ⟨s', h1, h2, h3⟩
      · exact .inl h
      · exact .inr ⟨s', h1, by dsimp only at h2; omega, fun _ => h2⟩
    · rw [if_neg c]
      by_cases d : (48 ≤ x ∧ x ≤ 57) ∧ s.2 ≤ 1
      · rw [if_pos d]
        rcases points l (putL s.1 s.2 (ixg s.1 s.2 ++ [x]), s.2) with h | ⟨s', h1, h2, h3⟩
        · exact .inl h
        · refine .inr ⟨s', h1, h2, fun m => ?_⟩
          rcases List.mem_cons.mp m with m | m
          · exact absurd m.symm c
          · exact h3 m
      · rw [if_neg d]
        exact .inl rfl
theorem put0 (a b u : List Nat) : putL [a, b] 0 u = [u, b] := rfl
theorem put1 (a b u : List Nat) : putL [a, b] 1 u = [a, u] := rfl
theorem ix0 (a b : List Nat) : ixg [a, b] 0 = a := rfl
theorem ix1 (a b : List Nat) : ixg [a, b] 1 = b := rfl
/-- digits alone -/
theorem run0 : ∀ (l a b r : List Nat), 46 ∉ l → (forL st_law_due_1 ([a, b], 0) (l ++ r) : DR) = if l.all (fun c => decide (48 ≤ c) && decide (c ≤ 57)) = true then forL st_law_due_1 ([a ++ l, b], 0) r else .rt none
  | [], a, b, r, _ => by rw [List.append_nil]; rfl
  | x :: l, a, b, r, h => by
    have hx : x ≠ 46 := fun e => h (by rw [e]; exact List.mem_cons_self)
    have hl : 46 ∉ l := fun m => h (List.mem_cons_of_mem _ m)
    rw [List.cons_append, forL_cons, st_is, if_neg hx, List.all_cons]
    by_cases d : 48 ≤ x ∧ x ≤ 57
    · rw [if_pos ⟨d, show (0 : Int) ≤ 1 by decide⟩]
      dsimp only
      rw [ix0, put0, run0 l _ _ r hl, decide_eq_true d.1, decide_eq_true d.2, List.append_assoc]
      rfl
    · rw [if_neg (fun z => d z.1), if_neg]
      intro z
      simp at z
      omega
theorem run1 : ∀ (l a b : List Nat), 46 ∉ l → (forL st_law_due_1 ([a, b], 1) l : DR) = if l.all (fun c => decide (48 ≤ c) && decide (c ≤ 57)) = true then .nx ([a, b ++ l], 1) else .rt none
  | [], a, b, _ => by rw [List.append_nil]; rfl
  | x :: l, a, b, h => by
    have hx : x ≠ 46 := fun e => h (by rw [e]; exact List.mem_cons_self)
    have hl : 46 ∉ l := fun m => h (List.mem_cons_of_mem _ m)
    rw [forL_cons, st_is, if_neg hx, List.all_cons]
    by_cases d : 48 ≤ x ∧ x ≤ 57
    · rw [if_pos ⟨d, show (1 : Int) ≤ 1 by decide⟩]
      dsimp only
      rw [ix1, put1, run1 l _ _ hl, decide_eq_true d.1, decide_eq_true d.2, List.append_assoc]
      rfl
    · rw [if_neg (fun z => d z.1), if_neg]
      intro z
      simp at z
      omega
theorem find_dig : ∀ c : Nat, 48 ≤ c ∧ c ≤ 57 → findL [48, 49, 50, 51, 52, 53, 54, 55, 56, 57] [c] = (c : Int) - 48 := by
  have key : ∀ d : Fin 10, findL [48, 49, 50, 51, 52, 53, 54, 55, 56, 57] [48 + d.val] = (d.val : Int) := by decide +kernel
  intro c h
  have := key ⟨c - 48, by omega⟩
  rw [show 48 + (c - 48) = c by omega] at this
  rw [this]
  show ((c - 48 : Nat) : Int) = _
  omega
theorem num_fold : ∀ (l : List Nat) (t : Nat), AllDigits l → (forL st_law_number_1 (t : Int) l : Out Empty Int Empty Int) = .nx ((l.foldl (fun acc c => acc * 10 + (c - 48)) t : Nat) : Int)
  | [], t, _ => rfl
  | c :: l, t, h => by
    have hc := h c List.mem_cons_self
    rw [forL_cons]
    unfold st_law_number_1 letV
    dsimp only
    rw [find_dig c hc, show 10 * (t : Int) + ((c : Int) - 48) = ((t * 10 + (c - 48) : Nat) : Int) by omega]
    exact num_fold l _ fun x hx => h x (List.mem_cons_of_mem _ hx)
theorem number_is {l : List Nat} (h : AllDigits l) : m_law_number l = (digitsVal l : Int) := by
  unfold m_law_number b_law_number letV
  dsimp only
  have e := num_fold l 0 h
  rw [show ((0 : Nat) : Int) = 0 from rfl] at e
  rw [e]
  rfl
theorem zeros_val (l : List Nat) : ∀ k : Nat, digitsVal (l ++ List.replicate k 48) = digitsVal l * 10 ^ k
  | 0 => by simp
  | k + 1 => by
    rw [List.replicate_succ', ← List.append_assoc, show (48 : Nat) = 48 + 0 from rfl, val_snoc, show (48 + 0 : Nat) = 48 from rfl, zeros_val l k, Nat.pow_succ, Nat.mul_assoc]
    omega
theorem times10 : ∀ (k : Nat) (t : Int) (xs : List Int), xs.length = k → (forL st_law_due_2 t xs : Out Empty Int Empty (Option Int)) = .nx (t * 10 ^ k)
  | 0, t, xs, h => by
    rw [List.eq_nil_of_length_eq_zero h]
    simp [forL]
  | k + 1, t, [], h => by simp at h
  | k + 1, t, x :: xs, h => by
    rw [forL_cons]
    unfold st_law_due_2 letV
    dsimp only
    show (forL st_law_due_2 (10 * t) xs : Out Empty Int Empty (Option Int)) = _
    rw [times10 k _ xs (by simpa using h), Int.pow_succ, Int.mul_comm 10 t, Int.mul_assoc, Int.mul_comm 10]
theorem val_ge : ∀ (l : List Nat) (a : Nat), a * 10 ^ l.length ≤ l.foldl (fun acc c => acc * 10 + (c - 48)) a
  | [], a => by simp
  | c :: l, a => by
    rw [List.foldl_cons, List.length_cons, Nat.pow_succ]
    refine Nat.le_trans ?_ (val_ge l _)
    rw [Nat.mul_comm (10 ^ l.length) 10, ← Nat.mul_assoc]
    exact Nat.mul_le_mul_right _ (by omega)
theorem val_lead {c : Nat} {l : List Nat} (h : 49 ≤ c) : 10 ^ l.length ≤ digitsVal (c :: l) := by
  unfold digitsVal
  rw [List.foldl_cons]
  refine Nat.le_trans ?_ (val_ge l _)
  exact Nat.le_mul_of_pos_left _ (by omega)
/-- how reading ends -/
def fin (neg : Bool) (v : Int) : Option Int := if 1000000000000 < v then none else if (neg && decide (v = 0)) = true then none else some (if neg = true then 0 - v else v)
/-- what the law does behind the scan -/
def rest (D : Int) (neg : Bool) (s : List (List Nat) × Int) : Option Int :=
  if ((decide ((ixg s.1 0) = ([] : List Nat))) || (((!decide ((ixg s.1 0) = [48])) && (decide ([(ixg (ixg s.1 0) 0)] = [48]))) || (decide (1 < s.2)))) = true then none else
        if ((decide (s.2 = 1)) && ((decide ((ixg s.1 1) = ([] : List Nat))) || (decide (D < ((ixg s.1 1).length : Int))))) = true then none else
          fin neg (m_law_number ((ixg s.1 0) ++ (ixg s.1 1)) * 10 ^ (D - ((ixg s.1 1).length : Int)).toNat)
theorem due_form {text : List Nat} {D : Int} (hl : text.length ≤ 60) : m_law_due text D = (match (forL st_law_due_1 ([[], []], 0) (if cutL text none (some 1) = [45] then cutL text (some 1) none else text) : DR) with
    | .nx s => rest D (decide (cutL text none (some 1) = [45])) s
    | .rt r => r
    | _ => none) := by
  have e2 : cutL text (some 1) none = text.drop 1 := cutL_from _ (by decide)
  have ne : cutL text none (some 1) = [45] → ¬ (cutL text (some 1) none = text) := fun h z => by
    rw [cutL_up _ (by decide)] at h
    have l := congrArg List.length z
    rw [e2, List.length_drop] at l
    have : 0 < text.length := by
      cases text with
      | nil => cases h
      | cons _ _ => simp
    omega
  unfold m_law_due b_law_due letV
  rw [if_neg (by simp; omega)]
  dsimp only
  have fn : ∀ (b : List Nat) (neg : Bool), (!decide (b = text)) = neg → ((forL st_law_due_1 ([[], []], 0) b : Out Empty (List (List Nat) × Int) Empty (Option Int)).bind fun z28 =>
      if ((decide ((ixg z28.1 0) = ([] : List Nat))) || (((!decide ((ixg z28.1 0) = [48])) && (decide ([(ixg (ixg z28.1 0) 0)] = [48]))) || (decide (1 < z28.2)))) = true then (.rt none : Out Empty Unit Empty (Option Int)) else
        if ((decide (z28.2 = 1)) && ((decide ((ixg z28.1 1) = ([] : List Nat))) || (decide (D < ((ixg z28.1 1).length : Int))))) = true then (.rt none) else
            (forL (st_law_due_2) (m_law_number ((ixg z28.1 0) ++ (ixg z28.1 1))) (rng 0 (D - ((ixg z28.1 1).length : Int)))).bind fun z71 =>
            if ((decide (1000000000000 < z71)) || ((!decide (b = text)) && (decide (z71 = 0)))) = true then (.rt none) else
              if (!decide (b = text)) = true then (.rt (some (0 - z71))) else
                .rt (some z71)).val = (match (forL st_law_due_1 ([[], []], 0) b : DR) with
    | .nx s => rest D neg s
    | .rt r => r
    | _ => none) := by
    intro b neg hb
    rcases points b ([[], []], 0) with h | ⟨s, h, _⟩
    · rw [h]
      rfl
    · rw [h]
      simp only [Out.bind_nx]
      unfold rest
      split
      · rfl
      · split
        · rfl
        · rw [times10 _ _ _ (by rw [rng_length]), hb]
          simp only [Out.bind_nx]
          rw [Int.sub_zero]
          generalize m_law_number (ixg s.1 0 ++ ixg s.1 1) * 10 ^ (D - ((ixg s.1 1).length : Int)).toNat = v
          unfold fin
          by_cases c1 : 1000000000000 < v
          · rw [if_pos (by simp [c1]), if_pos c1]
            rfl
          · rw [if_neg c1]
            by_cases c2 : (neg && decide (v = 0)) = true
            · rw [if_pos (by rw [c2]; simp), if_pos c2]
              rfl
            · rw [if_neg (by rw [decide_eq_false c1, Bool.false_or]; exact c2), if_neg c2]
              cases neg <;> rfl
  by_cases c : cutL text none (some 1) = [45]
  · rw [if_pos (by simpa using c), if_pos c, decide_eq_true c]
    exact fn _ true (by rw [decide_eq_false (ne c)]; rfl)
  · rw [if_neg (by simpa using c), if_neg c, decide_eq_false c]
    exact fn _ false (by rw [decide_eq_true rfl]; rfl)
/-- an outcome, from what may be none -/
def toE (o : Option Int) : Except (_root_.Fin 7) Int := match o with
  | none => .error 0
  | some v => .ok v
/-- what reading does with the parts -/
def tail (D : Int) (neg : Bool) (t : List Nat × List Nat × List Nat) : Option Int :=
  if digB t.1 = false then none else if ((decide ([(ixg t.1 0)] = [48])) && (decide (1 < (t.1.length : Int)))) = true then none else
    if ((decide (t.2.1 = [46])) && (!((decide (1 ≤ (t.2.2.length : Int)) && decide ((t.2.2.length : Int) ≤ D)) && ((digB t.2.2))))) = true then none else fin neg (numT (t.1 ++ (ljL t.2.2 D [48])))
theorem parse_form {text : List Nat} {D : Int} (hD : 0 ≤ D ∧ D ≤ 3) : m_parse_amount text D = if 17 < (if cutL text none (some 1) = [45] then cutL text (some 1) none else text).length then .error 0 else
    toE (tail D (decide (cutL text none (some 1) = [45])) (partL (if cutL text none (some 1) = [45] then cutL text (some 1) none else text) [46])) := by
  unfold m_parse_amount b_parse_amount letV
  rw [dig_ok hD]
  simp only [callE_ok, decide_eq_true_eq]
  generalize (if cutL text none (some 1) = [45] then cutL text (some 1) none else text) = body
  by_cases c : 17 < body.length
  · rw [if_pos (by omega), if_pos c]
    rfl
  · rw [if_neg (by omega), if_neg c]
    generalize partL body [46] = t
    unfold tail m_check_whole b_check_whole
    cases hd : digB t.1 with
    | false => rfl
    | true =>
      rw [if_neg (show ¬ ((!true) = true) by decide), if_neg (show ¬ (true = false) by decide)]
      by_cases c1 : ((decide ([(ixg t.1 0)] = [48])) && (decide (1 < (t.1.length : Int)))) = true
      · rw [if_pos c1, if_pos c1]
        rfl
      · rw [if_neg c1, if_neg c1]
        simp only [Out.res_nx, callE_ok]
        by_cases c2 : ((decide (t.2.1 = [46])) && (!((decide (1 ≤ (t.2.2.length : Int)) && decide ((t.2.2.length : Int) ≤ D)) && ((digB t.2.2))))) = true
        · rw [if_pos c2, if_pos c2]
          rfl
        · rw [if_neg c2, if_neg c2]
          generalize numT (t.1 ++ (ljL t.2.2 D [48])) = v
          unfold fin
          by_cases c3 : 1000000000000 < v
          · rw [if_pos c3, if_pos c3]
            rfl
          · rw [if_neg c3, if_neg c3]
            by_cases c4 : (decide (cutL text none (some 1) = [45]) && decide (v = 0)) = true
            · rw [if_pos c4, if_pos c4]
              rfl
            · rw [if_neg c4, if_neg c4]
              simp [Out.res, toE]
/-- the parts agree -/
theorem fin_ok {D : Int} {neg : Bool} {p q : List Nat} (hD : 0 ≤ D ∧ D ≤ 3) (hp : AllDigits p) (hq : AllDigits q) (hn : p ≠ []) (hl : (q.length : Int) ≤ D) :
    m_law_number (p ++ q) * 10 ^ (D - (q.length : Int)).toNat = (digitsVal (p ++ (q ++ List.replicate (D.toNat - q.length) 48)) : Int) ∧
    (p.length ≤ 100 → numT (p ++ ljL q D [48]) = (digitsVal (p ++ (q ++ List.replicate (D.toNat - q.length) 48)) : Int)) := by
  have hpq : AllDigits (p ++ q) := fun c hc => (List.mem_append.mp hc).elim (hp c) (hq c)
  constructor
  · rw [number_is hpq, ← List.append_assoc, zeros_val, show (D - (q.length : Int)).toNat = D.toNat - q.length by omega]
    rw [Int.natCast_mul, Int.natCast_pow]
    rfl
  · intro h
    rw [lj_is]
    refine numT_dig (fun c hc => ?_) (by simp [hn]) (by rw [List.length_append, List.length_append, List.length_replicate]; omega)
    rw [← List.append_assoc] at hc
    rcases List.mem_append.mp hc with hc | hc
    · exact hpq c hc
    · rw [List.eq_of_mem_replicate hc]
      omega
theorem big_none {D : Int} {neg : Bool} {p q : List Nat} (hp : AllDigits p) (hlead : (((!decide (p = [48])) && (decide ([(ixg p 0)] = [48])))) = false) (h14 : 14 ≤ p.length) : fin neg (digitsVal (p ++ (q ++ List.replicate (D.toNat - q.length) 48)) : Int) = none := by
  cases p with
  | nil => simp at h14
  | cons c r =>
    have hc := hp c List.mem_cons_self
    have e : ixg (c :: r) 0 = c := by rw [ixg_nat (Int.le_refl 0) (by rw [List.length_cons]; omega)]; rfl
    rw [e] at hlead
    have h49 : 49 ≤ c := by
      by_cases z : c = 48
      · exfalso
        rw [z] at hlead
        rw [decide_eq_false (fun w => by rw [(List.cons.inj w).2] at h14; simp at h14)] at hlead
        simp at hlead
      · omega
    have v := val_lead (l := r ++ (q ++ List.replicate (D.toNat - q.length) 48)) h49
    have l13 : 13 ≤ (r ++ (q ++ List.replicate (D.toNat - q.length) 48)).length := by
      rw [List.length_cons] at h14
      rw [List.length_append]
      omega
    have v2 : 10 ^ 13 ≤ 10 ^ (r ++ (q ++ List.replicate (D.toNat - q.length) 48)).length := Nat.pow_le_pow_right (by decide) l13
    unfold fin
    rw [if_pos]
    rw [List.cons_append]
    omega
theorem lead_eq (p : List Nat) (hp : p ≠ []) : ((decide ([(ixg p 0)] = [48])) && (decide (1 < (p.length : Int)))) = ((!decide (p = [48])) && (decide ([(ixg p 0)] = [48]))) := by
  cases p with
  | nil => exact absurd rfl hp
  | cons c r =>
    have e : ixg (c :: r) 0 = c := by rw [ixg_nat (Int.le_refl 0) (by rw [List.length_cons]; omega)]; rfl
    rw [e]
    by_cases z : c = 48
    · subst z
      cases r with
      | nil => rfl
      | cons a r =>
        have l : decide ((1 : Int) < (((48 :: a :: r : List Nat).length : Nat) : Int)) = true := by
          rw [decide_eq_true_eq, List.length_cons, List.length_cons]
          omega
        rw [l]
        simp
    · rw [decide_eq_false (fun w : [c] = [48] => z (List.cons.inj w).1)]
      simp
/-- what the parts give, on both sides -/
theorem parts_ok {D : Int} {neg : Bool} {p pt q : List Nat} {k : Int} (hD : 0 ≤ D ∧ D ≤ 3) (hp : AllDigits p) (hq : AllDigits q) (hk : (pt = [] ∧ q = [] ∧ k = 0) ∨ (pt = [46] ∧ k = 1)) :
    (p.length ≤ 100 → tail D neg (p, pt, q) = rest D neg ([p, q], k)) ∧ (14 ≤ p.length ∨ ¬ (q.length : Int) ≤ D → rest D neg ([p, q], k) = none) := by
  have k2 : decide (1 < k) = false := by
    rcases hk with ⟨_, _, rfl⟩ | ⟨_, rfl⟩ <;> rfl
  by_cases hn : p = []
  · subst hn
    refine ⟨fun _ => ?_, fun _ => ?_⟩
    · unfold tail rest
      rw [if_pos (by rfl), if_pos (by rw [show ixg [[], q] 0 = [] from rfl]; rfl)]
    · unfold rest
      rw [if_pos (by rw [show ixg [[], q] 0 = [] from rfl]; rfl)]
  · have dp := digB_of hp hn
    by_cases hlead : ((!decide (p = [48])) && (decide ([(ixg p 0)] = [48]))) = true
    · have r0 : rest D neg ([p, q], k) = none := by
        unfold rest
        rw [if_pos]
        show ((decide (p = [])) || (((!decide (p = [48])) && (decide ([(ixg p 0)] = [48]))) || decide (1 < k))) = true
        rw [hlead]
        simp
      refine ⟨fun _ => ?_, fun _ => r0⟩
      rw [r0]
      unfold tail
      rw [if_neg (by rw [show (p, pt, q).1 = p from rfl, dp]; decide), if_pos (by rw [show (p, pt, q).1 = p from rfl, lead_eq p hn]; exact hlead)]
    · have hl0 : ((!decide (p = [48])) && (decide ([(ixg p 0)] = [48]))) = false := by simpa using hlead
      have c1 : ¬ (((decide (p = [])) || (((!decide (p = [48])) && (decide ([(ixg p 0)] = [48]))) || decide (1 < k))) = true) := by
        rw [hl0, k2, decide_eq_false hn]
        decide
      have qle : (q.length : Int) ≤ D ∨ ¬ (q.length : Int) ≤ D := Classical.em _
      have rr : rest D neg ([p, q], k) = if ((decide (k = 1)) && ((decide (q = [])) || (decide (D < (q.length : Int))))) = true then none else fin neg (m_law_number (p ++ q) * 10 ^ (D - (q.length : Int)).toNat) := by
        unfold rest
        exact if_neg c1
      have tt : tail D neg (p, pt, q) = if ((decide (pt = [46])) && (!((decide (1 ≤ (q.length : Int)) && decide ((q.length : Int) ≤ D)) && ((digB q))))) = true then none else fin neg (numT (p ++ (ljL q D [48]))) := by
        unfold tail
        rw [if_neg (by rw [show (p, pt, q).1 = p from rfl, dp]; decide), if_neg (by rw [show (p, pt, q).1 = p from rfl, lead_eq p hn, hl0]; decide)]
      have cc : ((decide (pt = [46])) && (!((decide (1 ≤ (q.length : Int)) && decide ((q.length : Int) ≤ D)) && ((digB q))))) = ((decide (k = 1)) && ((decide (q = [])) || (decide (D < (q.length : Int))))) := by
        rcases hk with ⟨rfl, rfl, rfl⟩ | ⟨rfl, rfl⟩
        · rfl
        · by_cases z : q = []
          · subst z
            rfl
          · have l1 : 0 < q.length := List.length_pos_iff.mpr z
            rw [digB_of hq z, decide_eq_false z, decide_eq_true (show 1 ≤ (q.length : Int) by omega)]
            by_cases w : (q.length : Int) ≤ D
            · rw [decide_eq_true w, decide_eq_false (show ¬ D < (q.length : Int) by omega)]
              rfl
            · rw [decide_eq_false w, decide_eq_true (show D < (q.length : Int) by omega)]
              rfl
      rw [rr, tt, cc]
      by_cases c2 : ((decide (k = 1)) && ((decide (q = [])) || (decide (D < (q.length : Int))))) = true
      · rw [if_pos c2, if_pos c2]
        exact ⟨fun _ => rfl, fun _ => rfl⟩
      · rw [if_neg c2, if_neg c2]
        have ql : (q.length : Int) ≤ D := by
          rcases hk with ⟨_, rfl, _⟩ | ⟨_, rfl⟩
          · show (0 : Int) ≤ D
            exact hD.1
          · simp at c2
            omega
        have f := fin_ok (neg := neg) hD hp hq hn ql
        rw [f.1]
        refine ⟨fun h => by rw [f.2 h], fun h => ?_⟩
        rcases h with h | h
        · exact big_none hp hl0 h
        · exact absurd ql h
theorem main {text : List Nat} {D : Int} (ha : ∀ c ∈ text, c < 128) (hD : 0 ≤ D ∧ D ≤ 3) : m_parse_amount text D = toE (m_law_due text D) := by
  rw [parse_form hD]
  by_cases hl : text.length ≤ 60
  · rw [due_form hl]
    generalize hng : decide (cutL text none (some 1) = [45]) = neg
    have hb : (if cutL text none (some 1) = [45] then cutL text (some 1) none else text).length ≤ 60 ∧ ∀ c ∈ (if cutL text none (some 1) = [45] then cutL text (some 1) none else text), c < 128 := by
      split
      · exact ⟨Nat.le_trans (cutL_le _ _ _) hl, cut_asc ha⟩
      · exact ⟨hl, ha⟩
    generalize (if cutL text none (some 1) = [45] then cutL text (some 1) none else text) = body at *
    have nodig : ∀ l : List Nat, (∀ c ∈ l, c < 128) → ¬ (l.all (fun c => decide (48 ≤ c) && decide (c ≤ 57)) = true) → digB l = false := fun l h1 h2 => by
      rw [digB_is h1]
      cases hx : l.all (fun c => decide (48 ≤ c) && decide (c ≤ 57)) with
      | true => exact absurd hx h2
      | false => rw [Bool.and_false]
    have dig : ∀ l : List Nat, l.all (fun c => decide (48 ≤ c) && decide (c ≤ 57)) = true → AllDigits l := fun l h c hc => by
      have := List.all_eq_true.mp h c hc
      simp at this
      omega
    rcases part_or body 46 with ⟨h46, e⟩ | ⟨p, q, eb, h46, e⟩
    · have rn := run0 body [] [] [] h46
      rw [List.append_nil] at rn
      rw [rn, e]
      by_cases c : body.all (fun c => decide (48 ≤ c) && decide (c ≤ 57)) = true
      · rw [if_pos c]
        show (if 17 < body.length then Except.error 0 else toE (tail D neg (body, [], []))) = toE (rest D neg ([body, []], 0))
        have pk := parts_ok (neg := neg) (pt := []) (k := 0) hD (dig body c) (q := []) (fun c hc => nomatch hc) (.inl ⟨rfl, rfl, rfl⟩)
        by_cases b : 17 < body.length
        · rw [if_pos b, pk.2 (.inl (by omega))]
          rfl
        · rw [if_neg b, pk.1 (by omega)]
      · rw [if_neg c]
        have t0 : tail D neg (body, [], []) = none := if_pos (nodig body hb.2 c)
        rw [t0]
        split <;> rfl
    · have hp : ∀ c ∈ p, c < 128 := fun c hc => hb.2 c (by rw [eb]; exact List.mem_append_left _ hc)
      have hq : ∀ c ∈ q, c < 128 := fun c hc => hb.2 c (by rw [eb]; exact List.mem_append_right _ (List.mem_cons_of_mem _ hc))
      have hlen : body.length = p.length + (q.length + 1) := by rw [eb, List.length_append, List.length_cons]
      have rn := run0 p [] [] (46 :: q) h46
      rw [← eb] at rn
      rw [rn, e]
      by_cases c : p.all (fun c => decide (48 ≤ c) && decide (c ≤ 57)) = true
      · rw [if_pos c, forL_cons, st_is, if_pos rfl]
        show (if 17 < body.length then Except.error 0 else toE (tail D neg (p, [46], q))) = toE (match (forL st_law_due_1 ([p, []], 1) q : DR) with
    | .nx s => rest D neg s
    | .rt r => r
    | _ => none)
        have bad : ¬ (q.all (fun c => decide (48 ≤ c) && decide (c ≤ 57)) = true) → tail D neg (p, [46], q) = none := fun h => by
          unfold tail
          split
          · rfl
          · split
            · rfl
            · rw [if_pos (by rw [show (p, [46], q).2.2 = q from rfl, nodig q hq h]; simp)]
        by_cases m : 46 ∈ q
        · have nd : ¬ (q.all (fun c => decide (48 ≤ c) && decide (c ≤ 57)) = true) := fun h => by
            have := dig q h 46 m
            omega
          have r0 : (match (forL st_law_due_1 ([p, []], 1) q : DR) with
    | .nx s => rest D neg s
    | .rt r => r
    | _ => none) = none := by
            rcases points q ([p, []], 1) with h | ⟨s', h1, h2, h3⟩
            · rw [h]
            · rw [h1]
              show rest D neg s' = none
              unfold rest
              rw [if_pos]
              have : 1 < s'.2 := by have := h3 m; dsimp only at this; omega
              rw [decide_eq_true this]
              simp
          rw [r0, bad nd]
          split <;> rfl
        · rw [run1 q p [] m]
          by_cases d : q.all (fun c => decide (48 ≤ c) && decide (c ≤ 57)) = true
          · rw [if_pos d]
            show (if 17 < body.length then Except.error 0 else toE (tail D neg (p, [46], q))) = toE (rest D neg ([p, q], 1))
            have pk := parts_ok (neg := neg) (pt := [46]) (k := 1) hD (dig p c) (dig q d) (.inr ⟨rfl, rfl⟩)
            by_cases b : 17 < body.length
            · rw [if_pos b, pk.2 (by omega)]
              rfl
            · rw [if_neg b, pk.1 (by omega)]
          · rw [if_neg d, bad d]
            split <;> rfl
      · rw [if_neg c]
        have t0 : tail D neg (p, [46], q) = none := if_pos (nodig p hp c)
        rw [t0]
        split <;> rfl
  · have d0 : m_law_due text D = none := by
      unfold m_law_due b_law_due
      rw [if_pos (by simp; omega)]
      rfl
    have hb : 17 < (if cutL text none (some 1) = [45] then cutL text (some 1) none else text).length := by
      split
      · rw [cutL_from _ (by decide), List.length_drop]
        have : (1 : Int).toNat = 1 := rfl
        omega
      · omega
    rw [if_pos hb, d0]
    rfl
theorem turn_ok (x : Int) : st_law_1 () x = .nx () := by
  have hN : Nums 32 (m_law_numbers x 32) := J.nums x 32
  have h31 := hN.bd 31
  unfold st_law_1 letV
  dsimp only
  generalize m_law_numbers x 32 = ns at *
  have hD : 0 ≤ ixg ns 31 % 4 ∧ ixg ns 31 % 4 ≤ 3 := by omega
  generalize ixg ns 31 % 4 = D at *
  have ta := text_asc hN hD
  have m := main ta.2 hD
  generalize m_law_text ns D = text at *
  cases hd : m_law_due text D with
  | none =>
    rw [hd] at m
    have t : m_law_told text D = ([114, 97, 105, 115, 101, 100], [(Sum.inr [66, 97, 100, 86, 97, 108, 117, 101])]) := by
      unfold m_law_told b_law_told
      rw [m]
      decide
    rw [t, if_neg (by simp), if_neg (by simp)]
  | some v =>
    rw [hd] at m
    have t : m_law_told text D = ([114, 101, 97, 100], [(Sum.inl v)]) := by
      unfold m_law_told b_law_told
      rw [m]
      rfl
    rw [t, if_neg (by simp), if_neg (by simp [oGet])]
theorem law_true (ns : List Int) : m_law ns = true := by
  unfold m_law b_law
  rw [forL_unit fun x _ => turn_ok x]
  rfl
end Ck03

namespace Ck03
open PySem L2 PyProof.Rows J
abbrev s_law_numbers : Stmt := PySem.Challenge.pw_corebank_k03_whole_parse.main.body.getD 15 (.Pass ⟨0, 0, 0, 0⟩)
abbrev N_law_numbers : List Str := ["_law_cell", "_law_count", "_law_rest", "_law_numbers_here", "_law_k", "_law_mixed"]
theorem sc_law_numbers : FnScope ["_law_cell", "_law_count", "_law_rest", "_law_numbers_here", "_law_k", "_law_mixed"] ["_law_cell", "_law_count"] (defScope s_law_numbers) := ⟨rfl, rfl, rfl, by decide +kernel, rfl, by decide +kernel, by decide +kernel⟩
theorem ok_law_numbers {P : Program} {w : World} {K : PySem.W.Frag} {mg : Str → Option Value} {base : Heap} {f : Addr} {fd : FuncData} (F : Fun K "_law_numbers" "_law_numbers" s_law_numbers f fd) (b : Binds K fd ["_law_cell", "_law_count"] []) (hmg : mg "_law_numbers" = some (.ref f)) {adr : _root_.Fin 7 → Addr} {B0 : Addr} (Er : Errs K mg nm_ adr B0) (m_int : mg "int" = none) (m_range : mg "range" = none) :
    Fn0 P w K mg base CX0 1 "_law_numbers" 2 (sp_law_numbers K) := by
  have hsl := sizeLine_eq
  refine fn_mk F sc_law_numbers b hmg (fun i : (Int × Int) => b_law_numbers i.1 i.2) (fun i G vs h => ?_) (fun cdv A outer s H E i G cs vs hr hp => ?_)
  · obtain ⟨v0_, v1_, h, _⟩ := h
    rw [h]
    rfl
  obtain ⟨cell_, count_⟩ := i
  obtain ⟨v0_, v1_, rfl, h0_, h1_, hpre⟩ := hp
  cases h0_
  cases h1_
  show B _ _ _ [some (.int cell_), some (.int count_), none, none, none, none] G cs _ (b_law_numbers cell_ count_)
  unfold b_law_numbers
  try dsimp only at hpre
  refine b_setV (r := rI) 2 sc_law_numbers.nd d_int (fun rest_1 erest_1 v3 Gs2 s2 h4 => ?_)
  cases h4
  refine b_if (S' := (Int)) (fun (z7 : (Int)) σ_ G_ cs_ => ∃ o8 : Option V, ∃ o9 : Option V, ∃ o10 : Option V, σ_ = [some (.int cell_), some (.int count_), some (.int z7), o8, o9, o10] ∧ cs = cs_) (t_cmp op_ge (nomark _) (d_var 0 (P := rI cell_) rfl rfl) (d_pow (z := 1000000000000000000) d_int d_int ⟨by decide, by decide, by decide⟩ (by decide +kernel)) fun _ _ _ _ _ _ hx hy _ q => c_ge hx hy q) ?_ ?_ ?_
  · intro hc5 Gs6 s6
    have dhc5 := hc5
    try simp only [decide_eq_true_eq, decide_eq_false_iff_not, Bool.and_eq_true, Bool.and_eq_false_imp, Bool.or_eq_true, Bool.or_eq_false_iff, Bool.not_eq_true', Bool.not_eq_false', Bool.not_not, ne_eq, Int.not_lt, Int.not_le] at dhc5
    refine b_setV (r := rI) 2 sc_law_numbers.nd (d_fdiv (d_var 0 (P := rI cell_) rfl rfl) (d_pow (z := 1000000000000000000) d_int d_int ⟨by decide, by decide, by decide⟩ (by decide +kernel)) (divW (by decide) (by decide +kernel))) (fun rest_11 erest_11 v13 Gs12 s12 h14 => ?_)
    cases h14
    exact b_nil (by refine ⟨_, _, _, rfl, rfl⟩)
  · intro hc5 Gs6 s6
    have dhc5 := hc5
    try simp only [decide_eq_true_eq, decide_eq_false_iff_not, Bool.and_eq_true, Bool.and_eq_false_imp, Bool.or_eq_true, Bool.or_eq_false_iff, Bool.not_eq_true', Bool.not_eq_false', Bool.not_not, ne_eq, Int.not_lt, Int.not_le] at dhc5
    exact b_nil (by refine ⟨_, _, _, rfl, rfl⟩)
  · intro z7 _ _ _ sz7 hNz7 hmz7
    obtain ⟨o8, o9, o10, rfl, rfl⟩ := hNz7
    refine b_setN 3 sc_law_numbers.nd (n_lst (r := rI) (xs := ([] : (List Int))) a_nil ls_n) (fun l16 us17 Gs18 s18 h19 => ?_)
    refine letV_intro (fun numbers_here_15 enumbers_here_15 => ?_)
    rw [← enumbers_here_15] at h19
    have nnumbers_here_15 : numbers_here_15.length = 0 := by rw [enumbers_here_15]; rfl
    refine b_for (f := (st_law_numbers_1 cell_)) (s0 := (z7, numbers_here_15)) (xs := (rng 0 count_)) (fun n_ (z20 : (Int × (List Int))) σ_ G_ cs_ => ∃ us23 : List V, ∃ o25 : Option V, ∃ o26 : Option V, σ_ = [some (.int cell_), some (.int count_), some (.int z20.1), some (.ref l16), o25, o26] ∧ (l16, HO.lst us23) :: cs = cs_ ∧ Rs rI G_ z20.2 us23 ∧ z20.2.length ≤ numbers_here_15.length + 1 * n_) (i_rng1 m_range (d_var 1 (P := rI count_) rfl rfl) (by omega) (by omega)) (tg_name 4 sc_law_numbers.nd) rfl PassesOwn.never ?_ ?_ ?_ ?_
    · intro _ s55
      exact ⟨_, _, _, rfl, rfl, (Rs.mono s55 h19), Nat.le_add_right _ _⟩
    · intro _ _ _ _ _ _
      trivial
    · intro pre_ x27 post_ z20 _ _ _ _ _ hxsz20 hrez20 s28 hNz20 s29 hSz20
      obtain ⟨us23, o25, o26, rfl, rfl, h24, hbz20⟩ := hNz20
      obtain ⟨v21, h22, rfl⟩ := hSz20
      have hltz20 : pre_.length < (rng 0 count_).length := by rw [hxsz20, List.length_append, List.length_cons]; omega
      have hmemz20 : x27 ∈ (rng 0 count_) := by rw [hxsz20]; exact List.mem_append_right _ List.mem_cons_self
      try simp only [rng_length, rng_mem, enumL_length] at hltz20 hmemz20
      show B _ _ _ _ _ _ _ (st_law_numbers_1 cell_ z20 x27)
      unfold st_law_numbers_1
      cases h22
      refine b_ifl (t_cmp op_gt (nomark _) (d_var 2 (P := rI z20.1) rfl rfl) d_int fun _ _ _ _ _ _ hx hy _ q => c_gt hx hy q) ?_ ?_
      · intro hc31 Gs32 s32
        have dhc31 := hc31
        try simp only [decide_eq_true_eq, decide_eq_false_iff_not, Bool.and_eq_true, Bool.and_eq_false_imp, Bool.or_eq_true, Bool.or_eq_false_iff, Bool.not_eq_true', Bool.not_eq_false', Bool.not_not, ne_eq, Int.not_lt, Int.not_le] at dhc31
        refine b_app 0 (P := rI (z20.1 % 10000000000000)) rfl (d_var 3 (P := rV (.ref l16)) rfl rfl) (d_mod (d_int1 m_int (d_var 2 (P := rI z20.1) rfl rfl)) (d_pow (z := 10000000000000) d_int d_int ⟨by decide, by decide, by decide⟩ (by decide +kernel)) (by decide)) (by have hq := Rs.length h24; omega) (fun v33 Gs34 s34 h35 => ?_)
        have h37 := Rs.snoc h35 (Rs.mono (s29.trans (s32.trans s34)) h24)
        refine letV_intro (fun numbers_here_36 enumbers_here_36 => ?_)
        rw [← enumbers_here_36] at h37
        have nnumbers_here_36 : numbers_here_36.length = z20.2.length + 1 := by rw [enumbers_here_36, List.length_append]; rfl
        refine b_setV (r := rI) 2 sc_law_numbers.nd (d_fdiv (d_var 2 (P := rI z20.1) rfl rfl) (d_pow (z := 10000000000000) d_int d_int ⟨by decide, by decide, by decide⟩ (by decide +kernel)) (divW (by decide) (by decide +kernel))) (fun rest_38 erest_38 v40 Gs39 s39 h41 => ?_)
        cases h41
        exact b_nil (by refine ⟨_, _, _, rfl, rfl, (Rs.mono s39 h37), by first | omega | (simp only [List.length_append, List.length_cons, List.length_nil] at *; omega)⟩)
      · intro hc31 Gs32 s32
        have dhc31 := hc31
        try simp only [decide_eq_true_eq, decide_eq_false_iff_not, Bool.and_eq_true, Bool.and_eq_false_imp, Bool.or_eq_true, Bool.or_eq_false_iff, Bool.not_eq_true', Bool.not_eq_false', Bool.not_not, ne_eq, Int.not_lt, Int.not_le] at dhc31
        refine b_setV (r := rI) 5 sc_law_numbers.nd (d_mod (d_int1 m_int (d_add (d_add (d_mul (d_var 0 (P := rI cell_) rfl rfl) d_int (.inr ⟨by omega, by omega⟩)) (d_mul (d_var 4 (P := rI x27) rfl rfl) d_int (.inr ⟨by omega, by omega⟩))) d_int)) d_int (by decide)) (fun mixed_42 emixed_42 v44 Gs43 s43 h45 => ?_)
        cases h45
        refine b_setV (r := rI) 5 sc_law_numbers.nd (d_mod (d_int1 m_int (d_add (d_add (d_mul (d_var 5 (P := rI mixed_42) rfl rfl) (d_var 5 (P := rI mixed_42) rfl rfl) (by first | exact .inr ⟨by omega, by omega⟩ | exact .inl ⟨by omega, by omega⟩)) (d_mul d_int (d_var 4 (P := rI x27) rfl rfl) (.inl ⟨by omega, by omega⟩))) d_int)) d_int (by decide)) (fun mixed_46 emixed_46 v48 Gs47 s47 h49 => ?_)
        cases h49
        refine b_app 0 (P := rI (((((mixed_46 * mixed_46) + mixed_46) % 2147483587) * 4001) + x27)) rfl (d_var 3 (P := rV (.ref l16)) rfl rfl) (d_add (d_mul (d_mod (d_int1 m_int (d_add (d_mul (d_var 5 (P := rI mixed_46) rfl rfl) (d_var 5 (P := rI mixed_46) rfl rfl) (by first | exact .inr ⟨by omega, by omega⟩ | exact .inl ⟨by omega, by omega⟩)) (d_var 5 (P := rI mixed_46) rfl rfl))) d_int (by decide)) d_int (.inr ⟨by omega, by omega⟩)) (d_var 4 (P := rI x27) rfl rfl)) (by have hq := Rs.length h24; omega) (fun v50 Gs51 s51 h52 => ?_)
        have h54 := Rs.snoc h52 (Rs.mono (s29.trans (s32.trans (s43.trans (s47.trans s51)))) h24)
        refine letV_intro (fun numbers_here_53 enumbers_here_53 => ?_)
        rw [← enumbers_here_53] at h54
        have nnumbers_here_53 : numbers_here_53.length = z20.2.length + 1 := by rw [enumbers_here_53, List.length_append]; rfl
        exact b_nil (by refine ⟨_, _, _, rfl, rfl, h54, by first | omega | (simp only [List.length_append, List.length_cons, List.length_nil] at *; omega)⟩)
    · intro n_ z20 _ _ _ hnz20 s56 hNz20 hfz20
      obtain ⟨us23, o25, o26, rfl, rfl, h24, hbz20⟩ := hNz20
      try simp only [rng_length, enumL_length] at hnz20
      have hzs57 := h24
      refine b_freeze 0 rfl (fun s57 h58 => ?_)
      have kh58 : (rL K rI) z20.2 _ (.ref l16) := ⟨_, _, rfl, SqL.of h58, Rs.mono s57 hzs57⟩
      exact b_ret (P := (rL K rI) z20.2) (d_var 3 (P := (rL K rI) z20.2) rfl kh58) (fun _ _ _ h => ⟨⟨[], rfl⟩, h⟩)
end Ck03

namespace Ck03
open PySem L2 PyProof.Rows J
abbrev s_law_sign : Stmt := PySem.Challenge.pw_corebank_k03_whole_parse.main.body.getD 17 (.Pass ⟨0, 0, 0, 0⟩)
abbrev N_law_sign : List Str := ["_law_number_here", "_law_few", "_law_signs"]
theorem sc_law_sign : FnScope ["_law_number_here", "_law_few", "_law_signs"] ["_law_number_here", "_law_few"] (defScope s_law_sign) := ⟨rfl, rfl, rfl, by decide +kernel, rfl, by decide +kernel, by decide +kernel⟩
theorem ok_law_sign {P : Program} {w : World} {K : PySem.W.Frag} {mg : Str → Option Value} {base : Heap} {f : Addr} {fd : FuncData} (F : Fun K "_law_sign" "_law_sign" s_law_sign f fd) (b : Binds K fd ["_law_number_here", "_law_few"] []) (hmg : mg "_law_sign" = some (.ref f)) {adr : _root_.Fin 7 → Addr} {B0 : Addr} (Er : Errs K mg nm_ adr B0) (m_len : mg "len" = none) :
    Fn0 P w K mg base CX0 1 "_law_sign" 2 (sp_law_sign K) := by
  have hsl := sizeLine_eq
  refine fn_mk F sc_law_sign b hmg (fun i : (Int × Bool) => b_law_sign i.1 i.2) (fun i G vs h => ?_) (fun cdv A outer s H E i G cs vs hr hp => ?_)
  · obtain ⟨v0_, v1_, h, _⟩ := h
    rw [h]
    rfl
  obtain ⟨number_here_, few_⟩ := i
  obtain ⟨v0_, v1_, rfl, h0_, h1_⟩ := hp
  cases h0_
  cases h1_
  show B _ _ _ [some (.int number_here_), some (.bl few_), none] G cs _ (b_law_sign number_here_ few_)
  unfold b_law_sign
  refine b_setV (r := rS) 2 sc_law_sign.nd (d_str (l := [32, 33, 34, 35, 36, 38, 39, 40, 41, 42, 43, 44, 45, 46, 47, 48, 49, 50, 51, 52, 53, 54, 55, 56, 57, 58, 59, 60, 61, 62, 63, 64, 65, 66, 67, 68, 69, 70, 71, 72, 73, 74, 75, 76, 77, 78, 79, 80, 81, 82, 83, 84, 85, 86, 87, 88, 89, 90, 91, 92, 93, 94, 95, 96]) (by decide +kernel)) (fun signs_1 esigns_1 v3 Gs2 s2 h4 => ?_)
  cases h4
  have hl1 : signs_1.length = 64 := by rw [esigns_1]; rfl
  refine b_setV (r := rS) 2 sc_law_sign.nd (d_cat (d_var 2 (P := rS signs_1) rfl rfl) (d_str (l := [97, 98, 99, 100, 101, 102, 103, 104, 105, 106, 107, 108, 109, 110, 111, 112, 113, 114, 115, 116, 117, 118, 119, 120, 121, 122, 123, 124, 125, 126]) (by decide +kernel)) (by (simp only [List.length_cons, List.length_nil]; omega))) (fun signs_5 esigns_5 v7 Gs6 s6 h8 => ?_)
  cases h8
  have hl2 : signs_5.length = 94 := by rw [esigns_5, List.length_append, hl1]; rfl
  refine b_if (S' := ((List Nat))) (fun (z11 : ((List Nat))) σ_ G_ cs_ => σ_ = [some (.int number_here_), some (.bl few_), some (.str (SX.S z11))] ∧ cs = cs_) (t_val (d_var 1 (P := rB few_) rfl rfl)) ?_ ?_ ?_
  · intro hc9 Gs10 s10
    have dhc9 := hc9
    try simp only [decide_eq_true_eq, decide_eq_false_iff_not, Bool.and_eq_true, Bool.and_eq_false_imp, Bool.or_eq_true, Bool.or_eq_false_iff, Bool.not_eq_true', Bool.not_eq_false', Bool.not_not, ne_eq, Int.not_lt, Int.not_le] at dhc9
    refine b_setV (r := rS) 2 sc_law_sign.nd (d_str (l := [48, 49, 50, 51, 52, 53, 54, 55, 56, 57, 46, 45, 48, 48, 49, 57]) (by decide +kernel)) (fun signs_12 esigns_12 v14 Gs13 s13 h15 => ?_)
    cases h15
    have hl3 : signs_12.length = 16 := by rw [esigns_12]; rfl
    exact b_nil (by refine ⟨rfl, rfl⟩)
  · intro hc9 Gs10 s10
    have dhc9 := hc9
    try simp only [decide_eq_true_eq, decide_eq_false_iff_not, Bool.and_eq_true, Bool.and_eq_false_imp, Bool.or_eq_true, Bool.or_eq_false_iff, Bool.not_eq_true', Bool.not_eq_false', Bool.not_not, ne_eq, Int.not_lt, Int.not_le] at dhc9
    exact b_nil (by refine ⟨rfl, rfl⟩)
  · intro z11 _ _ _ sz11 hNz11 hmz11
    obtain ⟨rfl, rfl⟩ := hNz11
    have hjz11 : 0 < z11.length ∧ z11.length ≤ 100 := by (try unfold letV at hmz11); (try split at hmz11) <;> cases hmz11 <;> ((first | omega | (simp only [List.length_cons, List.length_nil]; omega)))
    exact b_ret (P := rS [(ixg z11 (number_here_ % (z11.length : Int)))]) (d_ixS (d_var 2 (P := rS z11) rfl rfl) (d_mod (d_var 0 (P := rI number_here_) rfl rfl) (d_lenS m_len (d_var 2 (P := rS z11) rfl rfl) (by first | omega | (simp; done) | (simp; omega))) (by omega)) (by first | omega | (simp; done) | (simp; omega)) (atI_ixg (by first | (constructor <;> omega) | (simp only [List.length_cons, List.length_nil]; constructor <;> omega) | exact ix_mod (by omega) | (simp only [decide_eq_true_eq, decide_eq_false_iff_not] at *; constructor <;> omega)))) (fun _ _ _ h => ⟨⟨[], rfl⟩, h⟩)
end Ck03

namespace Ck03
open PySem L2 PyProof.Rows J
abbrev s_law_any : Stmt := PySem.Challenge.pw_corebank_k03_whole_parse.main.body.getD 18 (.Pass ⟨0, 0, 0, 0⟩)
abbrev N_law_any : List Str := ["_law_numbers_here", "_law_few", "_law_text_here", "_law_k"]
theorem sc_law_any : FnScope ["_law_numbers_here", "_law_few", "_law_text_here", "_law_k"] ["_law_numbers_here", "_law_few"] (defScope s_law_any) := ⟨rfl, rfl, rfl, by decide +kernel, rfl, by decide +kernel, by decide +kernel⟩
theorem ok_law_any {P : Program} {w : World} {K : PySem.W.Frag} {mg : Str → Option Value} {base : Heap} {f : Addr} {fd : FuncData} (F : Fun K "_law_any" "_law_any" s_law_any f fd) (b : Binds K fd ["_law_numbers_here", "_law_few"] []) (hmg : mg "_law_any" = some (.ref f)) {adr : _root_.Fin 7 → Addr} {B0 : Addr} (Er : Errs K mg nm_ adr B0) (m_range : mg "range" = none) (F_law_sign : Fn0 P w K mg base CX0 1 "_law_sign" 2 (sp_law_sign K)) :
    Fn0 P w K mg base CX0 2 "_law_any" 2 (sp_law_any K) := by
  have hsl := sizeLine_eq
  refine fn_mk F sc_law_any b hmg (fun i : ((List Int) × Bool) => b_law_any i.1 i.2) (fun i G vs h => ?_) (fun cdv A outer s H E i G cs vs hr hp => ?_)
  · obtain ⟨v0_, v1_, h, _⟩ := h
    rw [h]
    rfl
  obtain ⟨numbers_here_, few_⟩ := i
  obtain ⟨v0_, v1_, rfl, h0_, h1_, hpre⟩ := hp
  cases h1_
  show B _ _ _ [some v0_, some (.bl few_), none, none] G cs _ (b_law_any numbers_here_ few_)
  unfold b_law_any
  try dsimp only at hpre
  have hlen := hpre.len
  refine b_setV (r := rS) 2 sc_law_any.nd (d_str (l := []) (by decide +kernel)) (fun text_here_1 etext_here_1 v3 Gs2 s2 h4 => ?_)
  cases h4
  refine b_for (f := (st_law_any_1 numbers_here_ few_)) (s0 := (text_here_1)) (xs := (rng 0 ((ixg numbers_here_ 1) % 21))) (fun n_ (z5 : ((List Nat))) σ_ G_ cs_ => ∃ o8 : Option V, σ_ = [some v0_, some (.bl few_), some (.str (SX.S z5)), o8] ∧ cs = cs_ ∧ (z5.length ≤ n_)) (i_rng1 m_range (d_mod (d_ixL (r := rI) (xs := numbers_here_) (i := 1) (x := (ixg numbers_here_ 1)) (D.imp (P := (rL K rI) numbers_here_) (d_var 0 (P := (rL K rI) numbers_here_) rfl (Mono.mono s2 h0_)) fun _ _ => rdL_of) d_int (atI_ixg (by first | (constructor <;> omega) | (simp only [List.length_cons, List.length_nil]; constructor <;> omega) | exact ix_mod (by omega) | (simp only [decide_eq_true_eq, decide_eq_false_iff_not] at *; constructor <;> omega)))) d_int (by decide)) (by omega) (by omega)) (tg_name 3 sc_law_any.nd) rfl PassesOwn.never ?_ ?_ ?_ ?_
  · intro _ s17
    exact ⟨_, rfl, rfl, by (subst_vars; simp)⟩
  · intro _ _ _ _ _ _
    trivial
  · intro pre_ x9 post_ z5 _ _ _ _ _ hxsz5 hrez5 s10 hNz5 s11 hSz5
    obtain ⟨o8, rfl, rfl, hbz5⟩ := hNz5
    obtain ⟨v6, h7, rfl⟩ := hSz5
    have hltz5 : pre_.length < (rng 0 ((ixg numbers_here_ 1) % 21)).length := by rw [hxsz5, List.length_append, List.length_cons]; omega
    have hmemz5 : x9 ∈ (rng 0 ((ixg numbers_here_ 1) % 21)) := by rw [hxsz5]; exact List.mem_append_right _ List.mem_cons_self
    try simp only [rng_length, rng_mem, enumL_length] at hltz5 hmemz5
    show B _ _ _ _ _ _ _ (st_law_any_1 numbers_here_ few_ z5 x9)
    unfold st_law_any_1
    cases h7
    refine b_setV (r := rS) 2 sc_law_any.nd (d_cat (d_var 2 (P := rS z5) rfl rfl) (d_callQ (P := rS (m_law_sign (ixg numbers_here_ (10 + x9)) few_)) ((ixg numbers_here_ (10 + x9)), few_) F_law_sign hr (by decide) (a_cons (P := rI (ixg numbers_here_ (10 + x9))) (d_ixL (r := rI) (xs := numbers_here_) (i := (10 + x9)) (x := (ixg numbers_here_ (10 + x9))) (D.imp (P := (rL K rI) numbers_here_) (d_var 0 (P := (rL K rI) numbers_here_) rfl (Mono.mono (s2.trans (s10.trans s11)) h0_)) fun _ _ => rdL_of) (d_add d_int (d_var 3 (P := rI x9) rfl rfl)) (atI_ixg (by first | (constructor <;> omega) | (simp only [List.length_cons, List.length_nil]; constructor <;> omega) | exact ix_mod (by omega) | (simp only [decide_eq_true_eq, decide_eq_false_iff_not] at *; constructor <;> omega)))) (a_cons (P := rB few_) (d_var 1 (P := rB few_) rfl rfl) a_nil)) (fun _ _ _ h => by obtain ⟨v0, w0, rfl, h0, v1, w1, rfl, h1, rfl⟩ := h; exact ⟨v0, v1, rfl, h0, h1⟩) fun _ _ h => h) (by (have q := (sign_is (ixg numbers_here_ (10 + x9)) few_).1; omega))) (fun text_here_13 etext_here_13 v15 Gs14 s14 h16 => ?_)
    cases h16
    exact b_nil (by refine ⟨_, rfl, rfl, by (subst_vars; have q := (sign_is (ixg numbers_here_ (10 + x9)) few_).1; simp only [List.length_append]; omega)⟩)
  · intro n_ z5 _ _ _ hnz5 s18 hNz5 hfz5
    obtain ⟨o8, rfl, rfl, hbz5⟩ := hNz5
    try simp only [rng_length, enumL_length] at hnz5
    exact b_ret (P := rS z5) (d_var 2 (P := rS z5) rfl rfl) (fun _ _ _ h => ⟨⟨[], rfl⟩, h⟩)
end Ck03

namespace Ck03
open PySem L2 PyProof.Rows J
abbrev s_law_written : Stmt := PySem.Challenge.pw_corebank_k03_whole_parse.main.body.getD 19 (.Pass ⟨0, 0, 0, 0⟩)
abbrev N_law_written : List Str := ["_law_amount", "_law_digits", "_law_figures", "_law_k"]
theorem sc_law_written : FnScope ["_law_amount", "_law_digits", "_law_figures", "_law_k"] ["_law_amount", "_law_digits"] (defScope s_law_written) := ⟨rfl, rfl, rfl, by decide +kernel, rfl, by decide +kernel, by decide +kernel⟩
theorem ok_law_written {P : Program} {w : World} {K : PySem.W.Frag} {mg : Str → Option Value} {base : Heap} {f : Addr} {fd : FuncData} (F : Fun K "_law_written" "_law_written" s_law_written f fd) (b : Binds K fd ["_law_amount", "_law_digits"] []) (hmg : mg "_law_written" = some (.ref f)) {adr : _root_.Fin 7 → Addr} {B0 : Addr} (Er : Errs K mg nm_ adr B0) (m_abs : mg "abs" = none) (m_len : mg "len" = none) (m_range : mg "range" = none) (m_str : mg "str" = none) :
    Fn0 P w K mg base CX0 1 "_law_written" 2 (sp_law_written K) := by
  have hsl := sizeLine_eq
  refine fn_mk F sc_law_written b hmg (fun i : (Int × Int) => b_law_written i.1 i.2) (fun i G vs h => ?_) (fun cdv A outer s H E i G cs vs hr hp => ?_)
  · obtain ⟨v0_, v1_, h, _⟩ := h
    rw [h]
    rfl
  obtain ⟨amount_, digits_⟩ := i
  obtain ⟨v0_, v1_, rfl, h0_, h1_, hpre⟩ := hp
  cases h0_
  cases h1_
  show B _ _ _ [some (.int amount_), some (.int digits_), none, none] G cs _ (b_law_written amount_ digits_)
  unfold b_law_written
  try dsimp only at hpre
  refine b_setV (r := rS) 2 sc_law_written.nd (d_strI m_str (d_abs m_abs (d_var 0 (P := rI amount_) rfl rfl)) (by first | omega | (split <;> omega)) (by first | omega | (split <;> omega))) (fun figures_1 efigures_1 v3 Gs2 s2 h4 => ?_)
  cases h4
  have hlf : figures_1.length ≤ 13 := by rw [efigures_1]; exact decL_len (by split <;> omega) (by split <;> omega)
  refine b_for (f := (st_law_written_1 digits_)) (s0 := (figures_1)) (xs := (rng 0 4)) (fun n_ (z5 : ((List Nat))) σ_ G_ cs_ => ∃ o8 : Option V, σ_ = [some (.int amount_), some (.int digits_), some (.str (SX.S z5)), o8] ∧ cs = cs_ ∧ (z5.length ≤ 20 + n_)) (i_rng1 m_range d_int (by omega) (by omega)) (tg_name 3 sc_law_written.nd) rfl PassesOwn.never ?_ ?_ ?_ ?_
  · intro _ s19
    exact ⟨_, rfl, rfl, by omega⟩
  · intro _ _ _ _ _ _
    trivial
  · intro pre_ x9 post_ z5 _ _ _ _ _ hxsz5 hrez5 s10 hNz5 s11 hSz5
    obtain ⟨o8, rfl, rfl, hbz5⟩ := hNz5
    obtain ⟨v6, h7, rfl⟩ := hSz5
    have hltz5 : pre_.length < (rng 0 4).length := by rw [hxsz5, List.length_append, List.length_cons]; omega
    have hmemz5 : x9 ∈ (rng 0 4) := by rw [hxsz5]; exact List.mem_append_right _ List.mem_cons_self
    try simp only [rng_length, rng_mem, enumL_length] at hltz5 hmemz5
    show B _ _ _ _ _ _ _ (st_law_written_1 digits_ z5 x9)
    unfold st_law_written_1
    cases h7
    refine b_ifl (t_cmp op_le (nomark _) (d_lenS m_len (d_var 2 (P := rS z5) rfl rfl) (by first | omega | (simp; done) | (simp; omega))) (d_var 1 (P := rI digits_) rfl rfl) fun _ _ _ _ _ _ hx hy _ q => c_le hx hy q) ?_ ?_
    · intro hc13 Gs14 s14
      have dhc13 := hc13
      try simp only [decide_eq_true_eq, decide_eq_false_iff_not, Bool.and_eq_true, Bool.and_eq_false_imp, Bool.or_eq_true, Bool.or_eq_false_iff, Bool.not_eq_true', Bool.not_eq_false', Bool.not_not, ne_eq, Int.not_lt, Int.not_le] at dhc13
      refine b_setV (r := rS) 2 sc_law_written.nd (d_cat (d_str (l := [48]) (by decide +kernel)) (d_var 2 (P := rS z5) rfl rfl) (by (try simp only [List.length_append, List.length_cons, List.length_nil]); (try have q1 := cutL_le z5 none (some ((z5.length : Int) - digits_))); (try have q2 := cutL_le z5 (some ((z5.length : Int) - digits_)) none); omega)) (fun figures_15 efigures_15 v17 Gs16 s16 h18 => ?_)
      cases h18
      exact b_nil (by refine ⟨_, rfl, rfl, by first | omega | (subst_vars; simp only [List.length_append, List.length_cons, List.length_nil]; omega)⟩)
    · intro hc13 Gs14 s14
      have dhc13 := hc13
      try simp only [decide_eq_true_eq, decide_eq_false_iff_not, Bool.and_eq_true, Bool.and_eq_false_imp, Bool.or_eq_true, Bool.or_eq_false_iff, Bool.not_eq_true', Bool.not_eq_false', Bool.not_not, ne_eq, Int.not_lt, Int.not_le] at dhc13
      exact b_nil (by refine ⟨_, rfl, rfl, by first | omega | (subst_vars; simp only [List.length_append, List.length_cons, List.length_nil]; omega)⟩)
  · intro n_ z5 _ _ _ hnz5 s20 hNz5 hfz5
    obtain ⟨o8, rfl, rfl, hbz5⟩ := hNz5
    try simp only [rng_length, enumL_length] at hnz5
    refine b_if (S' := ((List Nat))) (fun (z23 : ((List Nat))) σ_ G_ cs_ => ∃ o24 : Option V, σ_ = [some (.int amount_), some (.int digits_), some (.str (SX.S z23)), o24] ∧ cs = cs_) (t_cmp op_gt (nomark _) (d_var 1 (P := rI digits_) rfl rfl) d_int fun _ _ _ _ _ _ hx hy _ q => c_gt hx hy q) ?_ ?_ ?_
    · intro hc21 Gs22 s22
      have dhc21 := hc21
      try simp only [decide_eq_true_eq, decide_eq_false_iff_not, Bool.and_eq_true, Bool.and_eq_false_imp, Bool.or_eq_true, Bool.or_eq_false_iff, Bool.not_eq_true', Bool.not_eq_false', Bool.not_not, ne_eq, Int.not_lt, Int.not_le] at dhc21
      refine b_setV (r := rS) 2 sc_law_written.nd (d_cat (d_cat (d_slS (d_var 2 (P := rS z5) rfl rfl) do_none (do_some (d_sub (d_lenS m_len (d_var 2 (P := rS z5) rfl rfl) (by first | omega | (simp; done) | (simp; omega))) (d_var 1 (P := rI digits_) rfl rfl))) (by first | omega | (simp; done) | (simp; omega))) (d_str (l := [46]) (by decide +kernel)) (by (try simp only [List.length_append, List.length_cons, List.length_nil]); (try have q1 := cutL_le z5 none (some ((z5.length : Int) - digits_))); (try have q2 := cutL_le z5 (some ((z5.length : Int) - digits_)) none); omega)) (d_slS (d_var 2 (P := rS z5) rfl rfl) (do_some (d_sub (d_lenS m_len (d_var 2 (P := rS z5) rfl rfl) (by first | omega | (simp; done) | (simp; omega))) (d_var 1 (P := rI digits_) rfl rfl))) do_none (by first | omega | (simp; done) | (simp; omega))) (by (try simp only [List.length_append, List.length_cons, List.length_nil]); (try have q1 := cutL_le z5 none (some ((z5.length : Int) - digits_))); (try have q2 := cutL_le z5 (some ((z5.length : Int) - digits_)) none); omega)) (fun figures_25 efigures_25 v27 Gs26 s26 h28 => ?_)
      cases h28
      exact b_nil (by refine ⟨_, rfl, rfl⟩)
    · intro hc21 Gs22 s22
      have dhc21 := hc21
      try simp only [decide_eq_true_eq, decide_eq_false_iff_not, Bool.and_eq_true, Bool.and_eq_false_imp, Bool.or_eq_true, Bool.or_eq_false_iff, Bool.not_eq_true', Bool.not_eq_false', Bool.not_not, ne_eq, Int.not_lt, Int.not_le] at dhc21
      exact b_nil (by refine ⟨_, rfl, rfl⟩)
    · intro z23 _ _ _ sz23 hNz23 hmz23
      obtain ⟨o24, rfl, rfl⟩ := hNz23
      have hjz23 : z23.length ≤ 60 := by (try unfold letV at hmz23); (try split at hmz23) <;> cases hmz23 <;> (try simp only [List.length_append, List.length_cons, List.length_nil]) <;> (try have q1 := cutL_le z5 none (some ((z5.length : Int) - digits_))) <;> (try have q2 := cutL_le z5 (some ((z5.length : Int) - digits_)) none) <;> omega
      refine b_ifx (t_cmp op_lt (nomark _) (d_var 0 (P := rI amount_) rfl rfl) d_int fun _ _ _ _ _ _ hx hy _ q => c_lt hx hy q) ?_ ?_
      · intro hc29 Gs30 s30
        have dhc29 := hc29
        try simp only [decide_eq_true_eq, decide_eq_false_iff_not, Bool.and_eq_true, Bool.and_eq_false_imp, Bool.or_eq_true, Bool.or_eq_false_iff, Bool.not_eq_true', Bool.not_eq_false', Bool.not_not, ne_eq, Int.not_lt, Int.not_le] at dhc29
        exact b_ret (P := rS ([45] ++ z23)) (d_cat (d_str (l := [45]) (by decide +kernel)) (d_var 2 (P := rS z23) rfl rfl) (by (try simp only [List.length_append, List.length_cons, List.length_nil]); (try have q1 := cutL_le z23 none (some ((z23.length : Int) - digits_))); (try have q2 := cutL_le z23 (some ((z23.length : Int) - digits_)) none); omega)) (fun _ _ _ h => ⟨⟨[], rfl⟩, h⟩)
      · intro hc29 Gs30 s30
        have dhc29 := hc29
        try simp only [decide_eq_true_eq, decide_eq_false_iff_not, Bool.and_eq_true, Bool.and_eq_false_imp, Bool.or_eq_true, Bool.or_eq_false_iff, Bool.not_eq_true', Bool.not_eq_false', Bool.not_not, ne_eq, Int.not_lt, Int.not_le] at dhc29
        exact b_ret (P := rS z23) (d_var 2 (P := rS z23) rfl rfl) (fun _ _ _ h => ⟨⟨[], rfl⟩, h⟩)
end Ck03

namespace Ck03
open PySem L2 PyProof.Rows J
abbrev s_law_turned : Stmt := PySem.Challenge.pw_corebank_k03_whole_parse.main.body.getD 20 (.Pass ⟨0, 0, 0, 0⟩)
abbrev N_law_turned : List Str := ["_law_numbers_here", "_law_digits", "_law_text_here", "_law_at", "_law_turns"]
theorem sc_law_turned : FnScope ["_law_numbers_here", "_law_digits", "_law_text_here", "_law_at", "_law_turns"] ["_law_numbers_here", "_law_digits"] (defScope s_law_turned) := ⟨rfl, rfl, rfl, by decide +kernel, rfl, by decide +kernel, by decide +kernel⟩
theorem ok_law_turned {P : Program} {w : World} {K : PySem.W.Frag} {mg : Str → Option Value} {base : Heap} {f : Addr} {fd : FuncData} (F : Fun K "_law_turned" "_law_turned" s_law_turned f fd) (b : Binds K fd ["_law_numbers_here", "_law_digits"] []) (hmg : mg "_law_turned" = some (.ref f)) {adr : _root_.Fin 7 → Addr} {B0 : Addr} (Er : Errs K mg nm_ adr B0) (m_len : mg "len" = none) (F_law_sign : Fn0 P w K mg base CX0 1 "_law_sign" 2 (sp_law_sign K)) (F_law_written : Fn0 P w K mg base CX0 1 "_law_written" 2 (sp_law_written K)) :
    Fn0 P w K mg base CX0 2 "_law_turned" 2 (sp_law_turned K) := by
  have hsl := sizeLine_eq
  refine fn_mk F sc_law_turned b hmg (fun i : ((List Int) × Int) => b_law_turned i.1 i.2) (fun i G vs h => ?_) (fun cdv A outer s H E i G cs vs hr hp => ?_)
  · obtain ⟨v0_, v1_, h, _⟩ := h
    rw [h]
    rfl
  obtain ⟨numbers_here_, digits_⟩ := i
  obtain ⟨v0_, v1_, rfl, h0_, h1_, hpre⟩ := hp
  cases h1_
  show B _ _ _ [some v0_, some (.int digits_), none, none, none] G cs _ (b_law_turned numbers_here_ digits_)
  unfold b_law_turned
  try dsimp only at hpre
  have hlen := hpre.1.len
  have hn1 := hpre.1.bd 1
  refine b_setV (r := rS) 2 sc_law_turned.nd (d_callQ (P := rS (m_law_written (((ixg numbers_here_ 1) % ((2 * 1000000000000) + 1)) - 1000000000000) digits_)) ((((ixg numbers_here_ 1) % ((2 * 1000000000000) + 1)) - 1000000000000), digits_) F_law_written hr (by decide) (a_cons (P := rI (((ixg numbers_here_ 1) % ((2 * 1000000000000) + 1)) - 1000000000000)) (d_sub (d_mod (d_ixL (r := rI) (xs := numbers_here_) (i := 1) (x := (ixg numbers_here_ 1)) (D.imp (P := (rL K rI) numbers_here_) (d_var 0 (P := (rL K rI) numbers_here_) rfl h0_) fun _ _ => rdL_of) d_int (atI_ixg (by first | (constructor <;> omega) | (simp only [List.length_cons, List.length_nil]; constructor <;> omega) | exact ix_mod (by omega) | (simp only [decide_eq_true_eq, decide_eq_false_iff_not] at *; constructor <;> omega)))) (d_add (d_mul d_int (d_pow (z := 1000000000000) d_int d_int ⟨by decide, by decide, by decide⟩ (by decide +kernel)) (.inr ⟨by omega, by omega⟩)) d_int) (by omega)) (d_pow (z := 1000000000000) d_int d_int ⟨by decide, by decide, by decide⟩ (by decide +kernel))) (a_cons (P := rI digits_) (d_var 1 (P := rI digits_) rfl rfl) a_nil)) (fun _ _ _ h => by obtain ⟨v0, w0, rfl, h0, v1, w1, rfl, h1, rfl⟩ := h; exact ⟨v0, v1, rfl, h0, h1, (by (try dsimp only); first | assumption | omega | (refine ⟨?_, ?_⟩ <;> omega) | (refine ⟨?_, ?_, ?_⟩ <;> omega) | simp_all)⟩) fun _ _ h => h) (fun text_here_1 etext_here_1 v3 Gs2 s2 h4 => ?_)
  cases h4
  have hw := (written_asc (a := (ixg numbers_here_ 1) % ((2 * 1000000000000) + 1) - 1000000000000) hpre.2 (by omega)).1
  rw [← etext_here_1] at hw
  refine b_if (S' := ((List Nat))) (fun (z7 : ((List Nat))) σ_ G_ cs_ => ∃ o8 : Option V, ∃ o9 : Option V, σ_ = [some v0_, some (.int digits_), some (.str (SX.S z7)), o8, o9] ∧ cs = cs_) (t_cmp op_eq (nomark _) (d_mod (d_ixL (r := rI) (xs := numbers_here_) (i := 2) (x := (ixg numbers_here_ 2)) (D.imp (P := (rL K rI) numbers_here_) (d_var 0 (P := (rL K rI) numbers_here_) rfl (Mono.mono s2 h0_)) fun _ _ => rdL_of) d_int (atI_ixg (by first | (constructor <;> omega) | (simp only [List.length_cons, List.length_nil]; constructor <;> omega) | exact ix_mod (by omega) | (simp only [decide_eq_true_eq, decide_eq_false_iff_not] at *; constructor <;> omega)))) d_int (by decide)) d_int fun _ _ _ _ _ _ hx hy _ q => c_eqI hx hy q) ?_ ?_ ?_
  · intro hc5 Gs6 s6
    have dhc5 := hc5
    try simp only [decide_eq_true_eq, decide_eq_false_iff_not, Bool.and_eq_true, Bool.and_eq_false_imp, Bool.or_eq_true, Bool.or_eq_false_iff, Bool.not_eq_true', Bool.not_eq_false', Bool.not_not, ne_eq, Int.not_lt, Int.not_le] at dhc5
    refine b_setV (r := rS) 2 sc_law_turned.nd (d_callQ (P := rS (m_law_written (((ixg numbers_here_ 1) % 2001) - 1000) digits_)) ((((ixg numbers_here_ 1) % 2001) - 1000), digits_) F_law_written hr (by decide) (a_cons (P := rI (((ixg numbers_here_ 1) % 2001) - 1000)) (d_sub (d_mod (d_ixL (r := rI) (xs := numbers_here_) (i := 1) (x := (ixg numbers_here_ 1)) (D.imp (P := (rL K rI) numbers_here_) (d_var 0 (P := (rL K rI) numbers_here_) rfl (Mono.mono (s2.trans s6) h0_)) fun _ _ => rdL_of) d_int (atI_ixg (by first | (constructor <;> omega) | (simp only [List.length_cons, List.length_nil]; constructor <;> omega) | exact ix_mod (by omega) | (simp only [decide_eq_true_eq, decide_eq_false_iff_not] at *; constructor <;> omega)))) d_int (by decide)) d_int) (a_cons (P := rI digits_) (d_var 1 (P := rI digits_) rfl rfl) a_nil)) (fun _ _ _ h => by obtain ⟨v0, w0, rfl, h0, v1, w1, rfl, h1, rfl⟩ := h; exact ⟨v0, v1, rfl, h0, h1, (by (try dsimp only); first | assumption | omega | (refine ⟨?_, ?_⟩ <;> omega) | (refine ⟨?_, ?_, ?_⟩ <;> omega) | simp_all)⟩) fun _ _ h => h) (fun text_here_10 etext_here_10 v12 Gs11 s11 h13 => ?_)
    cases h13
    have hw2 := (written_asc (a := (ixg numbers_here_ 1) % 2001 - 1000) hpre.2 (by omega)).1
    rw [← etext_here_10] at hw2
    exact b_nil (by refine ⟨_, _, rfl, rfl⟩)
  · intro hc5 Gs6 s6
    have dhc5 := hc5
    try simp only [decide_eq_true_eq, decide_eq_false_iff_not, Bool.and_eq_true, Bool.and_eq_false_imp, Bool.or_eq_true, Bool.or_eq_false_iff, Bool.not_eq_true', Bool.not_eq_false', Bool.not_not, ne_eq, Int.not_lt, Int.not_le] at dhc5
    exact b_nil (by refine ⟨_, _, rfl, rfl⟩)
  · intro z7 _ _ _ sz7 hNz7 hmz7
    obtain ⟨o8, o9, rfl, rfl⟩ := hNz7
    have hjz7 : 1 ≤ z7.length ∧ z7.length ≤ 30 := by (try unfold letV at hmz7); (try split at hmz7) <;> cases hmz7 <;> (first | omega | (have q := (written_asc (a := ixg numbers_here_ 1 % 2001 - 1000) hpre.2 (by omega)).1; omega))
    refine b_setV (r := rI) 3 sc_law_turned.nd (d_mod (d_ixL (r := rI) (xs := numbers_here_) (i := 3) (x := (ixg numbers_here_ 3)) (D.imp (P := (rL K rI) numbers_here_) (d_var 0 (P := (rL K rI) numbers_here_) rfl (Mono.mono (s2.trans sz7) h0_)) fun _ _ => rdL_of) d_int (atI_ixg (by first | (constructor <;> omega) | (simp only [List.length_cons, List.length_nil]; constructor <;> omega) | exact ix_mod (by omega) | (simp only [decide_eq_true_eq, decide_eq_false_iff_not] at *; constructor <;> omega)))) (d_lenS m_len (d_var 2 (P := rS z7) rfl rfl) (by first | omega | (simp; done) | (simp; omega))) (by omega)) (fun at_14 eat_14 v16 Gs15 s15 h17 => ?_)
    cases h17
    refine b_setV (r := (rL K rS)) 4 sc_law_turned.nd (d_new (n_lst (r := rS) (xs := [z7, ((cutL z7 none (some at_14)) ++ (cutL z7 (some (at_14 + 1)) none)), ((cutL z7 none (some (at_14 + 1))) ++ (cutL z7 (some at_14) none))]) (a_cons (P := rS z7) (d_var 2 (P := rS z7) rfl rfl) (a_cons (P := rS ((cutL z7 none (some at_14)) ++ (cutL z7 (some (at_14 + 1)) none))) (d_cat (d_slS (d_var 2 (P := rS z7) rfl rfl) do_none (do_some (d_var 3 (P := rI at_14) rfl rfl)) (by first | omega | (simp; done) | (simp; omega))) (d_slS (d_var 2 (P := rS z7) rfl rfl) (do_some (d_add (d_var 3 (P := rI at_14) rfl rfl) d_int)) do_none (by first | omega | (simp; done) | (simp; omega))) (by (try simp only [List.length_append]); (try have q1 := cutL_le z7 none (some at_14)); (try have q2 := cutL_le z7 (some (at_14 + 1)) none); (try have q3 := cutL_le z7 none (some (at_14 + 1))); (try have q4 := cutL_le z7 (some at_14) none); (try have q5 := (sign_is (ixg numbers_here_ 4) (decide (((ixg numbers_here_ 5) % 2) = 0))).1); omega)) (a_cons (P := rS ((cutL z7 none (some (at_14 + 1))) ++ (cutL z7 (some at_14) none))) (d_cat (d_slS (d_var 2 (P := rS z7) rfl rfl) do_none (do_some (d_add (d_var 3 (P := rI at_14) rfl rfl) d_int)) (by first | omega | (simp; done) | (simp; omega))) (d_slS (d_var 2 (P := rS z7) rfl rfl) (do_some (d_var 3 (P := rI at_14) rfl rfl)) do_none (by first | omega | (simp; done) | (simp; omega))) (by (try simp only [List.length_append]); (try have q1 := cutL_le z7 none (some at_14)); (try have q2 := cutL_le z7 (some (at_14 + 1)) none); (try have q3 := cutL_le z7 none (some (at_14 + 1))); (try have q4 := cutL_le z7 (some at_14) none); (try have q5 := (sign_is (ixg numbers_here_ 4) (decide (((ixg numbers_here_ 5) % 2) = 0))).1); omega)) a_nil))) (ls_c (ls_c (ls_c ls_n))))) (fun turns_18 eturns_18 v20 Gs19 s19 h21 => ?_)
    have hlt : turns_18.length = 3 := by rw [eturns_18]; rfl
    refine b_setV (r := (rL K rS)) 4 sc_law_turned.nd (d_new (n_cat (r := rS) (D.imp (P := (rL K rS) turns_18) (d_var 4 (P := (rL K rS) turns_18) rfl h21) fun _ _ => rdL_of) (D.imp (P := (rL K rS) [(((cutL z7 none (some at_14)) ++ (m_law_sign (ixg numbers_here_ 4) (decide (((ixg numbers_here_ 5) % 2) = 0)))) ++ (cutL z7 (some (at_14 + 1)) none))]) (d_new (n_lst (r := rS) (xs := [(((cutL z7 none (some at_14)) ++ (m_law_sign (ixg numbers_here_ 4) (decide (((ixg numbers_here_ 5) % 2) = 0)))) ++ (cutL z7 (some (at_14 + 1)) none))]) (a_cons (P := rS (((cutL z7 none (some at_14)) ++ (m_law_sign (ixg numbers_here_ 4) (decide (((ixg numbers_here_ 5) % 2) = 0)))) ++ (cutL z7 (some (at_14 + 1)) none))) (d_cat (d_cat (d_slS (d_var 2 (P := rS z7) rfl rfl) do_none (do_some (d_var 3 (P := rI at_14) rfl rfl)) (by first | omega | (simp; done) | (simp; omega))) (d_callQ (P := rS (m_law_sign (ixg numbers_here_ 4) (decide (((ixg numbers_here_ 5) % 2) = 0)))) ((ixg numbers_here_ 4), (decide (((ixg numbers_here_ 5) % 2) = 0))) F_law_sign hr (by decide) (a_cons (P := rI (ixg numbers_here_ 4)) (d_ixL (r := rI) (xs := numbers_here_) (i := 4) (x := (ixg numbers_here_ 4)) (D.imp (P := (rL K rI) numbers_here_) (d_var 0 (P := (rL K rI) numbers_here_) rfl (Mono.mono (s2.trans (sz7.trans (s15.trans s19))) h0_)) fun _ _ => rdL_of) d_int (atI_ixg (by first | (constructor <;> omega) | (simp only [List.length_cons, List.length_nil]; constructor <;> omega) | exact ix_mod (by omega) | (simp only [decide_eq_true_eq, decide_eq_false_iff_not] at *; constructor <;> omega)))) (a_cons (P := rB (decide (((ixg numbers_here_ 5) % 2) = 0))) (d_cmp op_eq (nomark _) (d_mod (d_ixL (r := rI) (xs := numbers_here_) (i := 5) (x := (ixg numbers_here_ 5)) (D.imp (P := (rL K rI) numbers_here_) (d_var 0 (P := (rL K rI) numbers_here_) rfl (Mono.mono (s2.trans (sz7.trans (s15.trans s19))) h0_)) fun _ _ => rdL_of) d_int (atI_ixg (by first | (constructor <;> omega) | (simp only [List.length_cons, List.length_nil]; constructor <;> omega) | exact ix_mod (by omega) | (simp only [decide_eq_true_eq, decide_eq_false_iff_not] at *; constructor <;> omega)))) d_int (by decide)) d_int fun _ _ _ _ _ _ hx hy _ q => c_eqI hx hy q) a_nil)) (fun _ _ _ h => by obtain ⟨v0, w0, rfl, h0, v1, w1, rfl, h1, rfl⟩ := h; exact ⟨v0, v1, rfl, h0, h1⟩) fun _ _ h => h) (by (try simp only [List.length_append]); (try have q1 := cutL_le z7 none (some at_14)); (try have q2 := cutL_le z7 (some (at_14 + 1)) none); (try have q3 := cutL_le z7 none (some (at_14 + 1))); (try have q4 := cutL_le z7 (some at_14) none); (try have q5 := (sign_is (ixg numbers_here_ 4) (decide (((ixg numbers_here_ 5) % 2) = 0))).1); omega)) (d_slS (d_var 2 (P := rS z7) rfl rfl) (do_some (d_add (d_var 3 (P := rI at_14) rfl rfl) d_int)) do_none (by first | omega | (simp; done) | (simp; omega))) (by (try simp only [List.length_append]); (try have q1 := cutL_le z7 none (some at_14)); (try have q2 := cutL_le z7 (some (at_14 + 1)) none); (try have q3 := cutL_le z7 none (some (at_14 + 1))); (try have q4 := cutL_le z7 (some at_14) none); (try have q5 := (sign_is (ixg numbers_here_ 4) (decide (((ixg numbers_here_ 5) % 2) = 0))).1); omega)) a_nil) (ls_c ls_n))) fun _ _ => rdL_of) (by (simp only [List.length_cons, List.length_nil]; omega)))) (fun turns_22 eturns_22 v24 Gs23 s23 h25 => ?_)
    have hlt2 : turns_22.length = 4 := by rw [eturns_22, List.length_append, hlt]; rfl
    exact b_ret (P := rS (ixg turns_22 ((ixg numbers_here_ 6) % 4))) (d_ixL (r := rS) (xs := turns_22) (i := ((ixg numbers_here_ 6) % 4)) (x := (ixg turns_22 ((ixg numbers_here_ 6) % 4))) (D.imp (P := (rL K rS) turns_22) (d_var 4 (P := (rL K rS) turns_22) rfl h25) fun _ _ => rdL_of) (d_mod (d_ixL (r := rI) (xs := numbers_here_) (i := 6) (x := (ixg numbers_here_ 6)) (D.imp (P := (rL K rI) numbers_here_) (d_var 0 (P := (rL K rI) numbers_here_) rfl (Mono.mono (s2.trans (sz7.trans (s15.trans (s19.trans s23)))) h0_)) fun _ _ => rdL_of) d_int (atI_ixg (by first | (constructor <;> omega) | (simp only [List.length_cons, List.length_nil]; constructor <;> omega) | exact ix_mod (by omega) | (simp only [decide_eq_true_eq, decide_eq_false_iff_not] at *; constructor <;> omega)))) d_int (by decide)) (atI_ixg (by first | (constructor <;> omega) | (simp only [List.length_cons, List.length_nil]; constructor <;> omega) | exact ix_mod (by omega) | (simp only [decide_eq_true_eq, decide_eq_false_iff_not] at *; constructor <;> omega)))) (fun _ _ _ h => ⟨⟨[], rfl⟩, h⟩)
end Ck03

namespace Ck03
open PySem L2 PyProof.Rows J
abbrev s_law_text : Stmt := PySem.Challenge.pw_corebank_k03_whole_parse.main.body.getD 21 (.Pass ⟨0, 0, 0, 0⟩)
abbrev N_law_text : List Str := ["_law_numbers_here", "_law_digits", "_law_shape", "_law_text_here", "_law_size"]
theorem sc_law_text : FnScope ["_law_numbers_here", "_law_digits", "_law_shape", "_law_text_here", "_law_size"] ["_law_numbers_here", "_law_digits"] (defScope s_law_text) := ⟨rfl, rfl, rfl, by decide +kernel, rfl, by decide +kernel, by decide +kernel⟩
theorem ok_law_text {P : Program} {w : World} {K : PySem.W.Frag} {mg : Str → Option Value} {base : Heap} {f : Addr} {fd : FuncData} (F : Fun K "_law_text" "_law_text" s_law_text f fd) (b : Binds K fd ["_law_numbers_here", "_law_digits"] []) (hmg : mg "_law_text" = some (.ref f)) {adr : _root_.Fin 7 → Addr} {B0 : Addr} (Er : Errs K mg nm_ adr B0) (F_law_any : Fn0 P w K mg base CX0 2 "_law_any" 2 (sp_law_any K)) (F_law_sign : Fn0 P w K mg base CX0 1 "_law_sign" 2 (sp_law_sign K)) (F_law_turned : Fn0 P w K mg base CX0 2 "_law_turned" 2 (sp_law_turned K)) :
    Fn0 P w K mg base CX0 3 "_law_text" 2 (sp_law_text K) := by
  have hsl := sizeLine_eq
  refine fn_mk F sc_law_text b hmg (fun i : ((List Int) × Int) => b_law_text i.1 i.2) (fun i G vs h => ?_) (fun cdv A outer s H E i G cs vs hr hp => ?_)
  · obtain ⟨v0_, v1_, h, _⟩ := h
    rw [h]
    rfl
  obtain ⟨numbers_here_, digits_⟩ := i
  obtain ⟨v0_, v1_, rfl, h0_, h1_, hpre⟩ := hp
  cases h1_
  show B _ _ _ [some v0_, some (.int digits_), none, none, none] G cs _ (b_law_text numbers_here_ digits_)
  unfold b_law_text
  try dsimp only at hpre
  have hlen := hpre.1.len
  have hn9 := hpre.1.bd 9
  refine b_setV (r := rI) 2 sc_law_text.nd (d_mod (d_ixL (r := rI) (xs := numbers_here_) (i := 0) (x := (ixg numbers_here_ 0)) (D.imp (P := (rL K rI) numbers_here_) (d_var 0 (P := (rL K rI) numbers_here_) rfl h0_) fun _ _ => rdL_of) d_int (atI_ixg (by first | (constructor <;> omega) | (simp only [List.length_cons, List.length_nil]; constructor <;> omega) | exact ix_mod (by omega) | (simp only [decide_eq_true_eq, decide_eq_false_iff_not] at *; constructor <;> omega)))) d_int (by decide)) (fun shape_1 eshape_1 v3 Gs2 s2 h4 => ?_)
  cases h4
  refine b_setV (r := rS) 3 sc_law_text.nd (d_callQ (P := rS (m_law_any numbers_here_ (decide (shape_1 = 1)))) (numbers_here_, (decide (shape_1 = 1))) F_law_any hr (by decide) (a_cons (P := (rL K rI) numbers_here_) (d_var 0 (P := (rL K rI) numbers_here_) rfl (Mono.mono s2 h0_)) (a_cons (P := rB (decide (shape_1 = 1))) (d_cmp op_eq (nomark _) (d_var 2 (P := rI shape_1) rfl rfl) d_int fun _ _ _ _ _ _ hx hy _ q => c_eqI hx hy q) a_nil)) (fun _ _ _ h => by obtain ⟨v0, w0, rfl, h0, v1, w1, rfl, h1, rfl⟩ := h; exact ⟨v0, v1, rfl, h0, h1, (by exact hpre.1)⟩) fun _ _ h => h) (fun text_here_5 etext_here_5 v7 Gs6 s6 h8 => ?_)
  cases h8
  have hw := (any_asc (decide (shape_1 = 1)) hpre.1).1
  rw [← etext_here_5] at hw
  refine b_if (S' := ((List Nat))) (fun (z11 : ((List Nat))) σ_ G_ cs_ => ∃ o12 : Option V, σ_ = [some v0_, some (.int digits_), some (.int shape_1), some (.str (SX.S z11)), o12] ∧ cs = cs_) (t_cmp op_eq (nomark _) (d_var 2 (P := rI shape_1) rfl rfl) d_int fun _ _ _ _ _ _ hx hy _ q => c_eqI hx hy q) ?_ ?_ ?_
  · intro hc9 Gs10 s10
    have dhc9 := hc9
    try simp only [decide_eq_true_eq, decide_eq_false_iff_not, Bool.and_eq_true, Bool.and_eq_false_imp, Bool.or_eq_true, Bool.or_eq_false_iff, Bool.not_eq_true', Bool.not_eq_false', Bool.not_not, ne_eq, Int.not_lt, Int.not_le] at dhc9
    refine b_setV (r := rS) 3 sc_law_text.nd (d_callQ (P := rS (m_law_turned numbers_here_ digits_)) (numbers_here_, digits_) F_law_turned hr (by decide) (a_cons (P := (rL K rI) numbers_here_) (d_var 0 (P := (rL K rI) numbers_here_) rfl (Mono.mono (s2.trans (s6.trans s10)) h0_)) (a_cons (P := rI digits_) (d_var 1 (P := rI digits_) rfl rfl) a_nil)) (fun _ _ _ h => by obtain ⟨v0, w0, rfl, h0, v1, w1, rfl, h1, rfl⟩ := h; exact ⟨v0, v1, rfl, h0, h1, (by exact hpre)⟩) fun _ _ h => h) (fun text_here_13 etext_here_13 v15 Gs14 s14 h16 => ?_)
    cases h16
    have hw2 := (turned_asc hpre.1 hpre.2).1
    rw [← etext_here_13] at hw2
    exact b_nil (by refine ⟨_, rfl, rfl⟩)
  · intro hc9 Gs10 s10
    have dhc9 := hc9
    try simp only [decide_eq_true_eq, decide_eq_false_iff_not, Bool.and_eq_true, Bool.and_eq_false_imp, Bool.or_eq_true, Bool.or_eq_false_iff, Bool.not_eq_true', Bool.not_eq_false', Bool.not_not, ne_eq, Int.not_lt, Int.not_le] at dhc9
    exact b_nil (by refine ⟨_, rfl, rfl⟩)
  · intro z11 _ _ _ sz11 hNz11 hmz11
    obtain ⟨o12, rfl, rfl⟩ := hNz11
    have hjz11 : z11.length ≤ 100 := by (try unfold letV at hmz11); (try split at hmz11) <;> cases hmz11 <;> (first | omega | (have q := (turned_asc hpre.1 hpre.2).1; omega))
    refine b_if (S' := ((List Nat))) (fun (z19 : ((List Nat))) σ_ G_ cs_ => ∃ o20 : Option V, σ_ = [some v0_, some (.int digits_), some (.int shape_1), some (.str (SX.S z19)), o20] ∧ cs = cs_) (t_cmp op_eq (nomark _) (d_mod (d_ixL (r := rI) (xs := numbers_here_) (i := 7) (x := (ixg numbers_here_ 7)) (D.imp (P := (rL K rI) numbers_here_) (d_var 0 (P := (rL K rI) numbers_here_) rfl (Mono.mono (s2.trans (s6.trans sz11)) h0_)) fun _ _ => rdL_of) d_int (atI_ixg (by first | (constructor <;> omega) | (simp only [List.length_cons, List.length_nil]; constructor <;> omega) | exact ix_mod (by omega) | (simp only [decide_eq_true_eq, decide_eq_false_iff_not] at *; constructor <;> omega)))) d_int (by decide)) d_int fun _ _ _ _ _ _ hx hy _ q => c_eqI hx hy q) ?_ ?_ ?_
    · intro hc17 Gs18 s18
      have dhc17 := hc17
      try simp only [decide_eq_true_eq, decide_eq_false_iff_not, Bool.and_eq_true, Bool.and_eq_false_imp, Bool.or_eq_true, Bool.or_eq_false_iff, Bool.not_eq_true', Bool.not_eq_false', Bool.not_not, ne_eq, Int.not_lt, Int.not_le] at dhc17
      refine b_setV (r := rI) 4 sc_law_text.nd (d_mod (d_ixL (r := rI) (xs := numbers_here_) (i := 9) (x := (ixg numbers_here_ 9)) (D.imp (P := (rL K rI) numbers_here_) (d_var 0 (P := (rL K rI) numbers_here_) rfl (Mono.mono (s2.trans (s6.trans (sz11.trans s18))) h0_)) fun _ _ => rdL_of) d_int (atI_ixg (by first | (constructor <;> omega) | (simp only [List.length_cons, List.length_nil]; constructor <;> omega) | exact ix_mod (by omega) | (simp only [decide_eq_true_eq, decide_eq_false_iff_not] at *; constructor <;> omega)))) d_int (by decide)) (fun size_21 esize_21 v23 Gs22 s22 h24 => ?_)
      cases h24
      refine b_if (S' := (Int)) (fun (z27 : (Int)) σ_ G_ cs_ => σ_ = [some v0_, some (.int digits_), some (.int shape_1), some (.str (SX.S z11)), some (.int z27)] ∧ cs = cs_) (t_cmp op_eq (nomark _) (d_mod (d_ixL (r := rI) (xs := numbers_here_) (i := 7) (x := (ixg numbers_here_ 7)) (D.imp (P := (rL K rI) numbers_here_) (d_var 0 (P := (rL K rI) numbers_here_) rfl (Mono.mono (s2.trans (s6.trans (sz11.trans (s18.trans s22)))) h0_)) fun _ _ => rdL_of) d_int (atI_ixg (by first | (constructor <;> omega) | (simp only [List.length_cons, List.length_nil]; constructor <;> omega) | exact ix_mod (by omega) | (simp only [decide_eq_true_eq, decide_eq_false_iff_not] at *; constructor <;> omega)))) d_int (by decide)) d_int fun _ _ _ _ _ _ hx hy _ q => c_eqI hx hy q) ?_ ?_ ?_
      · intro hc25 Gs26 s26
        have dhc25 := hc25
        try simp only [decide_eq_true_eq, decide_eq_false_iff_not, Bool.and_eq_true, Bool.and_eq_false_imp, Bool.or_eq_true, Bool.or_eq_false_iff, Bool.not_eq_true', Bool.not_eq_false', Bool.not_not, ne_eq, Int.not_lt, Int.not_le] at dhc25
        refine b_setV (r := rI) 4 sc_law_text.nd (d_mod (d_ixL (r := rI) (xs := numbers_here_) (i := 9) (x := (ixg numbers_here_ 9)) (D.imp (P := (rL K rI) numbers_here_) (d_var 0 (P := (rL K rI) numbers_here_) rfl (Mono.mono (s2.trans (s6.trans (sz11.trans (s18.trans (s22.trans s26))))) h0_)) fun _ _ => rdL_of) d_int (atI_ixg (by first | (constructor <;> omega) | (simp only [List.length_cons, List.length_nil]; constructor <;> omega) | exact ix_mod (by omega) | (simp only [decide_eq_true_eq, decide_eq_false_iff_not] at *; constructor <;> omega)))) d_int (by decide)) (fun size_28 esize_28 v30 Gs29 s29 h31 => ?_)
        cases h31
        exact b_nil (by refine ⟨rfl, rfl⟩)
      · intro hc25 Gs26 s26
        have dhc25 := hc25
        try simp only [decide_eq_true_eq, decide_eq_false_iff_not, Bool.and_eq_true, Bool.and_eq_false_imp, Bool.or_eq_true, Bool.or_eq_false_iff, Bool.not_eq_true', Bool.not_eq_false', Bool.not_not, ne_eq, Int.not_lt, Int.not_le] at dhc25
        exact b_nil (by refine ⟨rfl, rfl⟩)
      · intro z27 _ _ _ sz27 hNz27 hmz27
        obtain ⟨rfl, rfl⟩ := hNz27
        have hjz27 : 0 ≤ z27 ∧ z27 ≤ 6001 := by (try unfold letV at hmz27); (try split at hmz27) <;> cases hmz27 <;> (omega)
        refine b_setV (r := rS) 3 sc_law_text.nd (d_cat (d_var 3 (P := rS z11) rfl rfl) (d_repS (d_callQ (P := rS (m_law_sign (ixg numbers_here_ 8) (decide (((ixg numbers_here_ 0) % 2) = 0)))) ((ixg numbers_here_ 8), (decide (((ixg numbers_here_ 0) % 2) = 0))) F_law_sign hr (by decide) (a_cons (P := rI (ixg numbers_here_ 8)) (d_ixL (r := rI) (xs := numbers_here_) (i := 8) (x := (ixg numbers_here_ 8)) (D.imp (P := (rL K rI) numbers_here_) (d_var 0 (P := (rL K rI) numbers_here_) rfl (Mono.mono (s2.trans (s6.trans (sz11.trans (s18.trans (s22.trans sz27))))) h0_)) fun _ _ => rdL_of) d_int (atI_ixg (by first | (constructor <;> omega) | (simp only [List.length_cons, List.length_nil]; constructor <;> omega) | exact ix_mod (by omega) | (simp only [decide_eq_true_eq, decide_eq_false_iff_not] at *; constructor <;> omega)))) (a_cons (P := rB (decide (((ixg numbers_here_ 0) % 2) = 0))) (d_cmp op_eq (nomark _) (d_mod (d_ixL (r := rI) (xs := numbers_here_) (i := 0) (x := (ixg numbers_here_ 0)) (D.imp (P := (rL K rI) numbers_here_) (d_var 0 (P := (rL K rI) numbers_here_) rfl (Mono.mono (s2.trans (s6.trans (sz11.trans (s18.trans (s22.trans sz27))))) h0_)) fun _ _ => rdL_of) d_int (atI_ixg (by first | (constructor <;> omega) | (simp only [List.length_cons, List.length_nil]; constructor <;> omega) | exact ix_mod (by omega) | (simp only [decide_eq_true_eq, decide_eq_false_iff_not] at *; constructor <;> omega)))) d_int (by decide)) d_int fun _ _ _ _ _ _ hx hy _ q => c_eqI hx hy q) a_nil)) (fun _ _ _ h => by obtain ⟨v0, w0, rfl, h0, v1, w1, rfl, h1, rfl⟩ := h; exact ⟨v0, v1, rfl, h0, h1⟩) fun _ _ h => h) (d_var 4 (P := rI z27) rfl rfl) (by constructor <;> omega) (by (have q := (sign_is (ixg numbers_here_ 8) (decide ((ixg numbers_here_ 0) % 2 = 0))).1; rw [q]; omega))) (by (have q := (sign_is (ixg numbers_here_ 8) (decide ((ixg numbers_here_ 0) % 2 = 0))).1; rw [repS_len, q]; omega))) (fun text_here_32 etext_here_32 v34 Gs33 s33 h35 => ?_)
        cases h35
        exact b_nil (by refine ⟨_, rfl, rfl⟩)
    · intro hc17 Gs18 s18
      have dhc17 := hc17
      try simp only [decide_eq_true_eq, decide_eq_false_iff_not, Bool.and_eq_true, Bool.and_eq_false_imp, Bool.or_eq_true, Bool.or_eq_false_iff, Bool.not_eq_true', Bool.not_eq_false', Bool.not_not, ne_eq, Int.not_lt, Int.not_le] at dhc17
      exact b_nil (by refine ⟨_, rfl, rfl⟩)
    · intro z19 _ _ _ sz19 hNz19 hmz19
      obtain ⟨o20, rfl, rfl⟩ := hNz19
      exact b_ret (P := rS z19) (d_var 3 (P := rS z19) rfl rfl) (fun _ _ _ h => ⟨⟨[], rfl⟩, h⟩)
end Ck03

namespace Ck03
open PySem L2 PyProof.Rows J
abbrev s_law_number : Stmt := PySem.Challenge.pw_corebank_k03_whole_parse.main.body.getD 22 (.Pass ⟨0, 0, 0, 0⟩)
abbrev N_law_number : List Str := ["_law_figures", "_law_total", "_law_figure"]
theorem sc_law_number : FnScope ["_law_figures", "_law_total", "_law_figure"] ["_law_figures"] (defScope s_law_number) := ⟨rfl, rfl, rfl, by decide +kernel, rfl, by decide +kernel, by decide +kernel⟩
theorem ok_law_number {P : Program} {w : World} {K : PySem.W.Frag} {mg : Str → Option Value} {base : Heap} {f : Addr} {fd : FuncData} (F : Fun K "_law_number" "_law_number" s_law_number f fd) (b : Binds K fd ["_law_figures"] []) (hmg : mg "_law_number" = some (.ref f)) {adr : _root_.Fin 7 → Addr} {B0 : Addr} (Er : Errs K mg nm_ adr B0)  :
    Fn0 P w K mg base CX0 1 "_law_number" 1 (sp_law_number K) := by
  have hsl := sizeLine_eq
  refine fn_mk F sc_law_number b hmg (fun i : ((List Nat)) => b_law_number i) (fun i G vs h => ?_) (fun cdv A outer s H E figures_ G cs vs hr hp => ?_)
  · obtain ⟨v0_, h, _⟩ := h
    rw [h]
    rfl
  obtain ⟨v0_, rfl, h0_⟩ := hp
  cases h0_
  show B _ _ _ [some (.str (SX.S figures_)), none, none] G cs _ (b_law_number figures_)
  unfold b_law_number
  refine b_setV (r := rI) 1 sc_law_number.nd d_int (fun total_1 etotal_1 v3 Gs2 s2 h4 => ?_)
  cases h4
  refine b_for (f := (st_law_number_1)) (s0 := (total_1)) (xs := figures_) (fun n_ (z5 : (Int)) σ_ G_ cs_ => ∃ o8 : Option V, σ_ = [some (.str (SX.S figures_)), some (.int z5), o8] ∧ cs = cs_) (i_str (d_var 0 (P := rS figures_) rfl rfl)) (tg_name 2 sc_law_number.nd) rfl PassesOwn.never ?_ ?_ ?_ ?_
  · intro _ s17
    exact ⟨_, rfl, rfl⟩
  · intro _ _ _ _ _ _
    trivial
  · intro pre_ x9 post_ z5 _ _ _ _ _ hxsz5 hrez5 s10 hNz5 s11 hSz5
    obtain ⟨o8, rfl, rfl⟩ := hNz5
    obtain ⟨v6, h7, rfl⟩ := hSz5
    have hltz5 : pre_.length < figures_.length := by rw [hxsz5, List.length_append, List.length_cons]; omega
    have hmemz5 : x9 ∈ figures_ := by rw [hxsz5]; exact List.mem_append_right _ List.mem_cons_self
    try simp only [rng_length, rng_mem, enumL_length] at hltz5 hmemz5
    show B _ _ _ _ _ _ _ (st_law_number_1 z5 x9)
    unfold st_law_number_1
    cases h7
    refine b_setV (r := rI) 1 sc_law_number.nd (d_add (d_mul d_int (d_var 1 (P := rI z5) rfl rfl) (.inl ⟨by omega, by omega⟩)) (d_find (d_str (l := [48, 49, 50, 51, 52, 53, 54, 55, 56, 57]) (by decide +kernel)) (d_var 2 (P := rC x9) rfl rfl))) (fun total_13 etotal_13 v15 Gs14 s14 h16 => ?_)
    cases h16
    exact b_nil (by refine ⟨_, rfl, rfl⟩)
  · intro n_ z5 _ _ _ hnz5 s18 hNz5 hfz5
    obtain ⟨o8, rfl, rfl⟩ := hNz5
    try simp only [rng_length, enumL_length] at hnz5
    exact b_ret (P := rI z5) (d_var 1 (P := rI z5) rfl rfl) (fun _ _ _ h => ⟨⟨[], rfl⟩, h⟩)
end Ck03

namespace Ck03
open PySem L2 PyProof.Rows J
abbrev s_law_due : Stmt := PySem.Challenge.pw_corebank_k03_whole_parse.main.body.getD 23 (.Pass ⟨0, 0, 0, 0⟩)
abbrev N_law_due : List Str := ["_law_text_here", "_law_digits", "_law_body", "_law_parts", "_law_points", "_law_sign_here", "_law_size", "_law_k"]
theorem sc_law_due : FnScope ["_law_text_here", "_law_digits", "_law_body", "_law_parts", "_law_points", "_law_sign_here", "_law_size", "_law_k"] ["_law_text_here", "_law_digits"] (defScope s_law_due) := ⟨rfl, rfl, rfl, by decide +kernel, rfl, by decide +kernel, by decide +kernel⟩
theorem ok_law_due {P : Program} {w : World} {K : PySem.W.Frag} {mg : Str → Option Value} {base : Heap} {f : Addr} {fd : FuncData} (F : Fun K "_law_due" "_law_due" s_law_due f fd) (b : Binds K fd ["_law_text_here", "_law_digits"] []) (hmg : mg "_law_due" = some (.ref f)) {adr : _root_.Fin 7 → Addr} {B0 : Addr} (Er : Errs K mg nm_ adr B0) (m_len : mg "len" = none) (m_range : mg "range" = none) (F_law_number : Fn0 P w K mg base CX0 1 "_law_number" 1 (sp_law_number K)) :
    Fn0 P w K mg base CX0 2 "_law_due" 2 (sp_law_due K) := by
  have hsl := sizeLine_eq
  refine fn_mk F sc_law_due b hmg (fun i : ((List Nat) × Int) => b_law_due i.1 i.2) (fun i G vs h => ?_) (fun cdv A outer s H E i G cs vs hr hp => ?_)
  · obtain ⟨v0_, v1_, h, _⟩ := h
    rw [h]
    rfl
  obtain ⟨text_here_, digits_⟩ := i
  obtain ⟨v0_, v1_, rfl, h0_, h1_, hpre⟩ := hp
  cases h0_
  cases h1_
  show B _ _ _ [some (.str (SX.S text_here_)), some (.int digits_), none, none, none, none, none, none] G cs _ (b_law_due text_here_ digits_)
  unfold b_law_due
  try dsimp only at hpre
  have hp1 := hpre.1.1
  refine b_ifx (t_cmp op_gt (nomark _) (d_lenS m_len (d_var 0 (P := rS text_here_) rfl rfl) (by omega)) d_int fun _ _ _ _ _ _ hx hy _ q => c_gt hx hy q) ?_ ?_
  · intro hc1 Gs2 s2
    have dhc1 := hc1
    try simp only [decide_eq_true_eq, decide_eq_false_iff_not, Bool.and_eq_true, Bool.and_eq_false_imp, Bool.or_eq_true, Bool.or_eq_false_iff, Bool.not_eq_true', Bool.not_eq_false', Bool.not_not, ne_eq, Int.not_lt, Int.not_le] at dhc1
    exact b_ret (P := (rO rI) none) (d_toN (r := rI) d_non) (fun _ _ _ h => ⟨⟨[], rfl⟩, h⟩)
  · intro hc1 Gs2 s2
    have dhc1 := hc1
    try simp only [decide_eq_true_eq, decide_eq_false_iff_not, Bool.and_eq_true, Bool.and_eq_false_imp, Bool.or_eq_true, Bool.or_eq_false_iff, Bool.not_eq_true', Bool.not_eq_false', Bool.not_not, ne_eq, Int.not_lt, Int.not_le] at dhc1
    refine b_setV (r := rS) 2 sc_law_due.nd (d_var 0 (P := rS text_here_) rfl rfl) (fun body_3 ebody_3 v5 Gs4 s4 h6 => ?_)
    cases h6
    refine b_if (S' := ((List Nat))) (fun (z9 : ((List Nat))) σ_ G_ cs_ => ∃ o10 : Option V, ∃ o11 : Option V, ∃ o12 : Option V, ∃ o13 : Option V, ∃ o14 : Option V, σ_ = [some (.str (SX.S text_here_)), some (.int digits_), some (.str (SX.S z9)), o10, o11, o12, o13, o14] ∧ cs = cs_) (t_cmp op_eq (nomark _) (d_slS (d_var 0 (P := rS text_here_) rfl rfl) do_none (do_some d_int) (by omega)) (d_str (l := [45]) (by decide +kernel)) fun _ _ _ _ _ _ hx hy _ q => c_eqS hx hy q) ?_ ?_ ?_
    · intro hc7 Gs8 s8
      have dhc7 := hc7
      try simp only [decide_eq_true_eq, decide_eq_false_iff_not, Bool.and_eq_true, Bool.and_eq_false_imp, Bool.or_eq_true, Bool.or_eq_false_iff, Bool.not_eq_true', Bool.not_eq_false', Bool.not_not, ne_eq, Int.not_lt, Int.not_le] at dhc7
      refine b_setV (r := rS) 2 sc_law_due.nd (d_slS (d_var 0 (P := rS text_here_) rfl rfl) (do_some d_int) do_none (by omega)) (fun body_15 ebody_15 v17 Gs16 s16 h18 => ?_)
      cases h18
      exact b_nil (by refine ⟨_, _, _, _, _, rfl, rfl⟩)
    · intro hc7 Gs8 s8
      have dhc7 := hc7
      try simp only [decide_eq_true_eq, decide_eq_false_iff_not, Bool.and_eq_true, Bool.and_eq_false_imp, Bool.or_eq_true, Bool.or_eq_false_iff, Bool.not_eq_true', Bool.not_eq_false', Bool.not_not, ne_eq, Int.not_lt, Int.not_le] at dhc7
      exact b_nil (by refine ⟨_, _, _, _, _, rfl, rfl⟩)
    · intro z9 _ _ _ sz9 hNz9 hmz9
      obtain ⟨o10, o11, o12, o13, o14, rfl, rfl⟩ := hNz9
      have hjz9 : z9.length ≤ text_here_.length := by (try unfold letV at hmz9); (try split at hmz9) <;> cases hmz9 <;> ((first | omega | exact cutL_le _ _ _ | (rw [ebody_3]; exact Nat.le_refl _)))
      refine b_setN 3 sc_law_due.nd (n_lst (r := rS) (xs := [([] : List Nat), ([] : List Nat)]) (a_cons (P := rS ([] : List Nat)) (d_str (l := []) (by decide +kernel)) (a_cons (P := rS ([] : List Nat)) (d_str (l := []) (by decide +kernel)) a_nil)) (ls_c (ls_c ls_n))) (fun l20 us21 Gs22 s22 h23 => ?_)
      refine letV_intro (fun parts_19 eparts_19 => ?_)
      rw [← eparts_19] at h23
      have nparts_19 : parts_19.length = 2 := by rw [eparts_19]; rfl
      refine b_setV (r := rI) 4 sc_law_due.nd d_int (fun points_24 epoints_24 v26 Gs25 s25 h27 => ?_)
      cases h27
      refine b_for (f := (st_law_due_1)) (s0 := (parts_19, points_24)) (xs := z9) (fun n_ (z28 : ((List (List Nat)) × Int)) σ_ G_ cs_ => ∃ us31 : List V, ∃ o33 : Option V, ∃ o34 : Option V, ∃ o35 : Option V, σ_ = [some (.str (SX.S text_here_)), some (.int digits_), some (.str (SX.S z9)), some (.ref l20), some (.int z28.2), o33, o34, o35] ∧ (l20, HO.lst us31) :: cs = cs_ ∧ Rs rS G_ z28.1 us31 ∧ z28.1.length ≤ parts_19.length + 0 * n_ ∧ (PInv n_ z28.1 z28.2)) (i_str (d_var 2 (P := rS z9) rfl rfl)) (tg_name 5 sc_law_due.nd) rfl PassesOwn.never ?_ ?_ ?_ ?_
      · intro _ s54
        exact ⟨_, _, _, _, rfl, rfl, (Rs.mono (s25.trans s54) h23), ⟨Nat.le_add_right _ _, by (rw [eparts_19, epoints_24]; exact pinv0)⟩⟩
      · intro _ _ _ _ _ _
        trivial
      · intro pre_ x36 post_ z28 _ _ _ _ _ hxsz28 hrez28 s37 hNz28 s38 hSz28
        obtain ⟨us31, o33, o34, o35, rfl, rfl, h32, hbz28⟩ := hNz28
        obtain ⟨v29, h30, rfl⟩ := hSz28
        have hltz28 : pre_.length < z9.length := by rw [hxsz28, List.length_append, List.length_cons]; omega
        have hmemz28 : x36 ∈ z9 := by rw [hxsz28]; exact List.mem_append_right _ List.mem_cons_self
        try simp only [rng_length, rng_mem, enumL_length] at hltz28 hmemz28
        show B _ _ _ _ _ _ _ (st_law_due_1 z28 x36)
        unfold st_law_due_1
        cases h30
        have hP := hbz28.2
        have hb1 := hP.1
        have hb2 := hP.2.1
        have hb3 := hP.2.2
        refine b_ifl (t_cmp op_eq (nomark _) (d_var 5 (P := rC x36) rfl rfl) (d_str (l := [46]) (by decide +kernel)) fun _ _ _ _ _ _ hx hy _ q => c_eqS hx hy q) ?_ ?_
        · intro hc40 Gs41 s41
          have dhc40 := hc40
          try simp only [decide_eq_true_eq, decide_eq_false_iff_not, Bool.and_eq_true, Bool.and_eq_false_imp, Bool.or_eq_true, Bool.or_eq_false_iff, Bool.not_eq_true', Bool.not_eq_false', Bool.not_not, ne_eq, Int.not_lt, Int.not_le] at dhc40
          refine b_setV (r := rI) 4 sc_law_due.nd (d_add (d_var 4 (P := rI z28.2) rfl rfl) d_int) (fun points_42 epoints_42 v44 Gs43 s43 h45 => ?_)
          cases h45
          exact b_nil (by refine ⟨_, _, _, _, rfl, rfl, (Rs.mono (s38.trans (s41.trans s43)) h32), ⟨by first | omega | (simp only [List.length_append, List.length_cons, List.length_nil] at *; omega), by first | (rw [epoints_42]; exact PInv.dot hP) | (rw [eparts_52]; exact PInv.put hP (by omega))⟩⟩)
        · intro hc40 Gs41 s41
          have dhc40 := hc40
          try simp only [decide_eq_true_eq, decide_eq_false_iff_not, Bool.and_eq_true, Bool.and_eq_false_imp, Bool.or_eq_true, Bool.or_eq_false_iff, Bool.not_eq_true', Bool.not_eq_false', Bool.not_not, ne_eq, Int.not_lt, Int.not_le] at dhc40
          refine b_ifl (t_w (w_or (t_cmp op_notIn_sign (by rfl) (d_var 5 (P := rC x36) rfl rfl) (d_str (l := [48, 49, 50, 51, 52, 53, 54, 55, 56, 57]) (by decide +kernel)) fun _ _ _ _ _ _ hx hy _ q => c_ninS hx hy q) fun hk46 => (w_or1 (t_cmp op_gt (nomark _) (d_var 4 (P := rI z28.2) rfl rfl) d_int fun _ _ _ _ _ _ hx hy _ q => c_gt hx hy q)))) ?_ ?_
          · intro hc47 Gs48 s48
            have dhc47 := hc47
            try simp only [decide_eq_true_eq, decide_eq_false_iff_not, Bool.and_eq_true, Bool.and_eq_false_imp, Bool.or_eq_true, Bool.or_eq_false_iff, Bool.not_eq_true', Bool.not_eq_false', Bool.not_not, ne_eq, Int.not_lt, Int.not_le] at dhc47
            exact b_ret (P := (rO rI) none) (d_toN (r := rI) d_non) (fun _ _ _ h => ⟨⟨[(l20, HO.lst us31)], rfl⟩, h⟩)
          · intro hc47 Gs48 s48
            have dhc47 := hc47
            try simp only [decide_eq_true_eq, decide_eq_false_iff_not, Bool.and_eq_true, Bool.and_eq_false_imp, Bool.or_eq_true, Bool.or_eq_false_iff, Bool.not_eq_true', Bool.not_eq_false', Bool.not_not, ne_eq, Int.not_lt, Int.not_le] at dhc47
            refine b_put 0 (P := rS ((ixg z28.1 z28.2) ++ [x36])) (z := z28.2) (j := ((ixN us31.length z28.2).getD 0)) rfl (d_cat (d_ixL (r := rS) (xs := z28.1) (i := z28.2) (x := (ixg z28.1 z28.2)) (d_var 3 (P := rdL K _ rS z28.1) rfl (rdL_cell List.mem_cons_self (Rs.mono (s38.trans (s41.trans s48)) h32))) (d_var 4 (P := rI z28.2) rfl rfl) (atI_ixg (by first | (constructor <;> omega) | (have hne : 0 < (ixg z28.1 0).length := List.length_pos_iff.mpr (by simp_all); constructor <;> omega)))) (d_var 5 (P := rC x36) rfl rfl) (by first | (have hq := hb3 _ (ixg_mem (xs := z28.1) (i := z28.2) (by omega) (by omega)); simp only [List.length_cons, List.length_nil]; omega) | omega)) (d_var 3 (P := rV (.ref l20)) rfl rfl) (d_var 4 (P := rI z28.2) rfl rfl) (ixN_ok (by rw [← Rs.length h32]; exact (by first | (constructor <;> omega) | exact ix_mod (by omega)))) (fun v49 Gs50 s50 h51 => ?_)
            have h53 := Rs.put h51 (Rs.mono (s38.trans (s41.trans (s48.trans s50))) h32) z28.2
            refine letV_intro (fun parts_52 eparts_52 => ?_)
            rw [← eparts_52] at h53
            have nparts_52 : parts_52.length = z28.1.length := by rw [eparts_52, putL_len]
            exact b_nil (by refine ⟨_, _, _, _, rfl, rfl, h53, ⟨by first | omega | (simp only [List.length_append, List.length_cons, List.length_nil] at *; omega), by first | (rw [epoints_42]; exact PInv.dot hP) | (rw [eparts_52]; exact PInv.put hP (by omega))⟩⟩)
      · intro n_ z28 _ _ _ hnz28 s55 hNz28 hfz28
        obtain ⟨us31, o33, o34, o35, rfl, rfl, h32, hbz28⟩ := hNz28
        try simp only [rng_length, enumL_length] at hnz28
        have hP := hbz28.2
        have hb1 := hP.1
        have hb2 := hP.2.1
        have hb3 := hP.2.2
        have hl0 := hb3 _ (ixg_mem (xs := z28.1) (i := 0) (by omega) (by omega))
        have hl1 := hb3 _ (ixg_mem (xs := z28.1) (i := 1) (by omega) (by omega))
        have hzs56 := h32
        refine b_freeze 0 rfl (fun s56 h57 => ?_)
        have kh57 : (rL K rS) z28.1 _ (.ref l20) := ⟨_, _, rfl, SqL.of h57, Rs.mono s56 hzs56⟩
        refine b_ifx (t_w (w_or (t_cmp op_eq (nomark _) (d_ixL (r := rS) (xs := z28.1) (i := 0) (x := (ixg z28.1 0)) (D.imp (P := (rL K rS) z28.1) (d_var 3 (P := (rL K rS) z28.1) rfl kh57) fun _ _ => rdL_of) d_int (atI_ixg (by first | (constructor <;> omega) | (have hne : 0 < (ixg z28.1 0).length := List.length_pos_iff.mpr (by simp_all); constructor <;> omega)))) (d_str (l := []) (by decide +kernel)) fun _ _ _ _ _ _ hx hy _ q => c_eqS hx hy q) fun hk60 => (w_or (t_w (w_and (t_cmp op_ne (nomark _) (d_ixL (r := rS) (xs := z28.1) (i := 0) (x := (ixg z28.1 0)) (D.imp (P := (rL K rS) z28.1) (d_var 3 (P := (rL K rS) z28.1) rfl kh57) fun _ _ => rdL_of) d_int (atI_ixg (by first | (constructor <;> omega) | (have hne : 0 < (ixg z28.1 0).length := List.length_pos_iff.mpr (by simp_all); constructor <;> omega)))) (d_str (l := [48]) (by decide +kernel)) fun _ _ _ _ _ _ hx hy _ q => c_neS hx hy q) fun hk58 => (w_and1 (t_cmp op_eq (nomark _) (d_ixS (d_ixL (r := rS) (xs := z28.1) (i := 0) (x := (ixg z28.1 0)) (D.imp (P := (rL K rS) z28.1) (d_var 3 (P := (rL K rS) z28.1) rfl kh57) fun _ _ => rdL_of) d_int (atI_ixg (by first | (constructor <;> omega) | (have hne : 0 < (ixg z28.1 0).length := List.length_pos_iff.mpr (by simp_all); constructor <;> omega)))) d_int (by omega) (atI_ixg (by first | (constructor <;> omega) | (have hne : 0 < (ixg z28.1 0).length := List.length_pos_iff.mpr (by simp_all); constructor <;> omega)))) (d_str (l := [48]) (by decide +kernel)) fun _ _ _ _ _ _ hx hy _ q => c_eqS hx hy q)))) fun hk59 => (w_or1 (t_cmp op_gt (nomark _) (d_var 4 (P := rI z28.2) rfl rfl) d_int fun _ _ _ _ _ _ hx hy _ q => c_gt hx hy q))))) ?_ ?_
        · intro hc61 Gs62 s62
          have dhc61 := hc61
          try simp only [decide_eq_true_eq, decide_eq_false_iff_not, Bool.and_eq_true, Bool.and_eq_false_imp, Bool.or_eq_true, Bool.or_eq_false_iff, Bool.not_eq_true', Bool.not_eq_false', Bool.not_not, ne_eq, Int.not_lt, Int.not_le] at dhc61
          exact b_ret (P := (rO rI) none) (d_toN (r := rI) d_non) (fun _ _ _ h => ⟨⟨[], rfl⟩, h⟩)
        · intro hc61 Gs62 s62
          have dhc61 := hc61
          try simp only [decide_eq_true_eq, decide_eq_false_iff_not, Bool.and_eq_true, Bool.and_eq_false_imp, Bool.or_eq_true, Bool.or_eq_false_iff, Bool.not_eq_true', Bool.not_eq_false', Bool.not_not, ne_eq, Int.not_lt, Int.not_le] at dhc61
          refine b_ifx (t_w (w_and (t_cmp op_eq (nomark _) (d_var 4 (P := rI z28.2) rfl rfl) d_int fun _ _ _ _ _ _ hx hy _ q => c_eqI hx hy q) fun hk64 => (w_and1 (t_w (w_or (t_cmp op_eq (nomark _) (d_ixL (r := rS) (xs := z28.1) (i := 1) (x := (ixg z28.1 1)) (D.imp (P := (rL K rS) z28.1) (d_var 3 (P := (rL K rS) z28.1) rfl (Mono.mono s62 kh57)) fun _ _ => rdL_of) d_int (atI_ixg (by first | (constructor <;> omega) | (have hne : 0 < (ixg z28.1 0).length := List.length_pos_iff.mpr (by simp_all); constructor <;> omega)))) (d_str (l := []) (by decide +kernel)) fun _ _ _ _ _ _ hx hy _ q => c_eqS hx hy q) fun hk63 => (w_or1 (t_cmp op_gt (nomark _) (d_lenS m_len (d_ixL (r := rS) (xs := z28.1) (i := 1) (x := (ixg z28.1 1)) (D.imp (P := (rL K rS) z28.1) (d_var 3 (P := (rL K rS) z28.1) rfl (Mono.mono s62 kh57)) fun _ _ => rdL_of) d_int (atI_ixg (by first | (constructor <;> omega) | (have hne : 0 < (ixg z28.1 0).length := List.length_pos_iff.mpr (by simp_all); constructor <;> omega)))) (by omega)) (d_var 1 (P := rI digits_) rfl rfl) fun _ _ _ _ _ _ hx hy _ q => c_gt hx hy q))))))) ?_ ?_
          · intro hc65 Gs66 s66
            have dhc65 := hc65
            try simp only [decide_eq_true_eq, decide_eq_false_iff_not, Bool.and_eq_true, Bool.and_eq_false_imp, Bool.or_eq_true, Bool.or_eq_false_iff, Bool.not_eq_true', Bool.not_eq_false', Bool.not_not, ne_eq, Int.not_lt, Int.not_le] at dhc65
            exact b_ret (P := (rO rI) none) (d_toN (r := rI) d_non) (fun _ _ _ h => ⟨⟨[], rfl⟩, h⟩)
          · intro hc65 Gs66 s66
            have dhc65 := hc65
            try simp only [decide_eq_true_eq, decide_eq_false_iff_not, Bool.and_eq_true, Bool.and_eq_false_imp, Bool.or_eq_true, Bool.or_eq_false_iff, Bool.not_eq_true', Bool.not_eq_false', Bool.not_not, ne_eq, Int.not_lt, Int.not_le] at dhc65
            refine b_setV (r := rI) 6 sc_law_due.nd (d_callQ (P := rI (m_law_number ((ixg z28.1 0) ++ (ixg z28.1 1)))) (((ixg z28.1 0) ++ (ixg z28.1 1))) F_law_number hr (by decide) (a_cons (P := rS ((ixg z28.1 0) ++ (ixg z28.1 1))) (d_cat (d_ixL (r := rS) (xs := z28.1) (i := 0) (x := (ixg z28.1 0)) (D.imp (P := (rL K rS) z28.1) (d_var 3 (P := (rL K rS) z28.1) rfl (Mono.mono (s62.trans s66) kh57)) fun _ _ => rdL_of) d_int (atI_ixg (by first | (constructor <;> omega) | (have hne : 0 < (ixg z28.1 0).length := List.length_pos_iff.mpr (by simp_all); constructor <;> omega)))) (d_ixL (r := rS) (xs := z28.1) (i := 1) (x := (ixg z28.1 1)) (D.imp (P := (rL K rS) z28.1) (d_var 3 (P := (rL K rS) z28.1) rfl (Mono.mono (s62.trans s66) kh57)) fun _ _ => rdL_of) d_int (atI_ixg (by first | (constructor <;> omega) | (have hne : 0 < (ixg z28.1 0).length := List.length_pos_iff.mpr (by simp_all); constructor <;> omega)))) (by first | (have hq := hb3 _ (ixg_mem (xs := z28.1) (i := z28.2) (by omega) (by omega)); simp only [List.length_cons, List.length_nil]; omega) | omega)) a_nil) (fun _ _ _ h => by obtain ⟨v0, w0, rfl, h0, rfl⟩ := h; exact ⟨v0, rfl, h0⟩) fun _ _ h => h) (fun size_67 esize_67 v69 Gs68 s68 h70 => ?_)
            cases h70
            refine b_for (f := (st_law_due_2)) (s0 := (size_67)) (xs := (rng 0 (digits_ - ((ixg z28.1 1).length : Int)))) (fun n_ (z71 : (Int)) σ_ G_ cs_ => ∃ o74 : Option V, ∃ o75 : Option V, σ_ = [some (.str (SX.S text_here_)), some (.int digits_), some (.str (SX.S z9)), some (.ref l20), some (.int z28.2), o74, some (.int z71), o75] ∧ cs = cs_) (i_rng1 m_range (d_sub (d_var 1 (P := rI digits_) rfl rfl) (d_lenS m_len (d_ixL (r := rS) (xs := z28.1) (i := 1) (x := (ixg z28.1 1)) (D.imp (P := (rL K rS) z28.1) (d_var 3 (P := (rL K rS) z28.1) rfl (Mono.mono (s62.trans (s66.trans s68)) kh57)) fun _ _ => rdL_of) d_int (atI_ixg (by first | (constructor <;> omega) | (have hne : 0 < (ixg z28.1 0).length := List.length_pos_iff.mpr (by simp_all); constructor <;> omega)))) (by omega))) (by omega) (by omega)) (tg_name 7 sc_law_due.nd) rfl PassesOwn.never ?_ ?_ ?_ ?_
            · intro _ s84
              exact ⟨_, _, rfl, rfl⟩
            · intro _ _ _ _ _ _
              trivial
            · intro pre_ x76 post_ z71 _ _ _ _ _ hxsz71 hrez71 s77 hNz71 s78 hSz71
              obtain ⟨o74, o75, rfl, rfl⟩ := hNz71
              obtain ⟨v72, h73, rfl⟩ := hSz71
              have hltz71 : pre_.length < (rng 0 (digits_ - ((ixg z28.1 1).length : Int))).length := by rw [hxsz71, List.length_append, List.length_cons]; omega
              have hmemz71 : x76 ∈ (rng 0 (digits_ - ((ixg z28.1 1).length : Int))) := by rw [hxsz71]; exact List.mem_append_right _ List.mem_cons_self
              try simp only [rng_length, rng_mem, enumL_length] at hltz71 hmemz71
              show B _ _ _ _ _ _ _ (st_law_due_2 z71 x76)
              unfold st_law_due_2
              cases h73
              refine b_setV (r := rI) 6 sc_law_due.nd (d_mul d_int (d_var 6 (P := rI z71) rfl rfl) (.inl ⟨by omega, by omega⟩)) (fun size_80 esize_80 v82 Gs81 s81 h83 => ?_)
              cases h83
              exact b_nil (by refine ⟨_, _, rfl, rfl⟩)
            · intro n_ z71 _ _ _ hnz71 s85 hNz71 hfz71
              obtain ⟨o74, o75, rfl, rfl⟩ := hNz71
              try simp only [rng_length, enumL_length] at hnz71
              refine b_ifx (t_w (w_or (t_cmp op_gt (nomark _) (d_var 6 (P := rI z71) rfl rfl) (d_pow (z := 1000000000000) d_int d_int ⟨by decide, by decide, by decide⟩ (by decide +kernel)) fun _ _ _ _ _ _ hx hy _ q => c_gt hx hy q) fun hk87 => (w_or1 (t_w (w_and (t_cmp op_ne (nomark _) (d_var 2 (P := rS z9) rfl rfl) (d_var 0 (P := rS text_here_) rfl rfl) fun _ _ _ _ _ _ hx hy _ q => c_neS hx hy q) fun hk86 => (w_and1 (t_cmp op_eq (nomark _) (d_var 6 (P := rI z71) rfl rfl) d_int fun _ _ _ _ _ _ hx hy _ q => c_eqI hx hy q))))))) ?_ ?_
              · intro hc88 Gs89 s89
                have dhc88 := hc88
                try simp only [decide_eq_true_eq, decide_eq_false_iff_not, Bool.and_eq_true, Bool.and_eq_false_imp, Bool.or_eq_true, Bool.or_eq_false_iff, Bool.not_eq_true', Bool.not_eq_false', Bool.not_not, ne_eq, Int.not_lt, Int.not_le] at dhc88
                exact b_ret (P := (rO rI) none) (d_toN (r := rI) d_non) (fun _ _ _ h => ⟨⟨[], rfl⟩, h⟩)
              · intro hc88 Gs89 s89
                have dhc88 := hc88
                try simp only [decide_eq_true_eq, decide_eq_false_iff_not, Bool.and_eq_true, Bool.and_eq_false_imp, Bool.or_eq_true, Bool.or_eq_false_iff, Bool.not_eq_true', Bool.not_eq_false', Bool.not_not, ne_eq, Int.not_lt, Int.not_le] at dhc88
                refine b_ifx (t_cmp op_ne (nomark _) (d_var 2 (P := rS z9) rfl rfl) (d_var 0 (P := rS text_here_) rfl rfl) fun _ _ _ _ _ _ hx hy _ q => c_neS hx hy q) ?_ ?_
                · intro hc90 Gs91 s91
                  have dhc90 := hc90
                  try simp only [decide_eq_true_eq, decide_eq_false_iff_not, Bool.and_eq_true, Bool.and_eq_false_imp, Bool.or_eq_true, Bool.or_eq_false_iff, Bool.not_eq_true', Bool.not_eq_false', Bool.not_not, ne_eq, Int.not_lt, Int.not_le] at dhc90
                  exact b_ret (P := (rO rI) (some (0 - z71))) (d_toO (r := rI) (d_sub d_int (d_var 6 (P := rI z71) rfl rfl))) (fun _ _ _ h => ⟨⟨[], rfl⟩, h⟩)
                · intro hc90 Gs91 s91
                  have dhc90 := hc90
                  try simp only [decide_eq_true_eq, decide_eq_false_iff_not, Bool.and_eq_true, Bool.and_eq_false_imp, Bool.or_eq_true, Bool.or_eq_false_iff, Bool.not_eq_true', Bool.not_eq_false', Bool.not_not, ne_eq, Int.not_lt, Int.not_le] at dhc90
                  exact b_ret (P := (rO rI) (some z71)) (d_toO (r := rI) (d_var 6 (P := rI z71) rfl rfl)) (fun _ _ _ h => ⟨⟨[], rfl⟩, h⟩)
end Ck03

namespace Ck03
open PySem L2 PyProof.Rows J
abbrev s_check_digits : Stmt := PySem.Challenge.pw_corebank_k03_whole_parse.main.body.getD 11 (.Pass ⟨0, 0, 0, 0⟩)
abbrev N_check_digits : List Str := ["digits"]
theorem sc_check_digits : FnScope ["digits"] ["digits"] (defScope s_check_digits) := ⟨rfl, rfl, rfl, by decide +kernel, rfl, by decide +kernel, by decide +kernel⟩
theorem ok_check_digits {P : Program} {w : World} {K : PySem.W.Frag} {mg : Str → Option Value} {base : Heap} {f : Addr} {fd : FuncData} (F : Fun K "check_digits" "check_digits" s_check_digits f fd) (b : Binds K fd ["digits"] []) (hmg : mg "check_digits" = some (.ref f)) {adr : _root_.Fin 7 → Addr} {B0 : Addr} (Er : Errs K mg nm_ adr B0)  :
    Fn0 P w K mg base (L2.CX P w) 1 "check_digits" 1 (sp_check_digits K adr) := by
  have hsl := sizeLine_eq
  refine fn_mkE (cE := cE adr) F sc_check_digits b hmg (fun i : (Int) => b_check_digits i) (fun i G vs h => ?_) (fun cdv A outer s H E digits_ G cs vs hr hp => ?_)
  · obtain ⟨v0_, h, _⟩ := h
    rw [h]
    rfl
  obtain ⟨v0_, rfl, h0_⟩ := hp
  cases h0_
  show B _ (wE2 adr (fun c d _ H => E c d H)) _ [some (.int digits_)] G cs _ (b_check_digits digits_)
  unfold b_check_digits
  refine b_ifx (t_not (t_chain op_le op_le d_int (d_var 0 (P := rI digits_) rfl rfl) d_int (fun _ _ _ _ _ _ hx hy _ q => c_le hx hy q) (fun _ _ _ _ _ _ hx hy _ q => c_le hx hy q))) ?_ ?_
  · intro hc1 Gs2 s2
    have dhc1 := hc1
    try simp only [decide_eq_true_eq, decide_eq_false_iff_not, Bool.and_eq_true, Bool.and_eq_false_imp, Bool.or_eq_true, Bool.or_eq_false_iff, Bool.not_eq_true', Bool.not_eq_false', Bool.not_not, ne_eq, Int.not_lt, Int.not_le] at dhc1
    exact b_raise 0 Er rfl (takes_of rfl rfl rfl rfl) rfl ⟨[], rfl⟩
  · intro hc1 Gs2 s2
    have dhc1 := hc1
    try simp only [decide_eq_true_eq, decide_eq_false_iff_not, Bool.and_eq_true, Bool.and_eq_false_imp, Bool.or_eq_true, Bool.or_eq_false_iff, Bool.not_eq_true', Bool.not_eq_false', Bool.not_not, ne_eq, Int.not_lt, Int.not_le] at dhc1
    exact b_nil ⟨⟨[], rfl⟩, rfl⟩
end Ck03

namespace Ck03
open PySem L2 PyProof.Rows J
abbrev s_check_whole : Stmt := PySem.Challenge.pw_corebank_k03_whole_parse.main.body.getD 12 (.Pass ⟨0, 0, 0, 0⟩)
abbrev N_check_whole : List Str := ["whole"]
theorem sc_check_whole : FnScope ["whole"] ["whole"] (defScope s_check_whole) := ⟨rfl, rfl, rfl, by decide +kernel, rfl, by decide +kernel, by decide +kernel⟩
theorem ok_check_whole {P : Program} {w : World} {K : PySem.W.Frag} {mg : Str → Option Value} {base : Heap} {f : Addr} {fd : FuncData} (F : Fun K "check_whole" "check_whole" s_check_whole f fd) (b : Binds K fd ["whole"] []) (hmg : mg "check_whole" = some (.ref f)) {adr : _root_.Fin 7 → Addr} {B0 : Addr} (Er : Errs K mg nm_ adr B0) (m_len : mg "len" = none) :
    Fn0 P w K mg base (L2.CX P w) 1 "check_whole" 1 (sp_check_whole K adr) := by
  have hsl := sizeLine_eq
  refine fn_mkE (cE := cE adr) F sc_check_whole b hmg (fun i : ((List Nat)) => b_check_whole i) (fun i G vs h => ?_) (fun cdv A outer s H E whole_ G cs vs hr hp => ?_)
  · obtain ⟨v0_, h, _⟩ := h
    rw [h]
    rfl
  obtain ⟨v0_, rfl, h0_, hpre⟩ := hp
  cases h0_
  show B _ (wE2 adr (fun c d _ H => E c d H)) _ [some (.str (SX.S whole_))] G cs _ (b_check_whole whole_)
  unfold b_check_whole
  try dsimp only at hpre
  have hp1 := hpre.1
  refine b_ifx (t_not (t_val (d_isdigit (d_var 0 (P := rS whole_) rfl rfl)))) ?_ ?_
  · intro hc1 Gs2 s2
    have dhc1 := hc1
    try simp only [decide_eq_true_eq, decide_eq_false_iff_not, Bool.and_eq_true, Bool.and_eq_false_imp, Bool.or_eq_true, Bool.or_eq_false_iff, Bool.not_eq_true', Bool.not_eq_false', Bool.not_not, ne_eq, Int.not_lt, Int.not_le] at dhc1
    exact b_raise 0 Er rfl (takes_of rfl rfl rfl rfl) rfl ⟨[], rfl⟩
  · intro hc1 Gs2 s2
    have dhc1 := hc1
    try simp only [decide_eq_true_eq, decide_eq_false_iff_not, Bool.and_eq_true, Bool.and_eq_false_imp, Bool.or_eq_true, Bool.or_eq_false_iff, Bool.not_eq_true', Bool.not_eq_false', Bool.not_not, ne_eq, Int.not_lt, Int.not_le] at dhc1
    refine b_ifx (t_w (w_and (t_cmp op_eq (nomark _) (d_ixS (d_var 0 (P := rS whole_) rfl rfl) d_int (by first | omega | (simp; done) | (simp; omega)) (atI_ixg (by (have hn := List.length_pos_iff.mpr (digits_of (z := whole_) hpre.2 (by simp_all)).2; constructor <;> omega)))) (d_str (l := [48]) (by decide +kernel)) fun _ _ _ _ _ _ hx hy _ q => c_eqS hx hy q) fun hk3 => (w_and1 (t_cmp op_gt (nomark _) (d_lenS m_len (d_var 0 (P := rS whole_) rfl rfl) (by first | omega | (simp; done) | (simp; omega))) d_int fun _ _ _ _ _ _ hx hy _ q => c_gt hx hy q)))) ?_ ?_
    · intro hc4 Gs5 s5
      have dhc4 := hc4
      try simp only [decide_eq_true_eq, decide_eq_false_iff_not, Bool.and_eq_true, Bool.and_eq_false_imp, Bool.or_eq_true, Bool.or_eq_false_iff, Bool.not_eq_true', Bool.not_eq_false', Bool.not_not, ne_eq, Int.not_lt, Int.not_le] at dhc4
      exact b_raise 0 Er rfl (takes_of rfl rfl rfl rfl) rfl ⟨[], rfl⟩
    · intro hc4 Gs5 s5
      have dhc4 := hc4
      try simp only [decide_eq_true_eq, decide_eq_false_iff_not, Bool.and_eq_true, Bool.and_eq_false_imp, Bool.or_eq_true, Bool.or_eq_false_iff, Bool.not_eq_true', Bool.not_eq_false', Bool.not_not, ne_eq, Int.not_lt, Int.not_le] at dhc4
      exact b_nil ⟨⟨[], rfl⟩, rfl⟩
end Ck03

namespace Ck03
open PySem L2 PyProof.Rows J
abbrev s_parse_amount : Stmt := PySem.Challenge.pw_corebank_k03_whole_parse.main.body.getD 13 (.Pass ⟨0, 0, 0, 0⟩)
abbrev N_parse_amount : List Str := ["text", "digits", "negative", "body", "whole", "point", "part", "size"]
theorem sc_parse_amount : FnScope ["text", "digits", "negative", "body", "whole", "point", "part", "size"] ["text", "digits"] (defScope s_parse_amount) := ⟨rfl, rfl, rfl, by decide +kernel, rfl, by decide +kernel, by decide +kernel⟩
theorem ok_parse_amount {P : Program} {w : World} {K : PySem.W.Frag} {mg : Str → Option Value} {base : Heap} {f : Addr} {fd : FuncData} (F : Fun K "parse_amount" "parse_amount" s_parse_amount f fd) (b : Binds K fd ["text", "digits"] []) (hmg : mg "parse_amount" = some (.ref f)) {adr : _root_.Fin 7 → Addr} {B0 : Addr} (Er : Errs K mg nm_ adr B0) (c_GREAT : GlobR mg "GREAT" (rI 1000000000000)) (m_int : mg "int" = none) (m_len : mg "len" = none) (F_check_digits : Fn0 P w K mg base (L2.CX P w) 1 "check_digits" 1 (sp_check_digits K adr)) (F_check_whole : Fn0 P w K mg base (L2.CX P w) 1 "check_whole" 1 (sp_check_whole K adr)) :
    Fn0 P w K mg base (L2.CX P w) 2 "parse_amount" 2 (sp_parse_amount K adr) := by
  have hsl := sizeLine_eq
  refine fn_mkE (cE := cE adr) F sc_parse_amount b hmg (fun i : ((List Nat) × Int) => b_parse_amount i.1 i.2) (fun i G vs h => ?_) (fun cdv A outer s H E i G cs vs hr hp => ?_)
  · obtain ⟨v0_, v1_, h, _⟩ := h
    rw [h]
    rfl
  obtain ⟨text_, digits_⟩ := i
  obtain ⟨v0_, v1_, rfl, h0_, h1_, hpre⟩ := hp
  cases h0_
  cases h1_
  show B _ (wE2 adr (fun c d _ H => E c d H)) _ [some (.str (SX.S text_)), some (.int digits_), none, none, none, none, none, none] G cs _ (b_parse_amount text_ digits_)
  unfold b_parse_amount
  try dsimp only at hpre
  have hp1 := hpre.1
  refine b_exprE (P := rN) ?_ (fun _ _ _ _ => ⟨[], rfl⟩) (fun o2 eo2 Gs1 s1 => ?_)
  · exact (de_callQ (adr := adr) (P := rN) (digits_) F_check_digits (takes_of rfl rfl rfl rfl) hr (by decide) (a_cons (P := rI digits_) (d_var 1 (P := rI digits_) rfl rfl) a_nil) (fun _ _ _ h => by obtain ⟨v0, w0, rfl, h0, rfl⟩ := h; exact ⟨v0, rfl, h0⟩) fun _ _ _ h => h)
  refine b_setV (r := rB) 2 sc_parse_amount.nd (d_cmp op_eq (nomark _) (d_slS (d_var 0 (P := rS text_) rfl rfl) do_none (do_some d_int) (by first | omega | (simp; done) | (simp; omega))) (d_str (l := [45]) (by decide +kernel)) fun _ _ _ _ _ _ hx hy _ q => c_eqS hx hy q) (fun negative_3 enegative_3 v5 Gs4 s4 h6 => ?_)
  cases h6
  refine b_setV (r := rS) 3 sc_parse_amount.nd (d_if (r := rS) (t_val (d_var 2 (P := rB negative_3) rfl rfl)) (fun hk7 => (d_slS (d_var 0 (P := rS text_) rfl rfl) (do_some d_int) do_none (by first | omega | (simp; done) | (simp; omega)))) (fun hk8 => (d_var 0 (P := rS text_) rfl rfl))) (fun body_9 ebody_9 v11 Gs10 s10 h12 => ?_)
  cases h12
  have hb1 : body_9.length ≤ 7000 := by rw [ebody_9]; split; exact Nat.le_trans (cutL_le _ _ _) hpre.1; exact hpre.1
  have hb2 : ∀ c ∈ body_9, c < 128 := by rw [ebody_9]; split; exact fun c hc => hpre.2 c (cutL_mem hc); exact hpre.2
  refine b_ifx (t_cmp op_gt (nomark _) (d_lenS m_len (d_var 3 (P := rS body_9) rfl rfl) (by first | omega | (simp; done) | (simp; omega))) d_int fun _ _ _ _ _ _ hx hy _ q => c_gt hx hy q) ?_ ?_
  · intro hc13 Gs14 s14
    have dhc13 := hc13
    try simp only [decide_eq_true_eq, decide_eq_false_iff_not, Bool.and_eq_true, Bool.and_eq_false_imp, Bool.or_eq_true, Bool.or_eq_false_iff, Bool.not_eq_true', Bool.not_eq_false', Bool.not_not, ne_eq, Int.not_lt, Int.not_le] at dhc13
    exact b_raise 0 Er rfl (takes_of rfl rfl rfl rfl) rfl ⟨[], rfl⟩
  · intro hc13 Gs14 s14
    have dhc13 := hc13
    try simp only [decide_eq_true_eq, decide_eq_false_iff_not, Bool.and_eq_true, Bool.and_eq_false_imp, Bool.or_eq_true, Bool.or_eq_false_iff, Bool.not_eq_true', Bool.not_eq_false', Bool.not_not, ne_eq, Int.not_lt, Int.not_le] at dhc13
    refine b_asgV (r := (rT K (cc rS (cc rS (c0 rS))))) (d_part (d_var 3 (P := rS body_9) rfl rfl) (d_str (l := [46]) (by decide +kernel)) (by rfl) (by first | omega | (simp; done) | (simp; omega))) (tg_tup rfl (tgs_c (tg_name 4 sc_parse_amount.nd) (tgs_c (tg_name 5 sc_parse_amount.nd) (tgs_1 (tg_name 6 sc_parse_amount.nd))))) (fun t15 et15 _ Gs22 s22 hS => ?_)
    obtain ⟨_, ⟨v20, h21, rfl⟩, ⟨_, ⟨v18, h19, rfl⟩, ⟨v16, h17, rfl⟩⟩⟩ := hS
    cases h21
    cases h19
    cases h17
    have hpl := part_le body_9 46
    rw [← et15] at hpl
    have hp3 : t15.2.2.length ≤ 100 := by omega
    have hp4 : t15.1.length ≤ 100 ∧ ∀ c ∈ t15.1, c < 128 := ⟨by omega, fun c hc => hb2 c (hpl.1.2 c hc)⟩
    refine b_exprE (P := rN) ?_ (fun _ _ _ _ => ⟨[], rfl⟩) (fun o24 eo24 Gs23 s23 => ?_)
    · exact (de_callQ (adr := adr) (P := rN) (t15.1) F_check_whole (takes_of rfl rfl rfl rfl) hr (by decide) (a_cons (P := rS t15.1) (d_var 4 (P := rS t15.1) rfl rfl) a_nil) (fun _ _ _ h => by obtain ⟨v0, w0, rfl, h0, rfl⟩ := h; exact ⟨v0, rfl, h0, (by exact hp4)⟩) fun _ _ _ h => h)
    refine b_ifx (t_w (w_and (t_cmp op_eq (nomark _) (d_var 5 (P := rS t15.2.1) rfl rfl) (d_str (l := [46]) (by decide +kernel)) fun _ _ _ _ _ _ hx hy _ q => c_eqS hx hy q) fun hk26 => (w_and1 (t_not (t_w (w_and (t_chain op_le op_le d_int (d_lenS m_len (d_var 6 (P := rS t15.2.2) rfl rfl) (by first | omega | (simp; done) | (simp; omega))) (d_var 1 (P := rI digits_) rfl rfl) (fun _ _ _ _ _ _ hx hy _ q => c_le hx hy q) (fun _ _ _ _ _ _ hx hy _ q => c_le hx hy q)) fun hk25 => (w_and1 (t_val (d_isdigit (d_var 6 (P := rS t15.2.2) rfl rfl)))))))))) ?_ ?_
    · intro hc27 Gs28 s28
      have dhc27 := hc27
      try simp only [decide_eq_true_eq, decide_eq_false_iff_not, Bool.and_eq_true, Bool.and_eq_false_imp, Bool.or_eq_true, Bool.or_eq_false_iff, Bool.not_eq_true', Bool.not_eq_false', Bool.not_not, ne_eq, Int.not_lt, Int.not_le] at dhc27
      exact b_raise 0 Er rfl (takes_of rfl rfl rfl rfl) rfl ⟨[], rfl⟩
    · intro hc27 Gs28 s28
      have dhc27 := hc27
      try simp only [decide_eq_true_eq, decide_eq_false_iff_not, Bool.and_eq_true, Bool.and_eq_false_imp, Bool.or_eq_true, Bool.or_eq_false_iff, Bool.not_eq_true', Bool.not_eq_false', Bool.not_not, ne_eq, Int.not_lt, Int.not_le] at dhc27
      refine b_setV (r := rI) 7 sc_parse_amount.nd (d_intS m_int (d_cat (d_var 4 (P := rS t15.1) rfl rfl) (d_ljust (d_var 6 (P := rS t15.2.2) rfl rfl) (d_var 1 (P := rI digits_) rfl rfl) (d_str (l := [48]) (by decide +kernel)) (by exact pad_ok (by have hd := dig_in eo2; omega)) (by rfl)) (by (have ll := lj_len t15.2.2 digits_ 48; have hd := dig_in eo2; omega))) (by exact (int_ok hb2 (by omega) (dig_in eo2) et15 eo24 (by assumption)).1) (by exact Nat.le_trans (int_ok hb2 (by omega) (dig_in eo2) et15 eo24 (by assumption)).2 (by decide))) (fun size_29 esize_29 v31 Gs30 s30 h32 => ?_)
      cases h32
      refine b_ifx (t_cmp op_gt (nomark _) (d_var 7 (P := rI size_29) rfl rfl) (d_globR c_GREAT) fun _ _ _ _ _ _ hx hy _ q => c_gt hx hy q) ?_ ?_
      · intro hc33 Gs34 s34
        have dhc33 := hc33
        try simp only [decide_eq_true_eq, decide_eq_false_iff_not, Bool.and_eq_true, Bool.and_eq_false_imp, Bool.or_eq_true, Bool.or_eq_false_iff, Bool.not_eq_true', Bool.not_eq_false', Bool.not_not, ne_eq, Int.not_lt, Int.not_le] at dhc33
        exact b_raise 0 Er rfl (takes_of rfl rfl rfl rfl) rfl ⟨[], rfl⟩
      · intro hc33 Gs34 s34
        have dhc33 := hc33
        try simp only [decide_eq_true_eq, decide_eq_false_iff_not, Bool.and_eq_true, Bool.and_eq_false_imp, Bool.or_eq_true, Bool.or_eq_false_iff, Bool.not_eq_true', Bool.not_eq_false', Bool.not_not, ne_eq, Int.not_lt, Int.not_le] at dhc33
        refine b_ifx (t_w (w_and (t_val (d_var 2 (P := rB negative_3) rfl rfl)) fun hk35 => (w_and1 (t_cmp op_eq (nomark _) (d_var 7 (P := rI size_29) rfl rfl) d_int fun _ _ _ _ _ _ hx hy _ q => c_eqI hx hy q)))) ?_ ?_
        · intro hc36 Gs37 s37
          have dhc36 := hc36
          try simp only [decide_eq_true_eq, decide_eq_false_iff_not, Bool.and_eq_true, Bool.and_eq_false_imp, Bool.or_eq_true, Bool.or_eq_false_iff, Bool.not_eq_true', Bool.not_eq_false', Bool.not_not, ne_eq, Int.not_lt, Int.not_le] at dhc36
          exact b_raise 0 Er rfl (takes_of rfl rfl rfl rfl) rfl ⟨[], rfl⟩
        · intro hc36 Gs37 s37
          have dhc36 := hc36
          try simp only [decide_eq_true_eq, decide_eq_false_iff_not, Bool.and_eq_true, Bool.and_eq_false_imp, Bool.or_eq_true, Bool.or_eq_false_iff, Bool.not_eq_true', Bool.not_eq_false', Bool.not_not, ne_eq, Int.not_lt, Int.not_le] at dhc36
          exact b_ret (P := rI (if (negative_3) = true then (0 - size_29) else size_29)) (d_if (r := rI) (t_val (d_var 2 (P := rB negative_3) rfl rfl)) (fun hk38 => (d_sub d_int (d_var 7 (P := rI size_29) rfl rfl))) (fun hk39 => (d_var 7 (P := rI size_29) rfl rfl))) (fun _ _ _ h => ⟨⟨[], rfl⟩, h⟩)
end Ck03

namespace Ck03
open PySem L2 PyProof.Rows J
abbrev s_law_kinds : Stmt := PySem.Challenge.pw_corebank_k03_whole_parse.main.body.getD 16 (.Pass ⟨0, 0, 0, 0⟩)
abbrev N_law_kinds : List Str := ["_law_error", "_law_kinds_here"]
theorem sc_law_kinds : FnScope ["_law_error", "_law_kinds_here"] ["_law_error"] (defScope s_law_kinds) := ⟨rfl, rfl, rfl, by decide +kernel, rfl, by decide +kernel, by decide +kernel⟩
theorem ok_law_kinds {P : Program} {w : World} {K : PySem.W.Frag} {mg : Str → Option Value} {base : Heap} {f : Addr} {fd : FuncData} (F : Fun K "_law_kinds" "_law_kinds" s_law_kinds f fd) (b : Binds K fd ["_law_error"] []) (hmg : mg "_law_kinds" = some (.ref f)) {adr : _root_.Fin 7 → Addr} {B0 : Addr} (Er : Errs K mg nm_ adr B0) (m_isinstance : mg "isinstance" = none) :
    FnX P w K mg base 1 "_law_kinds" 1 (sp_law_kinds K adr) := by
  have hsl := sizeLine_eq
  refine fn_mkX F sc_law_kinds b hmg b_law_kinds (fun cdv A outer s H E p error_ G cs hr hz hf => ?_)
  show B _ _ _ [some (.ref p.1), none] G cs _ (b_law_kinds error_)
  unfold b_law_kinds
  refine b_setN 1 sc_law_kinds.nd (n_lst (r := rS) (xs := ([] : (List (List Nat)))) a_nil ls_n) (fun l2 us3 Gs4 s4 h5 => ?_)
  refine letV_intro (fun kinds_here_1 ekinds_here_1 => ?_)
  rw [← ekinds_here_1] at h5
  have nkinds_here_1 : kinds_here_1.length = 0 := by rw [ekinds_here_1]; rfl
  refine b_if (S' := ((List (List Nat)))) (fun (z8 : ((List (List Nat)))) σ_ G_ cs_ => ∃ us9 : List V, σ_ = [some (.ref p.1), some (.ref l2)] ∧ (l2, HO.lst us9) :: cs = cs_ ∧ Rs rS G_ z8 us9 ∧ z8.length ≤ kinds_here_1.length + 1) (t_val (d_isE error_ 0 Er hz hf List.mem_cons_self m_isinstance (d_var 0 (P := rV (.ref p.1)) rfl rfl) rfl)) ?_ ?_ ?_
  · intro hc6 Gs7 s7
    have dhc6 := hc6
    try simp only [decide_eq_true_eq, decide_eq_false_iff_not, Bool.and_eq_true, Bool.and_eq_false_imp, Bool.or_eq_true, Bool.or_eq_false_iff, Bool.not_eq_true', Bool.not_eq_false', Bool.not_not, ne_eq, Int.not_lt, Int.not_le] at dhc6
    refine b_app 0 (P := rS [66, 97, 100, 86, 97, 108, 117, 101]) rfl (d_var 1 (P := rV (.ref l2)) rfl rfl) (d_str (l := [66, 97, 100, 86, 97, 108, 117, 101]) (by decide +kernel)) (by have hq := Rs.length h5; omega) (fun v11 Gs12 s12 h13 => ?_)
    have h15 := Rs.snoc h13 (Rs.mono (s7.trans s12) h5)
    refine letV_intro (fun kinds_here_14 ekinds_here_14 => ?_)
    rw [← ekinds_here_14] at h15
    have nkinds_here_14 : kinds_here_14.length = kinds_here_1.length + 1 := by rw [ekinds_here_14, List.length_append]; rfl
    exact b_nil (by refine ⟨_, rfl, rfl, h15, by first | omega | (simp only [List.length_append, List.length_cons, List.length_nil] at *; omega)⟩)
  · intro hc6 Gs7 s7
    have dhc6 := hc6
    try simp only [decide_eq_true_eq, decide_eq_false_iff_not, Bool.and_eq_true, Bool.and_eq_false_imp, Bool.or_eq_true, Bool.or_eq_false_iff, Bool.not_eq_true', Bool.not_eq_false', Bool.not_not, ne_eq, Int.not_lt, Int.not_le] at dhc6
    exact b_nil (by refine ⟨_, rfl, rfl, (Rs.mono s7 h5), by first | omega | (simp only [List.length_append, List.length_cons, List.length_nil] at *; omega)⟩)
  · intro z8 _ _ _ sz8 hNz8 hmz8
    obtain ⟨us9, rfl, rfl, h10, hbz8⟩ := hNz8
    refine b_if (S' := ((List (List Nat)))) (fun (z18 : ((List (List Nat)))) σ_ G_ cs_ => ∃ us19 : List V, σ_ = [some (.ref p.1), some (.ref l2)] ∧ (l2, HO.lst us19) :: cs = cs_ ∧ Rs rS G_ z18 us19 ∧ z18.length ≤ z8.length + 1) (t_val (d_isE error_ 1 Er hz hf List.mem_cons_self m_isinstance (d_var 0 (P := rV (.ref p.1)) rfl rfl) rfl)) ?_ ?_ ?_
    · intro hc16 Gs17 s17
      have dhc16 := hc16
      try simp only [decide_eq_true_eq, decide_eq_false_iff_not, Bool.and_eq_true, Bool.and_eq_false_imp, Bool.or_eq_true, Bool.or_eq_false_iff, Bool.not_eq_true', Bool.not_eq_false', Bool.not_not, ne_eq, Int.not_lt, Int.not_le] at dhc16
      refine b_app 0 (P := rS [66, 97, 100, 68, 97, 121]) rfl (d_var 1 (P := rV (.ref l2)) rfl rfl) (d_str (l := [66, 97, 100, 68, 97, 121]) (by decide +kernel)) (by have hq := Rs.length h10; omega) (fun v21 Gs22 s22 h23 => ?_)
      have h25 := Rs.snoc h23 (Rs.mono (s17.trans s22) h10)
      refine letV_intro (fun kinds_here_24 ekinds_here_24 => ?_)
      rw [← ekinds_here_24] at h25
      have nkinds_here_24 : kinds_here_24.length = z8.length + 1 := by rw [ekinds_here_24, List.length_append]; rfl
      exact b_nil (by refine ⟨_, rfl, rfl, h25, by first | omega | (simp only [List.length_append, List.length_cons, List.length_nil] at *; omega)⟩)
    · intro hc16 Gs17 s17
      have dhc16 := hc16
      try simp only [decide_eq_true_eq, decide_eq_false_iff_not, Bool.and_eq_true, Bool.and_eq_false_imp, Bool.or_eq_true, Bool.or_eq_false_iff, Bool.not_eq_true', Bool.not_eq_false', Bool.not_not, ne_eq, Int.not_lt, Int.not_le] at dhc16
      exact b_nil (by refine ⟨_, rfl, rfl, (Rs.mono s17 h10), by first | omega | (simp only [List.length_append, List.length_cons, List.length_nil] at *; omega)⟩)
    · intro z18 _ _ _ sz18 hNz18 hmz18
      obtain ⟨us19, rfl, rfl, h20, hbz18⟩ := hNz18
      refine b_if (S' := ((List (List Nat)))) (fun (z28 : ((List (List Nat)))) σ_ G_ cs_ => ∃ us29 : List V, σ_ = [some (.ref p.1), some (.ref l2)] ∧ (l2, HO.lst us29) :: cs = cs_ ∧ Rs rS G_ z28 us29 ∧ z28.length ≤ z18.length + 1) (t_val (d_isE error_ 2 Er hz hf List.mem_cons_self m_isinstance (d_var 0 (P := rV (.ref p.1)) rfl rfl) rfl)) ?_ ?_ ?_
      · intro hc26 Gs27 s27
        have dhc26 := hc26
        try simp only [decide_eq_true_eq, decide_eq_false_iff_not, Bool.and_eq_true, Bool.and_eq_false_imp, Bool.or_eq_true, Bool.or_eq_false_iff, Bool.not_eq_true', Bool.not_eq_false', Bool.not_not, ne_eq, Int.not_lt, Int.not_le] at dhc26
        refine b_app 0 (P := rS [77, 105, 115, 115, 105, 110, 103]) rfl (d_var 1 (P := rV (.ref l2)) rfl rfl) (d_str (l := [77, 105, 115, 115, 105, 110, 103]) (by decide +kernel)) (by have hq := Rs.length h20; omega) (fun v31 Gs32 s32 h33 => ?_)
        have h35 := Rs.snoc h33 (Rs.mono (s27.trans s32) h20)
        refine letV_intro (fun kinds_here_34 ekinds_here_34 => ?_)
        rw [← ekinds_here_34] at h35
        have nkinds_here_34 : kinds_here_34.length = z18.length + 1 := by rw [ekinds_here_34, List.length_append]; rfl
        exact b_nil (by refine ⟨_, rfl, rfl, h35, by first | omega | (simp only [List.length_append, List.length_cons, List.length_nil] at *; omega)⟩)
      · intro hc26 Gs27 s27
        have dhc26 := hc26
        try simp only [decide_eq_true_eq, decide_eq_false_iff_not, Bool.and_eq_true, Bool.and_eq_false_imp, Bool.or_eq_true, Bool.or_eq_false_iff, Bool.not_eq_true', Bool.not_eq_false', Bool.not_not, ne_eq, Int.not_lt, Int.not_le] at dhc26
        exact b_nil (by refine ⟨_, rfl, rfl, (Rs.mono s27 h20), by first | omega | (simp only [List.length_append, List.length_cons, List.length_nil] at *; omega)⟩)
      · intro z28 _ _ _ sz28 hNz28 hmz28
        obtain ⟨us29, rfl, rfl, h30, hbz28⟩ := hNz28
        refine b_if (S' := ((List (List Nat)))) (fun (z38 : ((List (List Nat)))) σ_ G_ cs_ => ∃ us39 : List V, σ_ = [some (.ref p.1), some (.ref l2)] ∧ (l2, HO.lst us39) :: cs = cs_ ∧ Rs rS G_ z38 us39 ∧ z38.length ≤ z28.length + 1) (t_val (d_isE error_ 3 Er hz hf List.mem_cons_self m_isinstance (d_var 0 (P := rV (.ref p.1)) rfl rfl) rfl)) ?_ ?_ ?_
        · intro hc36 Gs37 s37
          have dhc36 := hc36
          try simp only [decide_eq_true_eq, decide_eq_false_iff_not, Bool.and_eq_true, Bool.and_eq_false_imp, Bool.or_eq_true, Bool.or_eq_false_iff, Bool.not_eq_true', Bool.not_eq_false', Bool.not_not, ne_eq, Int.not_lt, Int.not_le] at dhc36
          refine b_app 0 (P := rS [82, 101, 102, 117, 115, 101, 100]) rfl (d_var 1 (P := rV (.ref l2)) rfl rfl) (d_str (l := [82, 101, 102, 117, 115, 101, 100]) (by decide +kernel)) (by have hq := Rs.length h30; omega) (fun v41 Gs42 s42 h43 => ?_)
          have h45 := Rs.snoc h43 (Rs.mono (s37.trans s42) h30)
          refine letV_intro (fun kinds_here_44 ekinds_here_44 => ?_)
          rw [← ekinds_here_44] at h45
          have nkinds_here_44 : kinds_here_44.length = z28.length + 1 := by rw [ekinds_here_44, List.length_append]; rfl
          exact b_nil (by refine ⟨_, rfl, rfl, h45, by first | omega | (simp only [List.length_append, List.length_cons, List.length_nil] at *; omega)⟩)
        · intro hc36 Gs37 s37
          have dhc36 := hc36
          try simp only [decide_eq_true_eq, decide_eq_false_iff_not, Bool.and_eq_true, Bool.and_eq_false_imp, Bool.or_eq_true, Bool.or_eq_false_iff, Bool.not_eq_true', Bool.not_eq_false', Bool.not_not, ne_eq, Int.not_lt, Int.not_le] at dhc36
          exact b_nil (by refine ⟨_, rfl, rfl, (Rs.mono s37 h30), by first | omega | (simp only [List.length_append, List.length_cons, List.length_nil] at *; omega)⟩)
        · intro z38 _ _ _ sz38 hNz38 hmz38
          obtain ⟨us39, rfl, rfl, h40, hbz38⟩ := hNz38
          refine b_if (S' := ((List (List Nat)))) (fun (z48 : ((List (List Nat)))) σ_ G_ cs_ => ∃ us49 : List V, σ_ = [some (.ref p.1), some (.ref l2)] ∧ (l2, HO.lst us49) :: cs = cs_ ∧ Rs rS G_ z48 us49 ∧ z48.length ≤ z38.length + 1) (t_val (d_isE error_ 4 Er hz hf List.mem_cons_self m_isinstance (d_var 0 (P := rV (.ref p.1)) rfl rfl) rfl)) ?_ ?_ ?_
          · intro hc46 Gs47 s47
            have dhc46 := hc46
            try simp only [decide_eq_true_eq, decide_eq_false_iff_not, Bool.and_eq_true, Bool.and_eq_false_imp, Bool.or_eq_true, Bool.or_eq_false_iff, Bool.not_eq_true', Bool.not_eq_false', Bool.not_not, ne_eq, Int.not_lt, Int.not_le] at dhc46
            refine b_app 0 (P := rS [70, 117, 108, 108]) rfl (d_var 1 (P := rV (.ref l2)) rfl rfl) (d_str (l := [70, 117, 108, 108]) (by decide +kernel)) (by have hq := Rs.length h40; omega) (fun v51 Gs52 s52 h53 => ?_)
            have h55 := Rs.snoc h53 (Rs.mono (s47.trans s52) h40)
            refine letV_intro (fun kinds_here_54 ekinds_here_54 => ?_)
            rw [← ekinds_here_54] at h55
            have nkinds_here_54 : kinds_here_54.length = z38.length + 1 := by rw [ekinds_here_54, List.length_append]; rfl
            exact b_nil (by refine ⟨_, rfl, rfl, h55, by first | omega | (simp only [List.length_append, List.length_cons, List.length_nil] at *; omega)⟩)
          · intro hc46 Gs47 s47
            have dhc46 := hc46
            try simp only [decide_eq_true_eq, decide_eq_false_iff_not, Bool.and_eq_true, Bool.and_eq_false_imp, Bool.or_eq_true, Bool.or_eq_false_iff, Bool.not_eq_true', Bool.not_eq_false', Bool.not_not, ne_eq, Int.not_lt, Int.not_le] at dhc46
            exact b_nil (by refine ⟨_, rfl, rfl, (Rs.mono s47 h40), by first | omega | (simp only [List.length_append, List.length_cons, List.length_nil] at *; omega)⟩)
          · intro z48 _ _ _ sz48 hNz48 hmz48
            obtain ⟨us49, rfl, rfl, h50, hbz48⟩ := hNz48
            refine b_if (S' := ((List (List Nat)))) (fun (z58 : ((List (List Nat)))) σ_ G_ cs_ => ∃ us59 : List V, σ_ = [some (.ref p.1), some (.ref l2)] ∧ (l2, HO.lst us59) :: cs = cs_ ∧ Rs rS G_ z58 us59 ∧ z58.length ≤ z48.length + 1) (t_val (d_isE error_ 5 Er hz hf List.mem_cons_self m_isinstance (d_var 0 (P := rV (.ref p.1)) rfl rfl) rfl)) ?_ ?_ ?_
            · intro hc56 Gs57 s57
              have dhc56 := hc56
              try simp only [decide_eq_true_eq, decide_eq_false_iff_not, Bool.and_eq_true, Bool.and_eq_false_imp, Bool.or_eq_true, Bool.or_eq_false_iff, Bool.not_eq_true', Bool.not_eq_false', Bool.not_not, ne_eq, Int.not_lt, Int.not_le] at dhc56
              refine b_app 0 (P := rS [78, 111, 116, 65, 108, 108, 111, 119, 101, 100]) rfl (d_var 1 (P := rV (.ref l2)) rfl rfl) (d_str (l := [78, 111, 116, 65, 108, 108, 111, 119, 101, 100]) (by decide +kernel)) (by have hq := Rs.length h50; omega) (fun v61 Gs62 s62 h63 => ?_)
              have h65 := Rs.snoc h63 (Rs.mono (s57.trans s62) h50)
              refine letV_intro (fun kinds_here_64 ekinds_here_64 => ?_)
              rw [← ekinds_here_64] at h65
              have nkinds_here_64 : kinds_here_64.length = z48.length + 1 := by rw [ekinds_here_64, List.length_append]; rfl
              exact b_nil (by refine ⟨_, rfl, rfl, h65, by first | omega | (simp only [List.length_append, List.length_cons, List.length_nil] at *; omega)⟩)
            · intro hc56 Gs57 s57
              have dhc56 := hc56
              try simp only [decide_eq_true_eq, decide_eq_false_iff_not, Bool.and_eq_true, Bool.and_eq_false_imp, Bool.or_eq_true, Bool.or_eq_false_iff, Bool.not_eq_true', Bool.not_eq_false', Bool.not_not, ne_eq, Int.not_lt, Int.not_le] at dhc56
              exact b_nil (by refine ⟨_, rfl, rfl, (Rs.mono s57 h50), by first | omega | (simp only [List.length_append, List.length_cons, List.length_nil] at *; omega)⟩)
            · intro z58 _ _ _ sz58 hNz58 hmz58
              obtain ⟨us59, rfl, rfl, h60, hbz58⟩ := hNz58
              refine b_if (S' := ((List (List Nat)))) (fun (z68 : ((List (List Nat)))) σ_ G_ cs_ => ∃ us69 : List V, σ_ = [some (.ref p.1), some (.ref l2)] ∧ (l2, HO.lst us69) :: cs = cs_ ∧ Rs rS G_ z68 us69 ∧ z68.length ≤ z58.length + 1) (t_val (d_isE error_ 6 Er hz hf List.mem_cons_self m_isinstance (d_var 0 (P := rV (.ref p.1)) rfl rfl) rfl)) ?_ ?_ ?_
              · intro hc66 Gs67 s67
                have dhc66 := hc66
                try simp only [decide_eq_true_eq, decide_eq_false_iff_not, Bool.and_eq_true, Bool.and_eq_false_imp, Bool.or_eq_true, Bool.or_eq_false_iff, Bool.not_eq_true', Bool.not_eq_false', Bool.not_not, ne_eq, Int.not_lt, Int.not_le] at dhc66
                refine b_app 0 (P := rS [68, 97, 109, 97, 103, 101, 100]) rfl (d_var 1 (P := rV (.ref l2)) rfl rfl) (d_str (l := [68, 97, 109, 97, 103, 101, 100]) (by decide +kernel)) (by have hq := Rs.length h60; omega) (fun v71 Gs72 s72 h73 => ?_)
                have h75 := Rs.snoc h73 (Rs.mono (s67.trans s72) h60)
                refine letV_intro (fun kinds_here_74 ekinds_here_74 => ?_)
                rw [← ekinds_here_74] at h75
                have nkinds_here_74 : kinds_here_74.length = z58.length + 1 := by rw [ekinds_here_74, List.length_append]; rfl
                exact b_nil (by refine ⟨_, rfl, rfl, h75, by first | omega | (simp only [List.length_append, List.length_cons, List.length_nil] at *; omega)⟩)
              · intro hc66 Gs67 s67
                have dhc66 := hc66
                try simp only [decide_eq_true_eq, decide_eq_false_iff_not, Bool.and_eq_true, Bool.and_eq_false_imp, Bool.or_eq_true, Bool.or_eq_false_iff, Bool.not_eq_true', Bool.not_eq_false', Bool.not_not, ne_eq, Int.not_lt, Int.not_le] at dhc66
                exact b_nil (by refine ⟨_, rfl, rfl, (Rs.mono s67 h60), by first | omega | (simp only [List.length_append, List.length_cons, List.length_nil] at *; omega)⟩)
              · intro z68 _ _ _ sz68 hNz68 hmz68
                obtain ⟨us69, rfl, rfl, h70, hbz68⟩ := hNz68
                have hzs76 := h70
                refine b_freeze 0 rfl (fun s76 h77 => ?_)
                have kh77 : (rL K rS) z68 _ (.ref l2) := ⟨_, _, rfl, SqL.of h77, Rs.mono s76 hzs76⟩
                exact b_ret (P := (rL K rS) z68) (d_var 1 (P := (rL K rS) z68) rfl kh77) (fun _ _ _ h => ⟨⟨[], rfl⟩, h⟩)
end Ck03

namespace Ck03
open PySem L2 PyProof.Rows J
abbrev s_law_told : Stmt := PySem.Challenge.pw_corebank_k03_whole_parse.main.body.getD 24 (.Pass ⟨0, 0, 0, 0⟩)
abbrev N_law_told : List Str := ["_law_text_here", "_law_digits", "_law_told_here", "e"]
theorem sc_law_told : FnScope ["_law_text_here", "_law_digits", "_law_told_here", "e"] ["_law_text_here", "_law_digits"] (defScope s_law_told) := ⟨rfl, rfl, rfl, by decide +kernel, rfl, by decide +kernel, by decide +kernel⟩
theorem ok_law_told {P : Program} {w : World} {K : PySem.W.Frag} {mg : Str → Option Value} {base : Heap} {f : Addr} {fd : FuncData} (F : Fun K "_law_told" "_law_told" s_law_told f fd) (b : Binds K fd ["_law_text_here", "_law_digits"] []) (hmg : mg "_law_told" = some (.ref f)) {adr : _root_.Fin 7 → Addr} {B0 : Addr} (Er : Errs K mg nm_ adr B0) (m_bool : mg "bool" = none) (m_int : mg "int" = none) (m_isinstance : mg "isinstance" = none) (F_law_kinds : FnX P w K mg base 1 "_law_kinds" 1 (sp_law_kinds K adr)) (F_parse_amount : Fn0 P w K mg base (L2.CX P w) 2 "parse_amount" 2 (sp_parse_amount K adr)) :
    Fn0 P w K mg base CX0 3 "_law_told" 2 (sp_law_told K) := by
  have hsl := sizeLine_eq
  refine fn_mk F sc_law_told b hmg (fun i : ((List Nat) × Int) => b_law_told i.1 i.2) (fun i G vs h => ?_) (fun cdv A outer s H E i G cs vs hr hp => ?_)
  · obtain ⟨v0_, v1_, h, _⟩ := h
    rw [h]
    rfl
  obtain ⟨text_here_, digits_⟩ := i
  obtain ⟨v0_, v1_, rfl, h0_, h1_, hpre⟩ := hp
  cases h0_
  cases h1_
  show B _ _ _ [some (.str (SX.S text_here_)), some (.int digits_), none, none] G cs _ (b_law_told text_here_ digits_)
  unfold b_law_told
  try dsimp only at hpre
  refine b_tryAs 3 (S' := (Int)) (fun (z1 : (Int)) σ_ G_ cs_ => ∃ o2 : Option V, σ_ = [some (.str (SX.S text_here_)), some (.int digits_), some (.int z1), o2] ∧ cs = cs_) (fun (k3 : _root_.Fin 7) σ_ G_ cs_ => ∃ o4 : Option V, ∃ o5 : Option V, σ_ = [some (.str (SX.S text_here_)), some (.int digits_), o4, o5] ∧ cs = cs_) Er sc_law_told.nd ?_ ?_ ?_
  · intro Wx6 _ _ tk7 po8
    refine b_setE (P := rI) 2 sc_law_told.nd ?_ (fun _ _ _ _ => ⟨_, _, rfl, rfl⟩) (fun told_here_12 etold_here_12 v10 Gs9 s9 h11 => ?_)
    · exact (de_callQ (adr := adr) (P := rI) (text_here_, digits_) F_parse_amount tk7 hr (by decide) (a_cons (P := rS text_here_) (d_var 0 (P := rS text_here_) rfl rfl) (a_cons (P := rI digits_) (d_var 1 (P := rI digits_) rfl rfl) a_nil)) (fun _ _ _ h => by obtain ⟨v0, w0, rfl, h0, v1, w1, rfl, h1, rfl⟩ := h; exact ⟨v0, v1, rfl, h0, h1, (by exact hpre)⟩) fun _ _ _ h => h)
    cases h11
    exact b_nil (by refine ⟨_, rfl, rfl⟩)
  · intro k3 hm19 a13 oe14 pn15 _ _ _ s16 hNk3 hz17 hf18
    obtain ⟨o4, o5, rfl, rfl⟩ := hNk3
    exact b_ret (P := (rT K (cc rS (c0 (rL K (rSum rI rS))))) ([114, 97, 105, 115, 101, 100], ((m_law_kinds k3).map Sum.inr))) (d_tup (r := (cc rS (c0 (rL K (rSum rI rS))))) (x := ([114, 97, 105, 115, 101, 100], ((m_law_kinds k3).map Sum.inr))) (a_cons (P := rS [114, 97, 105, 115, 101, 100]) (d_str (l := [114, 97, 105, 115, 101, 100]) (by decide +kernel)) (a_cons (P := (rL K (rSum rI rS)) ((m_law_kinds k3).map Sum.inr)) (d_lmap Sum.inr (d_callX (P := (rL K rS) (m_law_kinds k3)) k3 F_law_kinds (roomX hr (by decide)) List.mem_cons_self hz17 hf18 (d_var 3 (P := rV (.ref a13)) rfl rfl) fun _ _ h => h) fun _ _ _ h => h) a_nil)) (tp_c tp_1)) (fun _ _ _ h => ⟨⟨[], rfl⟩, h⟩)
  · intro z1 _ _ _ sz1 hNz1 hmz1
    obtain ⟨o2, rfl, rfl⟩ := hNz1
    refine b_ifx (t_w (w_or (t_val (d_isi (h := (inferInstance : HasTy K rI "int")) (u := "bool") (k := false) m_isinstance m_bool (d_var 2 (P := rI z1) rfl rfl))) fun hk20 => (w_or1 (t_not (t_val (d_isi (h := (inferInstance : HasTy K rI "int")) (u := "int") (k := true) m_isinstance m_int (d_var 2 (P := rI z1) rfl rfl))))))) ?_ ?_
    · intro hc21 Gs22 s22
      have dhc21 := hc21
      try simp only [decide_eq_true_eq, decide_eq_false_iff_not, Bool.and_eq_true, Bool.and_eq_false_imp, Bool.or_eq_true, Bool.or_eq_false_iff, Bool.not_eq_true', Bool.not_eq_false', Bool.not_not, ne_eq, Int.not_lt, Int.not_le] at dhc21
      exact b_ret (P := (rT K (cc rS (c0 (rL K (rSum rI rS))))) ([115, 116, 114, 97, 110, 103, 101], ([] : (List (Int ⊕ (List Nat)))))) (d_tup (r := (cc rS (c0 (rL K (rSum rI rS))))) (x := ([115, 116, 114, 97, 110, 103, 101], ([] : (List (Int ⊕ (List Nat)))))) (a_cons (P := rS [115, 116, 114, 97, 110, 103, 101]) (d_str (l := [115, 116, 114, 97, 110, 103, 101]) (by decide +kernel)) (a_cons (P := (rL K (rSum rI rS)) ([] : (List (Int ⊕ (List Nat))))) (d_new (n_lst (r := (rSum rI rS)) (xs := ([] : (List (Int ⊕ (List Nat))))) a_nil ls_n)) a_nil)) (tp_c tp_1)) (fun _ _ _ h => ⟨⟨[], rfl⟩, h⟩)
    · intro hc21 Gs22 s22
      have dhc21 := hc21
      try simp only [decide_eq_true_eq, decide_eq_false_iff_not, Bool.and_eq_true, Bool.and_eq_false_imp, Bool.or_eq_true, Bool.or_eq_false_iff, Bool.not_eq_true', Bool.not_eq_false', Bool.not_not, ne_eq, Int.not_lt, Int.not_le] at dhc21
      exact b_ret (P := (rT K (cc rS (c0 (rL K (rSum rI rS))))) ([114, 101, 97, 100], [(Sum.inl z1)])) (d_tup (r := (cc rS (c0 (rL K (rSum rI rS))))) (x := ([114, 101, 97, 100], [(Sum.inl z1)])) (a_cons (P := rS [114, 101, 97, 100]) (d_str (l := [114, 101, 97, 100]) (by decide +kernel)) (a_cons (P := (rL K (rSum rI rS)) [(Sum.inl z1)]) (d_new (n_lst (r := (rSum rI rS)) (xs := [(Sum.inl z1)]) (a_cons (P := (rSum rI rS) (Sum.inl z1)) (d_inl (r := rI) (r' := rS) (d_var 2 (P := rI z1) rfl rfl)) a_nil) (ls_c ls_n))) a_nil)) (tp_c tp_1)) (fun _ _ _ h => ⟨⟨[], rfl⟩, h⟩)
end Ck03

namespace Ck03
open PySem L2 PyProof.Rows J
abbrev s_law : Stmt := PySem.Challenge.pw_corebank_k03_whole_parse.main.body.getD 25 (.Pass ⟨0, 0, 0, 0⟩)
abbrev N_law : List Str := ["_law_script", "_law_cell", "_law_numbers_here", "_law_digits", "_law_text_here", "_law_due_here", "_law_told_here"]
theorem sc_law : FnScope ["_law_script", "_law_cell", "_law_numbers_here", "_law_digits", "_law_text_here", "_law_due_here", "_law_told_here"] ["_law_script"] (defScope s_law) := ⟨rfl, rfl, rfl, by decide +kernel, rfl, by decide +kernel, by decide +kernel⟩
theorem ok_law {P : Program} {w : World} {K : PySem.W.Frag} {mg : Str → Option Value} {base : Heap} {f : Addr} {fd : FuncData} (F : Fun K "law" "law" s_law f fd) (b : Binds K fd ["_law_script"] []) (hmg : mg "law" = some (.ref f)) {adr : _root_.Fin 7 → Addr} {B0 : Addr} (Er : Errs K mg nm_ adr B0) (F_law_due : Fn0 P w K mg base CX0 2 "_law_due" 2 (sp_law_due K)) (F_law_numbers : Fn0 P w K mg base CX0 1 "_law_numbers" 2 (sp_law_numbers K)) (F_law_text : Fn0 P w K mg base CX0 3 "_law_text" 2 (sp_law_text K)) (F_law_told : Fn0 P w K mg base CX0 3 "_law_told" 2 (sp_law_told K)) :
    FnOk P w K mg base CX0 4 f fd ["_law_script"] (sp_law K) := by
  have hsl := sizeLine_eq
  refine fn_ok F sc_law (fun i : ((List Int)) => b_law i) (fun i G vs h => ?_) (fun cdv A outer s H E script_ G cs vs hr hp => ?_)
  · obtain ⟨v0_, h, _⟩ := h
    rw [h]
    rfl
  obtain ⟨v0_, rfl, h0_, hpre⟩ := hp
  show B _ _ _ [some v0_, none, none, none, none, none, none] G cs _ (b_law script_)
  unfold b_law
  try dsimp only at hpre
  refine b_for (f := (st_law_1)) (s0 := ()) (xs := ([4] ++ script_)) (fun n_ (z1 : Unit) σ_ G_ cs_ => ∃ o4 : Option V, ∃ o5 : Option V, ∃ o6 : Option V, ∃ o7 : Option V, ∃ o8 : Option V, ∃ o9 : Option V, σ_ = [some v0_, o4, o5, o6, o7, o8, o9] ∧ cs = cs_) (i_listF (r := rI) (d_new (n_cat (r := rI) (D.imp (P := (rL K rI) [4]) (d_new (n_lst (r := rI) (xs := [4]) (a_cons (P := rI 4) d_int a_nil) (ls_c ls_n))) fun _ _ => rdL_of) (D.imp (P := (rL K rI) script_) (d_var 0 (P := (rL K rI) script_) rfl h0_) fun _ _ => rdL_of) (by first | omega | (simp; done) | (simp; omega))))) (tg_name 1 sc_law.nd) rfl PassesOwn.never ?_ ?_ ?_ ?_
  · intro _ s40
    exact ⟨_, _, _, _, _, _, rfl, rfl⟩
  · intro _ _ _ _ _ _
    trivial
  · intro pre_ x10 post_ z1 _ _ _ _ _ hxsz1 hrez1 s11 hNz1 s12 hSz1
    obtain ⟨o4, o5, o6, o7, o8, o9, rfl, rfl⟩ := hNz1
    obtain ⟨v2, h3, rfl⟩ := hSz1
    have hltz1 : pre_.length < ([4] ++ script_).length := by rw [hxsz1, List.length_append, List.length_cons]; omega
    have hmemz1 : x10 ∈ ([4] ++ script_) := by rw [hxsz1]; exact List.mem_append_right _ List.mem_cons_self
    try simp only [rng_length, rng_mem, enumL_length] at hltz1 hmemz1
    show B _ _ _ _ _ _ _ (st_law_1 z1 x10)
    unfold st_law_1
    cases h3
    refine b_setV (r := (rL K rI)) 2 sc_law.nd (d_callQ (P := (rL K rI) (m_law_numbers x10 32)) (x10, 32) F_law_numbers hr (by decide) (a_cons (P := rI x10) (d_var 1 (P := rI x10) rfl rfl) (a_cons (P := rI 32) d_int a_nil)) (fun _ _ _ h => by obtain ⟨v0, w0, rfl, h0, v1, w1, rfl, h1, rfl⟩ := h; exact ⟨v0, v1, rfl, h0, h1, (by (try dsimp only); first | assumption | omega | (refine ⟨?_, ?_⟩ <;> omega) | (refine ⟨?_, ?_, ?_⟩ <;> omega) | simp_all)⟩) fun _ _ h => h) (fun numbers_here_14 enumbers_here_14 v16 Gs15 s15 h17 => ?_)
    have hN : J.Nums 32 numbers_here_14 := by rw [enumbers_here_14]; exact J.nums _ 32
    have hlen := hN.len
    have hn1 := hN.bd 1
    have hn7 := hN.bd 7
    have hn9 := hN.bd 9
    refine b_setV (r := rI) 3 sc_law.nd (d_mod (d_ixL (r := rI) (xs := numbers_here_14) (i := 31) (x := (ixg numbers_here_14 31)) (D.imp (P := (rL K rI) numbers_here_14) (d_var 2 (P := (rL K rI) numbers_here_14) rfl h17) fun _ _ => rdL_of) d_int (atI_ixg (by first | (constructor <;> omega) | (simp only [List.length_cons, List.length_nil]; constructor <;> omega) | exact ix_mod (by omega) | (simp only [decide_eq_true_eq, decide_eq_false_iff_not] at *; constructor <;> omega)))) d_int (by decide)) (fun digits_18 edigits_18 v20 Gs19 s19 h21 => ?_)
    cases h21
    have hD : 0 ≤ digits_18 ∧ digits_18 ≤ 3 := by omega
    refine b_setV (r := rS) 4 sc_law.nd (d_callQ (P := rS (m_law_text numbers_here_14 digits_18)) (numbers_here_14, digits_18) F_law_text hr (by decide) (a_cons (P := (rL K rI) numbers_here_14) (d_var 2 (P := (rL K rI) numbers_here_14) rfl (Mono.mono s19 h17)) (a_cons (P := rI digits_18) (d_var 3 (P := rI digits_18) rfl rfl) a_nil)) (fun _ _ _ h => by obtain ⟨v0, w0, rfl, h0, v1, w1, rfl, h1, rfl⟩ := h; exact ⟨v0, v1, rfl, h0, h1, (by exact ⟨hN, hD⟩)⟩) fun _ _ h => h) (fun text_here_22 etext_here_22 v24 Gs23 s23 h25 => ?_)
    cases h25
    have hta := text_asc hN hD
    rw [← etext_here_22] at hta
    refine b_setV (r := (rO rI)) 5 sc_law.nd (d_callQ (P := (rO rI) (m_law_due text_here_22 digits_18)) (text_here_22, digits_18) F_law_due hr (by decide) (a_cons (P := rS text_here_22) (d_var 4 (P := rS text_here_22) rfl rfl) (a_cons (P := rI digits_18) (d_var 3 (P := rI digits_18) rfl rfl) a_nil)) (fun _ _ _ h => by obtain ⟨v0, w0, rfl, h0, v1, w1, rfl, h1, rfl⟩ := h; exact ⟨v0, v1, rfl, h0, h1, (by exact ⟨hta, hD⟩)⟩) fun _ _ h => h) (fun due_here_26 edue_here_26 v28 Gs27 s27 h29 => ?_)
    refine b_setV (r := (rT K (cc rS (c0 (rL K (rSum rI rS)))))) 6 sc_law.nd (d_callQ (P := (rT K (cc rS (c0 (rL K (rSum rI rS))))) (m_law_told text_here_22 digits_18)) (text_here_22, digits_18) F_law_told hr (by decide) (a_cons (P := rS text_here_22) (d_var 4 (P := rS text_here_22) rfl rfl) (a_cons (P := rI digits_18) (d_var 3 (P := rI digits_18) rfl rfl) a_nil)) (fun _ _ _ h => by obtain ⟨v0, w0, rfl, h0, v1, w1, rfl, h1, rfl⟩ := h; exact ⟨v0, v1, rfl, h0, h1, (by exact hta)⟩) fun _ _ h => h) (fun told_here_30 etold_here_30 v32 Gs31 s31 h33 => ?_)
    have hok := ok_told text_here_22 digits_18
    rw [← etold_here_30] at hok
    refine b_ifx (t_w (w_and (t_isN (r := rI) (d_var 5 (P := (rO rI) due_here_26) rfl (Mono.mono s31 h29))) fun hk34 => (w_and1 (t_neD (K := K) (r := (rT K (cc rS (c0 (rL K (rSum rI rS)))))) hr (d_var 6 (P := (rT K (cc rS (c0 (rL K (rSum rI rS))))) told_here_30) rfl h33) (d_tup (r := (cc rS (c0 (rL K (rSum rI rS))))) (x := ([114, 97, 105, 115, 101, 100], [(Sum.inr [66, 97, 100, 86, 97, 108, 117, 101])])) (a_cons (P := rS [114, 97, 105, 115, 101, 100]) (d_str (l := [114, 97, 105, 115, 101, 100]) (by decide +kernel)) (a_cons (P := (rL K (rSum rI rS)) [(Sum.inr [66, 97, 100, 86, 97, 108, 117, 101])]) (d_new (n_lst (r := (rSum rI rS)) (xs := [(Sum.inr [66, 97, 100, 86, 97, 108, 117, 101])]) (a_cons (P := (rSum rI rS) (Sum.inr [66, 97, 100, 86, 97, 108, 117, 101])) (d_inr (r := rI) (r' := rS) (d_str (l := [66, 97, 100, 86, 97, 108, 117, 101]) (by decide +kernel))) a_nil) (ls_c ls_n))) a_nil)) (tp_c tp_1)) (by first | exact hok | simp [EqR.ok, EqT.ok]) (by simp [EqR.ok, EqT.ok]))))) ?_ ?_
    · intro hc35 Gs36 s36
      have dhc35 := hc35
      try simp only [decide_eq_true_eq, decide_eq_false_iff_not, Bool.and_eq_true, Bool.and_eq_false_imp, Bool.or_eq_true, Bool.or_eq_false_iff, Bool.not_eq_true', Bool.not_eq_false', Bool.not_not, ne_eq, Int.not_lt, Int.not_le] at dhc35
      exact b_ret (P := rB false) d_bl (fun _ _ _ h => ⟨⟨[], rfl⟩, h⟩)
    · intro hc35 Gs36 s36
      have dhc35 := hc35
      try simp only [decide_eq_true_eq, decide_eq_false_iff_not, Bool.and_eq_true, Bool.and_eq_false_imp, Bool.or_eq_true, Bool.or_eq_false_iff, Bool.not_eq_true', Bool.not_eq_false', Bool.not_not, ne_eq, Int.not_lt, Int.not_le] at dhc35
      refine b_ifx (t_w (w_and (t_notN (r := rI) (d_var 5 (P := (rO rI) due_here_26) rfl (Mono.mono (s31.trans s36) h29))) fun hk37 => (w_and1 (t_neD (K := K) (r := (rT K (cc rS (c0 (rL K (rSum rI rS)))))) hr (d_var 6 (P := (rT K (cc rS (c0 (rL K (rSum rI rS))))) told_here_30) rfl (Mono.mono s36 h33)) (d_tup (r := (cc rS (c0 (rL K (rSum rI rS))))) (x := ([114, 101, 97, 100], [(Sum.inl (oGet due_here_26))])) (a_cons (P := rS [114, 101, 97, 100]) (d_str (l := [114, 101, 97, 100]) (by decide +kernel)) (a_cons (P := (rL K (rSum rI rS)) [(Sum.inl (oGet due_here_26))]) (d_new (n_lst (r := (rSum rI rS)) (xs := [(Sum.inl (oGet due_here_26))]) (a_cons (P := (rSum rI rS) (Sum.inl (oGet due_here_26))) (d_inl (r := rI) (r' := rS) (d_unO (r := rI) (d_var 5 (P := (rO rI) due_here_26) rfl (Mono.mono (s31.trans s36) h29)) (by first | exact oS1 (by assumption) | exact oS2 (by assumption)))) a_nil) (ls_c ls_n))) a_nil)) (tp_c tp_1)) (by first | exact hok | simp [EqR.ok, EqT.ok]) (by first | exact hok | simp [EqR.ok, EqT.ok]))))) ?_ ?_
      · intro hc38 Gs39 s39
        have dhc38 := hc38
        try simp only [decide_eq_true_eq, decide_eq_false_iff_not, Bool.and_eq_true, Bool.and_eq_false_imp, Bool.or_eq_true, Bool.or_eq_false_iff, Bool.not_eq_true', Bool.not_eq_false', Bool.not_not, ne_eq, Int.not_lt, Int.not_le] at dhc38
        exact b_ret (P := rB false) d_bl (fun _ _ _ h => ⟨⟨[], rfl⟩, h⟩)
      · intro hc38 Gs39 s39
        have dhc38 := hc38
        try simp only [decide_eq_true_eq, decide_eq_false_iff_not, Bool.and_eq_true, Bool.and_eq_false_imp, Bool.or_eq_true, Bool.or_eq_false_iff, Bool.not_eq_true', Bool.not_eq_false', Bool.not_not, ne_eq, Int.not_lt, Int.not_le] at dhc38
        exact b_nil (by refine ⟨_, _, _, _, _, _, rfl, rfl⟩)
  · intro n_ z1 _ _ _ hnz1 s41 hNz1 hfz1
    obtain ⟨o4, o5, o6, o7, o8, o9, rfl, rfl⟩ := hNz1
    try simp only [rng_length, enumL_length] at hnz1
    exact b_ret (P := rB true) d_bl (fun _ _ _ h => ⟨⟨[], rfl⟩, h⟩)
end Ck03

namespace Ck03
open PySem L2 PyProof.Rows J
theorem all_mk {l : PySem.W.OpenLaw} {w : World} {K : PySem.W.Frag} {h : Heap} {mg : Str → Option Value} {fa f1 f2 f3 f4 f5 f6 f7 f8 f9 f10 f11 f12 f13 f14 : Addr} (X : K.In h) (G : h.Ns mainGlobals mg) (hfa : mg "law" = some (.ref fa))
    {od1 an1 od2 an2 od3 an3 od4 an4 od5 an5 od6 an6 od7 an7 od8 an8 od9 an9 od10 an10 od11 an11 od12 an12 od13 an13 od14 an14 : Option Addr} {sl1 sl2 sl3 sl4 sl5 sl6 sl7 sl8 sl9 sl10 sl11 sl12 sl13 sl14 : Array (Option Value)} {oc1 kV1 dc1 pm1 cd1 ct1 oc2 kV2 dc2 pm2 cd2 ct2 oc3 kV3 dc3 pm3 cd3 ct3 oc4 kV4 dc4 pm4 cd4 ct4 oc5 kV5 dc5 pm5 cd5 ct5 oc6 kV6 dc6 pm6 cd6 ct6 oc7 kV7 dc7 pm7 cd7 ct7 oc8 kV8 dc8 pm8 cd8 ct8 oc9 kV9 dc9 pm9 cd9 ct9 oc10 kV10 dc10 pm10 cd10 ct10 oc11 kV11 dc11 pm11 cd11 ct11 oc12 kV12 dc12 pm12 cd12 ct12 oc13 kV13 dc13 pm13 cd13 ct13 oc14 kV14 dc14 pm14 cd14 ct14 : Value}
    (a1 : PySem.W.nsIn K mainGlobals "_law_numbers" = some (some (.ref f1))) (l1 : K.lookup f1 = some ⟨oc1, od1, .func (PySem.W.fnOf "_law_numbers" "_law_numbers" (defArgs s_law_numbers) (defBody s_law_numbers) (defScope s_law_numbers) .none kV1 dc1 pm1 an1 cd1 ct1), sl1⟩) (c1 : PySem.W.codeIn K cd1 "_law_numbers" = true) (k1 : PySem.W.keepIn K (.ref f1) = true)
    (a2 : PySem.W.nsIn K mainGlobals "_law_sign" = some (some (.ref f2))) (l2 : K.lookup f2 = some ⟨oc2, od2, .func (PySem.W.fnOf "_law_sign" "_law_sign" (defArgs s_law_sign) (defBody s_law_sign) (defScope s_law_sign) .none kV2 dc2 pm2 an2 cd2 ct2), sl2⟩) (c2 : PySem.W.codeIn K cd2 "_law_sign" = true) (k2 : PySem.W.keepIn K (.ref f2) = true)
    (a3 : PySem.W.nsIn K mainGlobals "_law_any" = some (some (.ref f3))) (l3 : K.lookup f3 = some ⟨oc3, od3, .func (PySem.W.fnOf "_law_any" "_law_any" (defArgs s_law_any) (defBody s_law_any) (defScope s_law_any) .none kV3 dc3 pm3 an3 cd3 ct3), sl3⟩) (c3 : PySem.W.codeIn K cd3 "_law_any" = true) (k3 : PySem.W.keepIn K (.ref f3) = true)
    (a4 : PySem.W.nsIn K mainGlobals "_law_written" = some (some (.ref f4))) (l4 : K.lookup f4 = some ⟨oc4, od4, .func (PySem.W.fnOf "_law_written" "_law_written" (defArgs s_law_written) (defBody s_law_written) (defScope s_law_written) .none kV4 dc4 pm4 an4 cd4 ct4), sl4⟩) (c4 : PySem.W.codeIn K cd4 "_law_written" = true) (k4 : PySem.W.keepIn K (.ref f4) = true)
    (a5 : PySem.W.nsIn K mainGlobals "_law_turned" = some (some (.ref f5))) (l5 : K.lookup f5 = some ⟨oc5, od5, .func (PySem.W.fnOf "_law_turned" "_law_turned" (defArgs s_law_turned) (defBody s_law_turned) (defScope s_law_turned) .none kV5 dc5 pm5 an5 cd5 ct5), sl5⟩) (c5 : PySem.W.codeIn K cd5 "_law_turned" = true) (k5 : PySem.W.keepIn K (.ref f5) = true)
    (a6 : PySem.W.nsIn K mainGlobals "_law_text" = some (some (.ref f6))) (l6 : K.lookup f6 = some ⟨oc6, od6, .func (PySem.W.fnOf "_law_text" "_law_text" (defArgs s_law_text) (defBody s_law_text) (defScope s_law_text) .none kV6 dc6 pm6 an6 cd6 ct6), sl6⟩) (c6 : PySem.W.codeIn K cd6 "_law_text" = true) (k6 : PySem.W.keepIn K (.ref f6) = true)
    (a7 : PySem.W.nsIn K mainGlobals "_law_number" = some (some (.ref f7))) (l7 : K.lookup f7 = some ⟨oc7, od7, .func (PySem.W.fnOf "_law_number" "_law_number" (defArgs s_law_number) (defBody s_law_number) (defScope s_law_number) .none kV7 dc7 pm7 an7 cd7 ct7), sl7⟩) (c7 : PySem.W.codeIn K cd7 "_law_number" = true) (k7 : PySem.W.keepIn K (.ref f7) = true)
    (a8 : PySem.W.nsIn K mainGlobals "_law_due" = some (some (.ref f8))) (l8 : K.lookup f8 = some ⟨oc8, od8, .func (PySem.W.fnOf "_law_due" "_law_due" (defArgs s_law_due) (defBody s_law_due) (defScope s_law_due) .none kV8 dc8 pm8 an8 cd8 ct8), sl8⟩) (c8 : PySem.W.codeIn K cd8 "_law_due" = true) (k8 : PySem.W.keepIn K (.ref f8) = true)
    (a9 : PySem.W.nsIn K mainGlobals "check_digits" = some (some (.ref f9))) (l9 : K.lookup f9 = some ⟨oc9, od9, .func (PySem.W.fnOf "check_digits" "check_digits" (defArgs s_check_digits) (defBody s_check_digits) (defScope s_check_digits) .none kV9 dc9 pm9 an9 cd9 ct9), sl9⟩) (c9 : PySem.W.codeIn K cd9 "check_digits" = true) (k9 : PySem.W.keepIn K (.ref f9) = true)
    (a10 : PySem.W.nsIn K mainGlobals "check_whole" = some (some (.ref f10))) (l10 : K.lookup f10 = some ⟨oc10, od10, .func (PySem.W.fnOf "check_whole" "check_whole" (defArgs s_check_whole) (defBody s_check_whole) (defScope s_check_whole) .none kV10 dc10 pm10 an10 cd10 ct10), sl10⟩) (c10 : PySem.W.codeIn K cd10 "check_whole" = true) (k10 : PySem.W.keepIn K (.ref f10) = true)
    (a11 : PySem.W.nsIn K mainGlobals "parse_amount" = some (some (.ref f11))) (l11 : K.lookup f11 = some ⟨oc11, od11, .func (PySem.W.fnOf "parse_amount" "parse_amount" (defArgs s_parse_amount) (defBody s_parse_amount) (defScope s_parse_amount) .none kV11 dc11 pm11 an11 cd11 ct11), sl11⟩) (c11 : PySem.W.codeIn K cd11 "parse_amount" = true) (k11 : PySem.W.keepIn K (.ref f11) = true)
    (a12 : PySem.W.nsIn K mainGlobals "_law_kinds" = some (some (.ref f12))) (l12 : K.lookup f12 = some ⟨oc12, od12, .func (PySem.W.fnOf "_law_kinds" "_law_kinds" (defArgs s_law_kinds) (defBody s_law_kinds) (defScope s_law_kinds) .none kV12 dc12 pm12 an12 cd12 ct12), sl12⟩) (c12 : PySem.W.codeIn K cd12 "_law_kinds" = true) (k12 : PySem.W.keepIn K (.ref f12) = true)
    (a13 : PySem.W.nsIn K mainGlobals "_law_told" = some (some (.ref f13))) (l13 : K.lookup f13 = some ⟨oc13, od13, .func (PySem.W.fnOf "_law_told" "_law_told" (defArgs s_law_told) (defBody s_law_told) (defScope s_law_told) .none kV13 dc13 pm13 an13 cd13 ct13), sl13⟩) (c13 : PySem.W.codeIn K cd13 "_law_told" = true) (k13 : PySem.W.keepIn K (.ref f13) = true)
    (a14 : PySem.W.nsIn K mainGlobals "law" = some (some (.ref f14))) (l14 : K.lookup f14 = some ⟨oc14, od14, .func (PySem.W.fnOf "law" "law" (defArgs s_law) (defBody s_law) (defScope s_law) .none kV14 dc14 pm14 an14 cd14 ct14), sl14⟩) (c14 : PySem.W.codeIn K cd14 "law" = true) (k14 : PySem.W.keepIn K (.ref f14) = true)
    (z_abs : PySem.W.nsIn K mainGlobals "abs" = some none)
    (z_bool : PySem.W.nsIn K mainGlobals "bool" = some none)
    (z_int : PySem.W.nsIn K mainGlobals "int" = some none)
    (z_isinstance : PySem.W.nsIn K mainGlobals "isinstance" = some none)
    (z_len : PySem.W.nsIn K mainGlobals "len" = some none)
    (z_range : PySem.W.nsIn K mainGlobals "range" = some none)
    (z_str : PySem.W.nsIn K mainGlobals "str" = some none)
    {tk_GREAT : Tok} (y_GREAT : PySem.W.nsIn K mainGlobals "GREAT" = some (some (.int 1000000000000 tk_GREAT)))
    {eB e0 e1 e2 e3 e4 e5 e6 : Addr} (bB : PySem.W.nsIn K mainGlobals "BankError" = some (some (.ref eB))) (bB1 : PySem.W.subIn K (.ref eB) (.type "BaseException") = some true) (bB2 : PySem.W.hasDictIn K eB = true) (bB3 : PySem.W.typeIn K (.ref eB) = some (.type "type"))
    (ea0 : PySem.W.nsIn K mainGlobals "BadValue" = some (some (.ref e0))) (ex0 : PySem.W.excIn K e0 [.type "ValueError", .type "Exception", .type "BaseException", .type "object"] "ValueError.__new__" = true) (ek0 : PySem.W.keepIn K (.ref e0) = true) (eb0 : PySem.W.subIn K (.ref e0) (.type "BaseException") = some true) (et0 : PySem.W.typeIn K (.ref e0) = some (.type "type"))
    (eg0 : PySem.W.findIn K (.ref e0) "__getattribute__" = some (some (.builtin "BaseException.__getattribute__"))) (eh0 : PySem.W.findIn K (.ref e0) "__getattr__" = some none) (ed0 : PySem.W.hasDictIn K e0 = true) (ec0 : PySem.W.findIn K (.ref e0) "__class__" = some (some (.builtin "object.__class__"))) (em0 : PySem.W.mroIn K e0 (.type "object") = some true) (ey0 : PySem.W.subIn K (.ref e0) (.ref eB) = some true)
    (eq0_0 : PySem.W.subIn K (.ref e0) (.ref e0) = some true)
    (eq0_1 : PySem.W.subIn K (.ref e0) (.ref e1) = some false)
    (eq0_2 : PySem.W.subIn K (.ref e0) (.ref e2) = some false)
    (eq0_3 : PySem.W.subIn K (.ref e0) (.ref e3) = some false)
    (eq0_4 : PySem.W.subIn K (.ref e0) (.ref e4) = some false)
    (eq0_5 : PySem.W.subIn K (.ref e0) (.ref e5) = some false)
    (eq0_6 : PySem.W.subIn K (.ref e0) (.ref e6) = some false)
    (ea1 : PySem.W.nsIn K mainGlobals "BadDay" = some (some (.ref e1))) (ex1 : PySem.W.excIn K e1 [.type "ValueError", .type "Exception", .type "BaseException", .type "object"] "ValueError.__new__" = true) (ek1 : PySem.W.keepIn K (.ref e1) = true) (eb1 : PySem.W.subIn K (.ref e1) (.type "BaseException") = some true) (et1 : PySem.W.typeIn K (.ref e1) = some (.type "type"))
    (eg1 : PySem.W.findIn K (.ref e1) "__getattribute__" = some (some (.builtin "BaseException.__getattribute__"))) (eh1 : PySem.W.findIn K (.ref e1) "__getattr__" = some none) (ed1 : PySem.W.hasDictIn K e1 = true) (ec1 : PySem.W.findIn K (.ref e1) "__class__" = some (some (.builtin "object.__class__"))) (em1 : PySem.W.mroIn K e1 (.type "object") = some true) (ey1 : PySem.W.subIn K (.ref e1) (.ref eB) = some true)
    (eq1_0 : PySem.W.subIn K (.ref e1) (.ref e0) = some false)
    (eq1_1 : PySem.W.subIn K (.ref e1) (.ref e1) = some true)
    (eq1_2 : PySem.W.subIn K (.ref e1) (.ref e2) = some false)
    (eq1_3 : PySem.W.subIn K (.ref e1) (.ref e3) = some false)
    (eq1_4 : PySem.W.subIn K (.ref e1) (.ref e4) = some false)
    (eq1_5 : PySem.W.subIn K (.ref e1) (.ref e5) = some false)
    (eq1_6 : PySem.W.subIn K (.ref e1) (.ref e6) = some false)
    (ea2 : PySem.W.nsIn K mainGlobals "Missing" = some (some (.ref e2))) (ex2 : PySem.W.excIn K e2 [.type "ValueError", .type "Exception", .type "BaseException", .type "object"] "ValueError.__new__" = true) (ek2 : PySem.W.keepIn K (.ref e2) = true) (eb2 : PySem.W.subIn K (.ref e2) (.type "BaseException") = some true) (et2 : PySem.W.typeIn K (.ref e2) = some (.type "type"))
    (eg2 : PySem.W.findIn K (.ref e2) "__getattribute__" = some (some (.builtin "BaseException.__getattribute__"))) (eh2 : PySem.W.findIn K (.ref e2) "__getattr__" = some none) (ed2 : PySem.W.hasDictIn K e2 = true) (ec2 : PySem.W.findIn K (.ref e2) "__class__" = some (some (.builtin "object.__class__"))) (em2 : PySem.W.mroIn K e2 (.type "object") = some true) (ey2 : PySem.W.subIn K (.ref e2) (.ref eB) = some true)
    (eq2_0 : PySem.W.subIn K (.ref e2) (.ref e0) = some false)
    (eq2_1 : PySem.W.subIn K (.ref e2) (.ref e1) = some false)
    (eq2_2 : PySem.W.subIn K (.ref e2) (.ref e2) = some true)
    (eq2_3 : PySem.W.subIn K (.ref e2) (.ref e3) = some false)
    (eq2_4 : PySem.W.subIn K (.ref e2) (.ref e4) = some false)
    (eq2_5 : PySem.W.subIn K (.ref e2) (.ref e5) = some false)
    (eq2_6 : PySem.W.subIn K (.ref e2) (.ref e6) = some false)
    (ea3 : PySem.W.nsIn K mainGlobals "Refused" = some (some (.ref e3))) (ex3 : PySem.W.excIn K e3 [.type "ValueError", .type "Exception", .type "BaseException", .type "object"] "ValueError.__new__" = true) (ek3 : PySem.W.keepIn K (.ref e3) = true) (eb3 : PySem.W.subIn K (.ref e3) (.type "BaseException") = some true) (et3 : PySem.W.typeIn K (.ref e3) = some (.type "type"))
    (eg3 : PySem.W.findIn K (.ref e3) "__getattribute__" = some (some (.builtin "BaseException.__getattribute__"))) (eh3 : PySem.W.findIn K (.ref e3) "__getattr__" = some none) (ed3 : PySem.W.hasDictIn K e3 = true) (ec3 : PySem.W.findIn K (.ref e3) "__class__" = some (some (.builtin "object.__class__"))) (em3 : PySem.W.mroIn K e3 (.type "object") = some true) (ey3 : PySem.W.subIn K (.ref e3) (.ref eB) = some true)
    (eq3_0 : PySem.W.subIn K (.ref e3) (.ref e0) = some false)
    (eq3_1 : PySem.W.subIn K (.ref e3) (.ref e1) = some false)
    (eq3_2 : PySem.W.subIn K (.ref e3) (.ref e2) = some false)
    (eq3_3 : PySem.W.subIn K (.ref e3) (.ref e3) = some true)
    (eq3_4 : PySem.W.subIn K (.ref e3) (.ref e4) = some false)
    (eq3_5 : PySem.W.subIn K (.ref e3) (.ref e5) = some false)
    (eq3_6 : PySem.W.subIn K (.ref e3) (.ref e6) = some false)
    (ea4 : PySem.W.nsIn K mainGlobals "Full" = some (some (.ref e4))) (ex4 : PySem.W.excIn K e4 [.type "ValueError", .type "Exception", .type "BaseException", .type "object"] "ValueError.__new__" = true) (ek4 : PySem.W.keepIn K (.ref e4) = true) (eb4 : PySem.W.subIn K (.ref e4) (.type "BaseException") = some true) (et4 : PySem.W.typeIn K (.ref e4) = some (.type "type"))
    (eg4 : PySem.W.findIn K (.ref e4) "__getattribute__" = some (some (.builtin "BaseException.__getattribute__"))) (eh4 : PySem.W.findIn K (.ref e4) "__getattr__" = some none) (ed4 : PySem.W.hasDictIn K e4 = true) (ec4 : PySem.W.findIn K (.ref e4) "__class__" = some (some (.builtin "object.__class__"))) (em4 : PySem.W.mroIn K e4 (.type "object") = some true) (ey4 : PySem.W.subIn K (.ref e4) (.ref eB) = some true)
    (eq4_0 : PySem.W.subIn K (.ref e4) (.ref e0) = some false)
    (eq4_1 : PySem.W.subIn K (.ref e4) (.ref e1) = some false)
    (eq4_2 : PySem.W.subIn K (.ref e4) (.ref e2) = some false)
    (eq4_3 : PySem.W.subIn K (.ref e4) (.ref e3) = some false)
    (eq4_4 : PySem.W.subIn K (.ref e4) (.ref e4) = some true)
    (eq4_5 : PySem.W.subIn K (.ref e4) (.ref e5) = some false)
    (eq4_6 : PySem.W.subIn K (.ref e4) (.ref e6) = some false)
    (ea5 : PySem.W.nsIn K mainGlobals "NotAllowed" = some (some (.ref e5))) (ex5 : PySem.W.excIn K e5 [.type "ValueError", .type "Exception", .type "BaseException", .type "object"] "ValueError.__new__" = true) (ek5 : PySem.W.keepIn K (.ref e5) = true) (eb5 : PySem.W.subIn K (.ref e5) (.type "BaseException") = some true) (et5 : PySem.W.typeIn K (.ref e5) = some (.type "type"))
    (eg5 : PySem.W.findIn K (.ref e5) "__getattribute__" = some (some (.builtin "BaseException.__getattribute__"))) (eh5 : PySem.W.findIn K (.ref e5) "__getattr__" = some none) (ed5 : PySem.W.hasDictIn K e5 = true) (ec5 : PySem.W.findIn K (.ref e5) "__class__" = some (some (.builtin "object.__class__"))) (em5 : PySem.W.mroIn K e5 (.type "object") = some true) (ey5 : PySem.W.subIn K (.ref e5) (.ref eB) = some true)
    (eq5_0 : PySem.W.subIn K (.ref e5) (.ref e0) = some false)
    (eq5_1 : PySem.W.subIn K (.ref e5) (.ref e1) = some false)
    (eq5_2 : PySem.W.subIn K (.ref e5) (.ref e2) = some false)
    (eq5_3 : PySem.W.subIn K (.ref e5) (.ref e3) = some false)
    (eq5_4 : PySem.W.subIn K (.ref e5) (.ref e4) = some false)
    (eq5_5 : PySem.W.subIn K (.ref e5) (.ref e5) = some true)
    (eq5_6 : PySem.W.subIn K (.ref e5) (.ref e6) = some false)
    (ea6 : PySem.W.nsIn K mainGlobals "Damaged" = some (some (.ref e6))) (ex6 : PySem.W.excIn K e6 [.type "ValueError", .type "Exception", .type "BaseException", .type "object"] "ValueError.__new__" = true) (ek6 : PySem.W.keepIn K (.ref e6) = true) (eb6 : PySem.W.subIn K (.ref e6) (.type "BaseException") = some true) (et6 : PySem.W.typeIn K (.ref e6) = some (.type "type"))
    (eg6 : PySem.W.findIn K (.ref e6) "__getattribute__" = some (some (.builtin "BaseException.__getattribute__"))) (eh6 : PySem.W.findIn K (.ref e6) "__getattr__" = some none) (ed6 : PySem.W.hasDictIn K e6 = true) (ec6 : PySem.W.findIn K (.ref e6) "__class__" = some (some (.builtin "object.__class__"))) (em6 : PySem.W.mroIn K e6 (.type "object") = some true) (ey6 : PySem.W.subIn K (.ref e6) (.ref eB) = some true)
    (eq6_0 : PySem.W.subIn K (.ref e6) (.ref e0) = some false)
    (eq6_1 : PySem.W.subIn K (.ref e6) (.ref e1) = some false)
    (eq6_2 : PySem.W.subIn K (.ref e6) (.ref e2) = some false)
    (eq6_3 : PySem.W.subIn K (.ref e6) (.ref e3) = some false)
    (eq6_4 : PySem.W.subIn K (.ref e6) (.ref e4) = some false)
    (eq6_5 : PySem.W.subIn K (.ref e6) (.ref e5) = some false)
    (eq6_6 : PySem.W.subIn K (.ref e6) (.ref e6) = some true)
    (eN : PySem.W.specialIn K (.builtin "object.__class__") "__get__" = some (some (.builtin "getset_descriptor.__get__"))) (eT : PySem.W.takesIn K (.builtin "object.__class__") = some true)
    : ∃ fd : FuncData, (∀ (s : Shared) (v : Value), BindsTo s fd ⟨[v], []⟩ [("_law_script", v)]) ∧ ∀ base : Heap, K.In base → base.Ns mainGlobals mg → FnOk l.prog w K mg base CX0 4 fa fd ["_law_script"] (sp_law K) := by
  have e := hfa.symm.trans (PySem.W.mg_of X G a14)
  cases e
  have F1 := fun_mk (st := s_law_numbers) l1 c1 k1
  have b1 := F1.binds (ps := ["_law_cell", "_law_count"]) fun _ _ _ _ _ _ us hl => match us, hl with | [_, _], _ => rfl
  have g1 := PySem.W.mg_of X G a1
  have F2 := fun_mk (st := s_law_sign) l2 c2 k2
  have b2 := F2.binds (ps := ["_law_number_here", "_law_few"]) fun _ _ _ _ _ _ us hl => match us, hl with | [_, _], _ => rfl
  have g2 := PySem.W.mg_of X G a2
  have F3 := fun_mk (st := s_law_any) l3 c3 k3
  have b3 := F3.binds (ps := ["_law_numbers_here", "_law_few"]) fun _ _ _ _ _ _ us hl => match us, hl with | [_, _], _ => rfl
  have g3 := PySem.W.mg_of X G a3
  have F4 := fun_mk (st := s_law_written) l4 c4 k4
  have b4 := F4.binds (ps := ["_law_amount", "_law_digits"]) fun _ _ _ _ _ _ us hl => match us, hl with | [_, _], _ => rfl
  have g4 := PySem.W.mg_of X G a4
  have F5 := fun_mk (st := s_law_turned) l5 c5 k5
  have b5 := F5.binds (ps := ["_law_numbers_here", "_law_digits"]) fun _ _ _ _ _ _ us hl => match us, hl with | [_, _], _ => rfl
  have g5 := PySem.W.mg_of X G a5
  have F6 := fun_mk (st := s_law_text) l6 c6 k6
  have b6 := F6.binds (ps := ["_law_numbers_here", "_law_digits"]) fun _ _ _ _ _ _ us hl => match us, hl with | [_, _], _ => rfl
  have g6 := PySem.W.mg_of X G a6
  have F7 := fun_mk (st := s_law_number) l7 c7 k7
  have b7 := F7.binds (ps := ["_law_figures"]) fun _ _ _ _ _ _ us hl => match us, hl with | [_], _ => rfl
  have g7 := PySem.W.mg_of X G a7
  have F8 := fun_mk (st := s_law_due) l8 c8 k8
  have b8 := F8.binds (ps := ["_law_text_here", "_law_digits"]) fun _ _ _ _ _ _ us hl => match us, hl with | [_, _], _ => rfl
  have g8 := PySem.W.mg_of X G a8
  have F9 := fun_mk (st := s_check_digits) l9 c9 k9
  have b9 := F9.binds (ps := ["digits"]) fun _ _ _ _ _ _ us hl => match us, hl with | [_], _ => rfl
  have g9 := PySem.W.mg_of X G a9
  have F10 := fun_mk (st := s_check_whole) l10 c10 k10
  have b10 := F10.binds (ps := ["whole"]) fun _ _ _ _ _ _ us hl => match us, hl with | [_], _ => rfl
  have g10 := PySem.W.mg_of X G a10
  have F11 := fun_mk (st := s_parse_amount) l11 c11 k11
  have b11 := F11.binds (ps := ["text", "digits"]) fun _ _ _ _ _ _ us hl => match us, hl with | [_, _], _ => rfl
  have g11 := PySem.W.mg_of X G a11
  have F12 := fun_mk (st := s_law_kinds) l12 c12 k12
  have b12 := F12.binds (ps := ["_law_error"]) fun _ _ _ _ _ _ us hl => match us, hl with | [_], _ => rfl
  have g12 := PySem.W.mg_of X G a12
  have F13 := fun_mk (st := s_law_told) l13 c13 k13
  have b13 := F13.binds (ps := ["_law_text_here", "_law_digits"]) fun _ _ _ _ _ _ us hl => match us, hl with | [_, _], _ => rfl
  have g13 := PySem.W.mg_of X G a13
  have F14 := fun_mk (st := s_law) l14 c14 k14
  have b14 := F14.binds (ps := ["_law_script"]) fun _ _ _ _ _ _ us hl => match us, hl with | [_], _ => rfl
  have g14 := PySem.W.mg_of X G a14
  have m_abs := PySem.W.mg_none_of X G z_abs
  have m_bool := PySem.W.mg_none_of X G z_bool
  have m_int := PySem.W.mg_none_of X G z_int
  have m_isinstance := PySem.W.mg_none_of X G z_isinstance
  have m_len := PySem.W.mg_none_of X G z_len
  have m_range := PySem.W.mg_none_of X G z_range
  have m_str := PySem.W.mg_none_of X G z_str
  have c_GREAT : GlobR mg "GREAT" (rI 1000000000000) := ⟨.int 1000000000000, _, PySem.W.mg_of X G y_GREAT, ⟨_, rfl⟩, fun _ => rfl⟩
  let adr : _root_.Fin 7 → Addr := fun i => match i with | 0 => e0 | 1 => e1 | 2 => e2 | 3 => e3 | 4 => e4 | 5 => e5 | 6 => e6
  have Er : Errs K mg nm_ adr eB := ⟨fun i => match i with | 0 => ⟨ex0, PySem.W.mg_of X G ea0, ek0, eb0, et0, ⟨eg0, eh0, eb0, ed0, ec0, eN, eT, em0⟩, PySem.W.exm_ref bB1 bB2 bB3 ey0⟩ | 1 => ⟨ex1, PySem.W.mg_of X G ea1, ek1, eb1, et1, ⟨eg1, eh1, eb1, ed1, ec1, eN, eT, em1⟩, PySem.W.exm_ref bB1 bB2 bB3 ey1⟩ | 2 => ⟨ex2, PySem.W.mg_of X G ea2, ek2, eb2, et2, ⟨eg2, eh2, eb2, ed2, ec2, eN, eT, em2⟩, PySem.W.exm_ref bB1 bB2 bB3 ey2⟩ | 3 => ⟨ex3, PySem.W.mg_of X G ea3, ek3, eb3, et3, ⟨eg3, eh3, eb3, ed3, ec3, eN, eT, em3⟩, PySem.W.exm_ref bB1 bB2 bB3 ey3⟩ | 4 => ⟨ex4, PySem.W.mg_of X G ea4, ek4, eb4, et4, ⟨eg4, eh4, eb4, ed4, ec4, eN, eT, em4⟩, PySem.W.exm_ref bB1 bB2 bB3 ey4⟩ | 5 => ⟨ex5, PySem.W.mg_of X G ea5, ek5, eb5, et5, ⟨eg5, eh5, eb5, ed5, ec5, eN, eT, em5⟩, PySem.W.exm_ref bB1 bB2 bB3 ey5⟩ | 6 => ⟨ex6, PySem.W.mg_of X G ea6, ek6, eb6, et6, ⟨eg6, eh6, eb6, ed6, ec6, eN, eT, em6⟩, PySem.W.exm_ref bB1 bB2 bB3 ey6⟩, fun i j => match i, j with | 0, 0 => kit_ref ed0 et0 eq0_0 eq0_0 | 0, 1 => kit_ref ed1 et1 eq0_1 eq1_1 | 0, 2 => kit_ref ed2 et2 eq0_2 eq2_2 | 0, 3 => kit_ref ed3 et3 eq0_3 eq3_3 | 0, 4 => kit_ref ed4 et4 eq0_4 eq4_4 | 0, 5 => kit_ref ed5 et5 eq0_5 eq5_5 | 0, 6 => kit_ref ed6 et6 eq0_6 eq6_6 | 1, 0 => kit_ref ed0 et0 eq1_0 eq0_0 | 1, 1 => kit_ref ed1 et1 eq1_1 eq1_1 | 1, 2 => kit_ref ed2 et2 eq1_2 eq2_2 | 1, 3 => kit_ref ed3 et3 eq1_3 eq3_3 | 1, 4 => kit_ref ed4 et4 eq1_4 eq4_4 | 1, 5 => kit_ref ed5 et5 eq1_5 eq5_5 | 1, 6 => kit_ref ed6 et6 eq1_6 eq6_6 | 2, 0 => kit_ref ed0 et0 eq2_0 eq0_0 | 2, 1 => kit_ref ed1 et1 eq2_1 eq1_1 | 2, 2 => kit_ref ed2 et2 eq2_2 eq2_2 | 2, 3 => kit_ref ed3 et3 eq2_3 eq3_3 | 2, 4 => kit_ref ed4 et4 eq2_4 eq4_4 | 2, 5 => kit_ref ed5 et5 eq2_5 eq5_5 | 2, 6 => kit_ref ed6 et6 eq2_6 eq6_6 | 3, 0 => kit_ref ed0 et0 eq3_0 eq0_0 | 3, 1 => kit_ref ed1 et1 eq3_1 eq1_1 | 3, 2 => kit_ref ed2 et2 eq3_2 eq2_2 | 3, 3 => kit_ref ed3 et3 eq3_3 eq3_3 | 3, 4 => kit_ref ed4 et4 eq3_4 eq4_4 | 3, 5 => kit_ref ed5 et5 eq3_5 eq5_5 | 3, 6 => kit_ref ed6 et6 eq3_6 eq6_6 | 4, 0 => kit_ref ed0 et0 eq4_0 eq0_0 | 4, 1 => kit_ref ed1 et1 eq4_1 eq1_1 | 4, 2 => kit_ref ed2 et2 eq4_2 eq2_2 | 4, 3 => kit_ref ed3 et3 eq4_3 eq3_3 | 4, 4 => kit_ref ed4 et4 eq4_4 eq4_4 | 4, 5 => kit_ref ed5 et5 eq4_5 eq5_5 | 4, 6 => kit_ref ed6 et6 eq4_6 eq6_6 | 5, 0 => kit_ref ed0 et0 eq5_0 eq0_0 | 5, 1 => kit_ref ed1 et1 eq5_1 eq1_1 | 5, 2 => kit_ref ed2 et2 eq5_2 eq2_2 | 5, 3 => kit_ref ed3 et3 eq5_3 eq3_3 | 5, 4 => kit_ref ed4 et4 eq5_4 eq4_4 | 5, 5 => kit_ref ed5 et5 eq5_5 eq5_5 | 5, 6 => kit_ref ed6 et6 eq5_6 eq6_6 | 6, 0 => kit_ref ed0 et0 eq6_0 eq0_0 | 6, 1 => kit_ref ed1 et1 eq6_1 eq1_1 | 6, 2 => kit_ref ed2 et2 eq6_2 eq2_2 | 6, 3 => kit_ref ed3 et3 eq6_3 eq3_3 | 6, 4 => kit_ref ed4 et4 eq6_4 eq4_4 | 6, 5 => kit_ref ed5 et5 eq6_5 eq5_5 | 6, 6 => kit_ref ed6 et6 eq6_6 eq6_6, PySem.W.mg_of X G bB⟩
  have O_law_numbers := fun base : Heap => ok_law_numbers (P := l.prog) (w := w) (base := base) F1 b1 g1 Er m_int m_range
  have O_law_sign := fun base : Heap => ok_law_sign (P := l.prog) (w := w) (base := base) F2 b2 g2 Er m_len
  have O_law_any := fun base : Heap => ok_law_any (P := l.prog) (w := w) (base := base) F3 b3 g3 Er m_range (O_law_sign base)
  have O_law_written := fun base : Heap => ok_law_written (P := l.prog) (w := w) (base := base) F4 b4 g4 Er m_abs m_len m_range m_str
  have O_law_turned := fun base : Heap => ok_law_turned (P := l.prog) (w := w) (base := base) F5 b5 g5 Er m_len (O_law_sign base) (O_law_written base)
  have O_law_text := fun base : Heap => ok_law_text (P := l.prog) (w := w) (base := base) F6 b6 g6 Er (O_law_any base) (O_law_sign base) (O_law_turned base)
  have O_law_number := fun base : Heap => ok_law_number (P := l.prog) (w := w) (base := base) F7 b7 g7 Er
  have O_law_due := fun base : Heap => ok_law_due (P := l.prog) (w := w) (base := base) F8 b8 g8 Er m_len m_range (O_law_number base)
  have O_check_digits := fun base : Heap => ok_check_digits (P := l.prog) (w := w) (base := base) F9 b9 g9 Er
  have O_check_whole := fun base : Heap => ok_check_whole (P := l.prog) (w := w) (base := base) F10 b10 g10 Er m_len
  have O_parse_amount := fun base : Heap => ok_parse_amount (P := l.prog) (w := w) (base := base) F11 b11 g11 Er c_GREAT m_int m_len (O_check_digits base) (O_check_whole base)
  have O_law_kinds := fun base : Heap => ok_law_kinds (P := l.prog) (w := w) (base := base) F12 b12 g12 Er m_isinstance
  have O_law_told := fun base : Heap => ok_law_told (P := l.prog) (w := w) (base := base) F13 b13 g13 Er m_bool m_int m_isinstance (O_law_kinds base) (O_parse_amount base)
  exact ⟨PySem.W.fnOf "law" "law" (defArgs s_law) (defBody s_law) (defScope s_law) .none kV14 dc14 pm14 an14 cd14 ct14, fun s v => .of_eq rfl, fun base _ _ => ok_law F14 b14 g14 Er (O_law_due base) (O_law_numbers base) (O_law_text base) (O_law_told base)⟩
theorem walk {l : PySem.W.OpenLaw} {q : Program} {loose : List Str} {XP : (Str → Option Value) → Heap → Prop} {YP : World → Heap → Prop} {d : DefRec} {K : Params → PySem.W.Frag} (hn : l.most = some 63) (hdf : d.params.defaults = [])
    (hY : ∀ (w : World) (h : Heap), YP w h → (K w.params).In h)
    (F : ∀ (w : World) (mg : Str → Option Value) (fa : Addr) (h : Heap), (K w.params).In h → h.Ns mainGlobals mg → mg d.name = some (.ref fa) →
      ∃ fd : FuncData, (∀ (s : Shared) (u : Value), BindsTo s fd ⟨[u], []⟩ [("_law_script", u)]) ∧ ∀ base : Heap, (K w.params).In base → base.Ns mainGlobals mg → FnOk l.prog w (K w.params) mg base CX0 4 fa fd ["_law_script"] (sp_law (K w.params))) :
    PySem.W.WalkO q loose XP YP l.row.toRowW d [] (fun f vs => PySem.call f vs) :=
  L2.walk_of (n := 63) (k := 4) (x := "_law_script") (CX := fun _ => CX0) (sp := fun w => sp_law (K w.params)) hn (by decide) hdf ⟨rfl, by decide, by decide⟩ hY F
    (fun w H a ns hl _ hS => ⟨ns, H, [], Desc.refl H, ⟨.ref a, rfl, ⟨a, ns.map V.int, rfl, hS, Rs.of_map (fun _ => rfl) ns⟩, hl⟩, fun v _ _ _ _ hv => hv.trans (congrArg V.bl (law_true ns))⟩) fun _ _ _ _ _ z => z
end Ck03
open PySem PySem.W PyProof.Rows in
set_option maxRecDepth 100000 in
set_option maxHeartbeats 0 in
theorem PySem.Challenge.cw_corebank_k03_whole_parse_holds : PySem.Challenge.rw_corebank_k03_whole_parse.Holds := by
  w_on; o_law; k_head; (case hw => w_witness2)
  k_fill
  refine Ck03.walk (l := PySem.Challenge.rw_corebank_k03_whole_parse) rfl rfl (fun w h Y => PySem.W.kIn_of Y) ?F
  case F =>
    intro w mg fa h KX G hmg
    refine' Ck03.all_mk KX G hmg ?a1 ?l1 ?c1 ?k1 ?a2 ?l2 ?c2 ?k2 ?a3 ?l3 ?c3 ?k3 ?a4 ?l4 ?c4 ?k4 ?a5 ?l5 ?c5 ?k5 ?a6 ?l6 ?c6 ?k6 ?a7 ?l7 ?c7 ?k7 ?a8 ?l8 ?c8 ?k8 ?a9 ?l9 ?c9 ?k9 ?a10 ?l10 ?c10 ?k10 ?a11 ?l11 ?c11 ?k11 ?a12 ?l12 ?c12 ?k12 ?a13 ?l13 ?c13 ?k13 ?a14 ?l14 ?c14 ?k14 ?z_abs ?z_bool ?z_int ?z_isinstance ?z_len ?z_range ?z_str ?y_GREAT ?bB ?bB1 ?bB2 ?bB3 ?ea0 ?ex0 ?ek0 ?eb0 ?et0 ?eg0 ?eh0 ?ed0 ?ec0 ?em0 ?ey0 ?eq0_0 ?eq0_1 ?eq0_2 ?eq0_3 ?eq0_4 ?eq0_5 ?eq0_6 ?ea1 ?ex1 ?ek1 ?eb1 ?et1 ?eg1 ?eh1 ?ed1 ?ec1 ?em1 ?ey1 ?eq1_0 ?eq1_1 ?eq1_2 ?eq1_3 ?eq1_4 ?eq1_5 ?eq1_6 ?ea2 ?ex2 ?ek2 ?eb2 ?et2 ?eg2 ?eh2 ?ed2 ?ec2 ?em2 ?ey2 ?eq2_0 ?eq2_1 ?eq2_2 ?eq2_3 ?eq2_4 ?eq2_5 ?eq2_6 ?ea3 ?ex3 ?ek3 ?eb3 ?et3 ?eg3 ?eh3 ?ed3 ?ec3 ?em3 ?ey3 ?eq3_0 ?eq3_1 ?eq3_2 ?eq3_3 ?eq3_4 ?eq3_5 ?eq3_6 ?ea4 ?ex4 ?ek4 ?eb4 ?et4 ?eg4 ?eh4 ?ed4 ?ec4 ?em4 ?ey4 ?eq4_0 ?eq4_1 ?eq4_2 ?eq4_3 ?eq4_4 ?eq4_5 ?eq4_6 ?ea5 ?ex5 ?ek5 ?eb5 ?et5 ?eg5 ?eh5 ?ed5 ?ec5 ?em5 ?ey5 ?eq5_0 ?eq5_1 ?eq5_2 ?eq5_3 ?eq5_4 ?eq5_5 ?eq5_6 ?ea6 ?ex6 ?ek6 ?eb6 ?et6 ?eg6 ?eh6 ?ed6 ?ec6 ?em6 ?ey6 ?eq6_0 ?eq6_1 ?eq6_2 ?eq6_3 ?eq6_4 ?eq6_5 ?eq6_6 ?eN ?eT
    (case a1 => k_is)
    (case l1 => k_is)
    (case c1 => k_is)
    (case k1 => k_is)
    (case a2 => k_is)
    (case l2 => k_is)
    (case c2 => k_is)
    (case k2 => k_is)
    (case a3 => k_is)
    (case l3 => k_is)
    (case c3 => k_is)
    (case k3 => k_is)
    (case a4 => k_is)
    (case l4 => k_is)
    (case c4 => k_is)
    (case k4 => k_is)
    (case a5 => k_is)
    (case l5 => k_is)
    (case c5 => k_is)
    (case k5 => k_is)
    (case a6 => k_is)
    (case l6 => k_is)
    (case c6 => k_is)
    (case k6 => k_is)
    (case a7 => k_is)
    (case l7 => k_is)
    (case c7 => k_is)
    (case k7 => k_is)
    (case a8 => k_is)
    (case l8 => k_is)
    (case c8 => k_is)
    (case k8 => k_is)
    (case a9 => k_is)
    (case l9 => k_is)
    (case c9 => k_is)
    (case k9 => k_is)
    (case a10 => k_is)
    (case l10 => k_is)
    (case c10 => k_is)
    (case k10 => k_is)
    (case a11 => k_is)
    (case l11 => k_is)
    (case c11 => k_is)
    (case k11 => k_is)
    (case a12 => k_is)
    (case l12 => k_is)
    (case c12 => k_is)
    (case k12 => k_is)
    (case a13 => k_is)
    (case l13 => k_is)
    (case c13 => k_is)
    (case k13 => k_is)
    (case a14 => k_is)
    (case l14 => k_is)
    (case c14 => k_is)
    (case k14 => k_is)
    (case z_abs => k_is)
    (case z_bool => k_is)
    (case z_int => k_is)
    (case z_isinstance => k_is)
    (case z_len => k_is)
    (case z_range => k_is)
    (case z_str => k_is)
    (case y_GREAT => k_is)
    (case bB => k_is)
    (case bB1 => k_is)
    (case bB2 => k_is)
    (case bB3 => k_is)
    (case ea0 => k_is)
    (case ex0 => k_exc)
    (case ek0 => k_is)
    (case eb0 => k_is)
    (case et0 => k_is)
    (case eg0 => k_is)
    (case eh0 => k_is)
    (case ed0 => k_is)
    (case ec0 => k_is)
    (case em0 => k_is)
    (case ey0 => k_is)
    (case ea1 => k_is)
    (case ex1 => k_exc)
    (case ek1 => k_is)
    (case eb1 => k_is)
    (case et1 => k_is)
    (case eg1 => k_is)
    (case eh1 => k_is)
    (case ed1 => k_is)
    (case ec1 => k_is)
    (case em1 => k_is)
    (case ey1 => k_is)
    (case ea2 => k_is)
    (case ex2 => k_exc)
    (case ek2 => k_is)
    (case eb2 => k_is)
    (case et2 => k_is)
    (case eg2 => k_is)
    (case eh2 => k_is)
    (case ed2 => k_is)
    (case ec2 => k_is)
    (case em2 => k_is)
    (case ey2 => k_is)
    (case ea3 => k_is)
    (case ex3 => k_exc)
    (case ek3 => k_is)
    (case eb3 => k_is)
    (case et3 => k_is)
    (case eg3 => k_is)
    (case eh3 => k_is)
    (case ed3 => k_is)
    (case ec3 => k_is)
    (case em3 => k_is)
    (case ey3 => k_is)
    (case ea4 => k_is)
    (case ex4 => k_exc)
    (case ek4 => k_is)
    (case eb4 => k_is)
    (case et4 => k_is)
    (case eg4 => k_is)
    (case eh4 => k_is)
    (case ed4 => k_is)
    (case ec4 => k_is)
    (case em4 => k_is)
    (case ey4 => k_is)
    (case ea5 => k_is)
    (case ex5 => k_exc)
    (case ek5 => k_is)
    (case eb5 => k_is)
    (case et5 => k_is)
    (case eg5 => k_is)
    (case eh5 => k_is)
    (case ed5 => k_is)
    (case ec5 => k_is)
    (case em5 => k_is)
    (case ey5 => k_is)
    (case ea6 => k_is)
    (case ex6 => k_exc)
    (case ek6 => k_is)
    (case eb6 => k_is)
    (case et6 => k_is)
    (case eg6 => k_is)
    (case eh6 => k_is)
    (case ed6 => k_is)
    (case ec6 => k_is)
    (case em6 => k_is)
    (case ey6 => k_is)
    (case eN => k_is)
    (case eT => k_is)
    (case eq0_0 => first | rfl | k_is)
    (case eq0_1 => first | rfl | k_is)
    (case eq0_2 => first | rfl | k_is)
    (case eq0_3 => first | rfl | k_is)
    (case eq0_4 => first | rfl | k_is)
    (case eq0_5 => first | rfl | k_is)
    (case eq0_6 => first | rfl | k_is)
    (case eq1_0 => first | rfl | k_is)
    (case eq1_1 => first | rfl | k_is)
    (case eq1_2 => first | rfl | k_is)
    (case eq1_3 => first | rfl | k_is)
    (case eq1_4 => first | rfl | k_is)
    (case eq1_5 => first | rfl | k_is)
    (case eq1_6 => first | rfl | k_is)
    (case eq2_0 => first | rfl | k_is)
    (case eq2_1 => first | rfl | k_is)
    (case eq2_2 => first | rfl | k_is)
    (case eq2_3 => first | rfl | k_is)
    (case eq2_4 => first | rfl | k_is)
    (case eq2_5 => first | rfl | k_is)
    (case eq2_6 => first | rfl | k_is)
    (case eq3_0 => first | rfl | k_is)
    (case eq3_1 => first | rfl | k_is)
    (case eq3_2 => first | rfl | k_is)
    (case eq3_3 => first | rfl | k_is)
    (case eq3_4 => first | rfl | k_is)
    (case eq3_5 => first | rfl | k_is)
    (case eq3_6 => first | rfl | k_is)
    (case eq4_0 => first | rfl | k_is)
    (case eq4_1 => first | rfl | k_is)
    (case eq4_2 => first | rfl | k_is)
    (case eq4_3 => first | rfl | k_is)
    (case eq4_4 => first | rfl | k_is)
    (case eq4_5 => first | rfl | k_is)
    (case eq4_6 => first | rfl | k_is)
    (case eq5_0 => first | rfl | k_is)
    (case eq5_1 => first | rfl | k_is)
    (case eq5_2 => first | rfl | k_is)
    (case eq5_3 => first | rfl | k_is)
    (case eq5_4 => first | rfl | k_is)
    (case eq5_5 => first | rfl | k_is)
    (case eq5_6 => first | rfl | k_is)
    (case eq6_0 => first | rfl | k_is)
    (case eq6_1 => first | rfl | k_is)
    (case eq6_2 => first | rfl | k_is)
    (case eq6_3 => first | rfl | k_is)
    (case eq6_4 => first | rfl | k_is)
    (case eq6_5 => first | rfl | k_is)
    (case eq6_6 => first | rfl | k_is)

