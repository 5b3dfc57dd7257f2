import PyProof.Rows.All
import Wide.All
import OpenK.AllK
import Wide.FinOn
import HandS.ForMost
import HandS.ForExc
import HandS.Walk
import HandS.Codes
import HandS.Wide
import HandS.IsInst
import HandS.SortInts
import HandS.SortKw
import HandS.WordsExc
import HandS.ExcOwn
import HandS.TryOnly
import HandS.HotCalls
import HandS.ExcIs
import KE.KIsAll
import HandS.TupLe
import HandS.Text
import KE.DataCmp
import HandS.TupAny
import HandS.StrMore
import HandS.Conv
import PyProof.Rows.StrPadFill
import PyProof.StrOps2
import HandS.CallLocal
import HandS.SetFor
import HandS.Sort
import HandS.Star
import HandS.Dict
import HandS.WordsDict
import KE.KIndexOf
import PySem.Challenge.RW_corebank_k47_names_and_roles
set_option Elab.async false
set_option linter.all false
set_option maxRecDepth 100000
set_option maxHeartbeats 4000000
set_option Elab.async false
/-! J: a layer of our own over the hand layer. The abstract heap is split: G, what never changes any more; cs, the cells that may still change, one after another. -/
namespace J
open PySem L2

/-! ### heaps in two parts -/
abbrev Cells := List (Addr × HO)
structure Desc (G : Hp) (cs : Cells) (H : Hp) : Prop where
  same : Same G H
  nd : (cs.map Prod.fst).Nodup
  cell : ∀ c ∈ cs, H c.1 = some c.2 ∧ G c.1 = none
theorem Desc.at_ {G H : Hp} {cs : Cells} (d : Desc G cs H) {a : Addr} {o : HO} (h : (a, o) ∈ cs) : H a = some o := (d.cell _ h).1
theorem Desc.new {G H : Hp} {cs : Cells} (d : Desc G cs H) {p : Addr} (hp : H p = none) (o : HO) : Desc (upd G p o) cs (upd H p o) := by
  refine ⟨fun a u e => ?_, d.nd, fun c hc => ?_⟩
  · by_cases h : a = p
    · subst h
      rw [upd_same] at e
      rw [upd_same]
      exact e
    · rw [upd_ne h] at e
      rw [upd_ne h]
      exact d.same a u e
  · obtain ⟨h1, h2⟩ := d.cell c hc
    have ne : c.1 ≠ p := ne_of_none h1 hp
    rw [upd_ne ne, upd_ne ne]
    exact ⟨h1, h2⟩
theorem Same.fresh {G H : Hp} (s : Same G H) {p : Addr} (hp : H p = none) (o : HO) : Same G (upd G p o) := fun a u e => by
  have ne : a ≠ p := fun z => by
    subst z
    rw [s a u e] at hp
    cases hp
  rw [upd_ne ne]
  exact e
theorem Desc.newCell {G H : Hp} {cs : Cells} (d : Desc G cs H) {p : Addr} (hp : H p = none) (o : HO) : Desc G ((p, o) :: cs) (upd H p o) := by
  refine ⟨fun a u e => ?_, ?_, fun c hc => ?_⟩
  · have ne : a ≠ p := ne_of_none (d.same a u e) hp
    rw [upd_ne ne]
    exact d.same a u e
  · refine List.nodup_cons.mpr ⟨fun hm => ?_, d.nd⟩
    obtain ⟨c, hc, e⟩ := List.mem_map.mp hm
    have e2 : c.1 = p := e
    have q := (d.cell c hc).1
    rw [e2, hp] at q
    cases q
  · rcases List.mem_cons.mp hc with e | hc
    · subst e
      exact ⟨upd_same, d.same.free hp⟩
    · obtain ⟨h1, h2⟩ := d.cell c hc
      have ne : c.1 ≠ p := ne_of_none h1 hp
      rw [upd_ne ne]
      exact ⟨h1, h2⟩
theorem nd_of_set {cs : Cells} {k : Nat} {a : Addr} {o o' : HO} (h : cs[k]? = some (a, o)) : (cs.set k (a, o')).map Prod.fst = cs.map Prod.fst := by
  induction cs generalizing k with
  | nil => cases k <;> rfl
  | cons c cs ih =>
    cases k with
    | zero =>
      have e : c = (a, o) := Option.some.inj h
      subst e
      rfl
    | succ k =>
      show c.1 :: (cs.set k (a, o')).map Prod.fst = c.1 :: cs.map Prod.fst
      rw [ih (k := k) h]
theorem mem_set_cases {cs : Cells} {k : Nat} {a : Addr} {o o' : HO} (nd : (cs.map Prod.fst).Nodup) (h : cs[k]? = some (a, o)) {c : Addr × HO} (hc : c ∈ cs.set k (a, o')) : c = (a, o') ∨ (c ∈ cs ∧ c.1 ≠ a) := by
  induction cs generalizing k with
  | nil => cases k <;> cases h
  | cons d cs ih =>
    have nd1 : d.1 ∉ cs.map Prod.fst := (List.nodup_cons.mp nd).1
    have nd2 : (cs.map Prod.fst).Nodup := (List.nodup_cons.mp nd).2
    cases k with
    | zero =>
      have e : d = (a, o) := Option.some.inj h
      subst e
      rcases List.mem_cons.mp hc with e | hc
      · exact .inl e
      · refine .inr ⟨List.mem_cons_of_mem _ hc, fun z => nd1 ?_⟩
        show a ∈ cs.map Prod.fst
        rw [← z]
        exact List.mem_map.mpr ⟨c, hc, rfl⟩
    | succ k =>
      have hm : (a, o) ∈ cs := List.mem_of_getElem? (i := k) h
      rcases List.mem_cons.mp hc with e | hc
      · refine .inr ⟨List.mem_cons.mpr (.inl e), fun z => nd1 ?_⟩
        rw [e] at z
        rw [z]
        exact List.mem_map.mpr ⟨(a, o), hm, rfl⟩
      · rcases ih nd2 (k := k) h hc with e | ⟨h1, h2⟩
        · exact .inl e
        · exact .inr ⟨List.mem_cons_of_mem _ h1, h2⟩
theorem Desc.write {G H : Hp} {cs : Cells} (d : Desc G cs H) {k : Nat} {a : Addr} {o : HO} (h : cs[k]? = some (a, o)) (o' : HO) : Desc G (cs.set k (a, o')) (upd H a o') := by
  have hm : (a, o) ∈ cs := List.mem_of_getElem? h
  obtain ⟨ha, hg⟩ := d.cell _ hm
  refine ⟨fun b u e => ?_, ?_, fun c hc => ?_⟩
  · have ne : b ≠ a := fun z => by
      subst z
      rw [hg] at e
      cases e
    rw [upd_ne ne]
    exact d.same b u e
  · rw [nd_of_set h]
    exact d.nd
  · rcases mem_set_cases d.nd h hc with e | ⟨h1, h2⟩
    · subst e
      exact ⟨upd_same, hg⟩
    · rw [upd_ne h2]
      exact d.cell c h1
theorem Desc.freeze {G H : Hp} {cs : Cells} {a : Addr} {o : HO} (d : Desc G ((a, o) :: cs) H) : Same G (upd G a o) ∧ Desc (upd G a o) cs H := by
  obtain ⟨ha, hg⟩ := d.cell (a, o) List.mem_cons_self
  refine ⟨fun b u e => ?_, fun b u e => ?_, (List.nodup_cons.mp d.nd).2, fun c hc => ?_⟩
  · have ne : b ≠ a := fun z => by
      subst z
      rw [hg] at e
      cases e
    rw [upd_ne ne]
    exact e
  · by_cases z : b = a
    · subst z
      rw [upd_same] at e
      cases e
      exact ha
    · rw [upd_ne z] at e
      exact d.same b u e
  · obtain ⟨h1, h2⟩ := d.cell c (List.mem_cons_of_mem _ hc)
    have ne : c.1 ≠ a := fun z => (List.nodup_cons.mp d.nd).1 (by
      show a ∈ cs.map Prod.fst
      rw [← z]
      exact List.mem_map.mpr ⟨c, hc, rfl⟩)
    rw [upd_ne ne]
    exact ⟨h1, h2⟩
theorem Desc.forget {G H : Hp} {cs : Cells} {c : Addr × HO} (d : Desc G (c :: cs) H) : Desc G cs H :=
  ⟨d.same, (List.nodup_cons.mp d.nd).2, fun x hx => d.cell x (List.mem_cons_of_mem _ hx)⟩
theorem Desc.perm {G H : Hp} {cs cs' : Cells} (d : Desc G cs H) (p : cs.Perm cs') : Desc G cs' H :=
  ⟨d.same, (p.map Prod.fst).nodup_iff.mp d.nd, fun x hx => d.cell x (p.mem_iff.mpr hx)⟩
theorem Desc.refl (H : Hp) : Desc H [] H := ⟨Same.refl H, List.nodup_nil, fun _ h => nomatch h⟩
theorem seqT {K : PySem.W.Frag} {H H' : Hp} {a : Addr} {xs : List V} (e : Same H H') (h : SqT K H a xs) : SqT K H' a xs := by
  rcases h with (h | ⟨o, h⟩) | h
  · exact .inl (.inl (e _ _ h))
  · exact .inl (.inr ⟨o, e _ _ h⟩)
  · exact .inr h

/-! ### judgements by what the machine does -/
section
variable (X : Cx)
structure wE (e : Expr) (σ : L2.St) (H : Hp) (Q : VK) : Prop where
  run : ∀ pins s, Inv X pins σ H s → wpAny (model X.prog X.w) X.A (eval e X.env) (EP X pins σ Q) X.xe s
structure wT (e : Expr) (σ : L2.St) (H : Hp) (Q : Bool → Hp → Prop) : Prop where
  run : ∀ pins s, Inv X pins σ H s → wpAny (model X.prog X.w) X.A (isTrue e X.env (eval e X.env)) (TP X pins σ Q) X.xe s
structure wW (e : Expr) (σ : L2.St) (H : Hp) (Q : Bool → Hp → Prop) : Prop where
  run : ∀ (whole : Sem Value) pins s, Inv X pins σ H s → wpAny (model X.prog X.w) X.A (isTrue e X.env whole) (TP X pins σ Q) X.xe s
structure wA (es : List Expr) (σ : L2.St) (H : Hp) (Q : List V → Hp → Prop) : Prop where
  run : ∀ (pos : Pos) pins s, Inv X pins σ H s → wpAny (model X.prog X.w) X.A (spliced (backTo pos (starEach es X.env))) (AP X pins σ Q) X.xe s
structure wS (st : Stmt) (D : Ends) (σ : L2.St) (H : Hp) : Prop where
  run : ∀ pins s, Inv X pins σ H s → wpAny (model X.prog X.w) X.A (exec st X.env) (SP X pins D) X.xe s
structure wSs (st : List Stmt) (D : Ends) (σ : L2.St) (H : Hp) : Prop where
  run : ∀ pins s, Inv X pins σ H s → wpAny (model X.prog X.w) X.A (execs st X.env) (SP X pins D) X.xe s
theorem sE (e : Expr) : PE X e (wE X e) := ⟨fun pins s _ _ _ I h => h.run pins s I⟩
theorem sT (e : Expr) : PT X e (wT X e) := ⟨fun pins s _ _ _ I h => h.run pins s I⟩
theorem sW (e : Expr) : PW X e (wW X e) := ⟨fun whole pins s _ _ _ I h => h.run whole pins s I⟩
theorem sA (es : List Expr) : PA X es (wA X es) := ⟨fun pos pins s _ _ _ I h => h.run pos pins s I⟩
theorem sS (st : Stmt) : PS X st (wS X st) := ⟨fun pins s _ _ _ I h => h.run pins s I⟩
theorem sSs (st : List Stmt) : PSs X st (wSs X st) := ⟨fun pins s _ _ _ I h => h.run pins s I⟩
end
section
variable {X : Cx} {e : Expr} {es : List Expr} {st : Stmt} {sts : List Stmt} {σ : L2.St} {H : Hp}
theorem uE {t : TE} {Q : VK} (h : PE X e t) (q : t σ H Q) : wE X e σ H Q := ⟨fun pins s I => h.run pins s σ H Q I q⟩
theorem uT {t : TT} {Q : Bool → Hp → Prop} (h : PT X e t) (q : t σ H Q) : wT X e σ H Q := ⟨fun pins s I => h.run pins s σ H Q I q⟩
theorem uW {t : TT} {Q : Bool → Hp → Prop} (h : PW X e t) (q : t σ H Q) : wW X e σ H Q := ⟨fun whole pins s I => h.run whole pins s σ H Q I q⟩
theorem uA {t : TA} {Q : List V → Hp → Prop} (h : PA X es t) (q : t σ H Q) : wA X es σ H Q := ⟨fun pos pins s I => h.run pos pins s σ H Q I q⟩
theorem uS {t : TS} {D : Ends} (h : PS X st t) (q : t D σ H) : wS X st D σ H := ⟨fun pins s I => h.run pins s σ H D I q⟩
theorem uSs {t : TS} {D : Ends} (h : PSs X sts t) (q : t D σ H) : wSs X sts D σ H := ⟨fun pins s I => h.run pins s σ H D I q⟩
end

/-- e comes to a value that P tells of; what was frozen stays, no cell changes -/
def D (X : Cx) (e : Expr) (σ : L2.St) (G : Hp) (cs : Cells) (P : Hp → V → Prop) : Prop :=
  ∀ G1 H, Same G G1 → Desc G1 cs H → ∀ Q : VK, (∀ G2 H2 v, Same G1 G2 → Desc G2 cs H2 → P G2 v → Q v H2) → wE X e σ H Q
def T (X : Cx) (e : Expr) (σ : L2.St) (G : Hp) (cs : Cells) (b : Bool) : Prop :=
  ∀ G1 H, Same G G1 → Desc G1 cs H → ∀ Q : Bool → Hp → Prop, (∀ G2 H2, Same G1 G2 → Desc G2 cs H2 → Q b H2) → wT X e σ H Q
def TW (X : Cx) (e : Expr) (σ : L2.St) (G : Hp) (cs : Cells) (b : Bool) : Prop :=
  ∀ G1 H, Same G G1 → Desc G1 cs H → ∀ Q : Bool → Hp → Prop, (∀ G2 H2, Same G1 G2 → Desc G2 cs H2 → Q b H2) → wW X e σ H Q
def A (X : Cx) (es : List Expr) (σ : L2.St) (G : Hp) (cs : Cells) (P : Hp → List V → Prop) : Prop :=
  ∀ G1 H, Same G G1 → Desc G1 cs H → ∀ Q : List V → Hp → Prop, (∀ G2 H2 vs, Same G1 G2 → Desc G2 cs H2 → P G2 vs → Q vs H2) → wA X es σ H Q

class Mono (P : Hp → V → Prop) : Prop where
  mono : ∀ {G G' : Hp} {v : V}, Same G G' → P G v → P G' v
class MonoA (P : Hp → List V → Prop) : Prop where
  mono : ∀ {G G' : Hp} {v : List V}, Same G G' → P G v → P G' v

/-! ### what a value tells -/
def rI (i : Int) : Hp → V → Prop := fun _ v => v = .int i
def rB (b : Bool) : Hp → V → Prop := fun _ v => v = .bl b
def rS (l : List Nat) : Hp → V → Prop := fun _ v => v = .str (SX.S l)
def rN (_ : Unit) : Hp → V → Prop := fun _ v => v = .non
def rV (w : V) : Hp → V → Prop := fun _ v => v = w
def rO {α : Type} (r : α → Hp → V → Prop) : Option α → Hp → V → Prop
  | none => fun _ v => v = .non
  | some x => r x
def Rs {α : Type} (r : α → Hp → V → Prop) (G : Hp) : List α → List V → Prop := Paired fun x v => r x G v
def rL (K : PySem.W.Frag) {α : Type} (r : α → Hp → V → Prop) (xs : List α) : Hp → V → Prop := fun G v => ∃ a vs, v = .ref a ∧ SqL K G a vs ∧ Rs r G xs vs
/-- a list that may be read: frozen, or a cell -/
def rdL (K : PySem.W.Frag) (cs : Cells) {α : Type} (r : α → Hp → V → Prop) (xs : List α) : Hp → V → Prop := fun G v => ∃ a vs, v = .ref a ∧ (SqL K G a vs ∨ (a, .lst vs) ∈ cs) ∧ Rs r G xs vs
def rT (K : PySem.W.Frag) {α : Type} (r : α → Hp → List V → Prop) (x : α) : Hp → V → Prop := fun G v => ∃ a vs, v = .ref a ∧ SqT K G a vs ∧ r x G vs
/-- the places of a tuple -/
def c0 {α : Type} (r : α → Hp → V → Prop) (x : α) : Hp → List V → Prop := fun G vs => ∃ v, vs = [v] ∧ r x G v
def cc {α β : Type} (r : α → Hp → V → Prop) (r' : β → Hp → List V → Prop) (x : α × β) : Hp → List V → Prop := fun G vs => ∃ v ws, vs = v :: ws ∧ r x.1 G v ∧ r' x.2 G ws
theorem Rs.mono {α : Type} {r : α → Hp → V → Prop} [m : ∀ x, Mono (r x)] {G G' : Hp} (e : Same G G') : ∀ {xs : List α} {vs : List V}, Rs r G xs vs → Rs r G' xs vs
  | _, _, .nil => .nil
  | _, _, .cons h t => .cons ((m _).mono e h) (Rs.mono e t)
theorem Rs.length {α : Type} {r : α → Hp → V → Prop} {G : Hp} {xs : List α} {vs : List V} (h : Rs r G xs vs) : xs.length = vs.length := Paired.length h
theorem Rs.get {α : Type} {r : α → Hp → V → Prop} {G : Hp} : ∀ {xs : List α} {vs : List V} {i : Nat} {x : α}, Rs r G xs vs → xs[i]? = some x → ∃ v, vs[i]? = some v ∧ r x G v
  | _, _, _, _, .nil, e => by simp at e
  | _, _, 0, _, .cons h _, e => by
    simp at e
    subst e
    exact ⟨_, rfl, h⟩
  | _, _, i + 1, x, .cons _ t, e => by
    obtain ⟨v, h1, h2⟩ := Rs.get (i := i) (x := x) t (by simpa using e)
    exact ⟨v, by simpa using h1, h2⟩
theorem Rs.getV {α : Type} {r : α → Hp → V → Prop} {G : Hp} : ∀ {xs : List α} {vs : List V} {i : Nat} {v : V}, Rs r G xs vs → vs[i]? = some v → ∃ x, xs[i]? = some x ∧ r x G v
  | _, _, _, _, .nil, e => by simp at e
  | _, _, 0, _, .cons h _, e => by
    simp at e
    subst e
    exact ⟨_, rfl, h⟩
  | _, _, i + 1, x, .cons _ t, e => by
    obtain ⟨v, h1, h2⟩ := Rs.getV (i := i) (v := x) t (by simpa using e)
    exact ⟨v, by simpa using h1, h2⟩
theorem Rs.snoc {α : Type} {r : α → Hp → V → Prop} {G : Hp} {x : α} {v : V} (hx : r x G v) : ∀ {xs : List α} {vs : List V}, Rs r G xs vs → Rs r G (xs ++ [x]) (vs ++ [v])
  | _, _, .nil => .cons hx .nil
  | _, _, .cons h t => .cons h (Rs.snoc hx t)
theorem Rs.append {α : Type} {r : α → Hp → V → Prop} {G : Hp} {ys : List α} {ws : List V} (hy : Rs r G ys ws) : ∀ {xs : List α} {vs : List V}, Rs r G xs vs → Rs r G (xs ++ ys) (vs ++ ws)
  | _, _, .nil => hy
  | _, _, .cons h t => .cons h (Rs.append hy t)
theorem Rs.set {α : Type} {r : α → Hp → V → Prop} {G : Hp} {x : α} {v : V} (hx : r x G v) : ∀ {xs : List α} {vs : List V} (i : Nat), Rs r G xs vs → Rs r G (xs.set i x) (vs.set i v)
  | _, _, _, .nil => .nil
  | _, _, 0, .cons _ t => .cons hx t
  | _, _, i + 1, .cons h t => .cons h (Rs.set hx i t)
theorem Rs.take {α : Type} {r : α → Hp → V → Prop} {G : Hp} : ∀ {xs : List α} {vs : List V} (n : Nat), Rs r G xs vs → Rs r G (xs.take n) (vs.take n)
  | _, _, 0, _ => .nil
  | _, _, _ + 1, .nil => .nil
  | _, _, n + 1, .cons h t => .cons h (Rs.take n t)
theorem Rs.drop {α : Type} {r : α → Hp → V → Prop} {G : Hp} : ∀ {xs : List α} {vs : List V} (n : Nat), Rs r G xs vs → Rs r G (xs.drop n) (vs.drop n)
  | _, _, 0, h => h
  | _, _, _ + 1, .nil => .nil
  | _, _, n + 1, .cons _ t => Rs.drop n t
theorem Rs.map {α : Type} {r : α → Hp → V → Prop} {f : α → V} {G : Hp} (h : ∀ x v, r x G v → v = f x) : ∀ {xs : List α} {vs : List V}, Rs r G xs vs → vs = xs.map f
  | _, _, .nil => rfl
  | _, _, .cons p t => by
    rw [h _ _ p, Rs.map h t]
    rfl
theorem Rs.of_map {α : Type} {r : α → Hp → V → Prop} {f : α → V} {G : Hp} (h : ∀ x, r x G (f x)) : ∀ (xs : List α), Rs r G xs (xs.map f)
  | [] => .nil
  | x :: xs => .cons (h x) (Rs.of_map h xs)
instance (i : Int) : Mono (rI i) := ⟨fun _ h => h⟩
instance (b : Bool) : Mono (rB b) := ⟨fun _ h => h⟩
instance (l : List Nat) : Mono (rS l) := ⟨fun _ h => h⟩
instance (u : Unit) : Mono (rN u) := ⟨fun _ h => h⟩
instance (w : V) : Mono (rV w) := ⟨fun _ h => h⟩
instance {α : Type} (r : α → Hp → V → Prop) [m : ∀ x, Mono (r x)] (o : Option α) : Mono (rO r o) := by
  cases o with
  | none => exact ⟨fun _ h => h⟩
  | some x => exact m x
instance (K : PySem.W.Frag) {α : Type} (r : α → Hp → V → Prop) [m : ∀ x, Mono (r x)] (xs : List α) : Mono (rL K r xs) :=
  ⟨fun e ⟨a, vs, h1, h2, h3⟩ => ⟨a, vs, h1, e.seq h2, h3.mono e⟩⟩
instance (K : PySem.W.Frag) (cs : Cells) {α : Type} (r : α → Hp → V → Prop) [m : ∀ x, Mono (r x)] (xs : List α) : Mono (rdL K cs r xs) :=
  ⟨fun e ⟨a, vs, h1, h2, h3⟩ => ⟨a, vs, h1, h2.imp (e.seq) id, h3.mono e⟩⟩
instance (K : PySem.W.Frag) {α : Type} (r : α → Hp → List V → Prop) [m : ∀ x, MonoA (r x)] (x : α) : Mono (rT K r x) :=
  ⟨fun e ⟨a, vs, h1, h2, h3⟩ => ⟨a, vs, h1, seqT e h2, (m x).mono e h3⟩⟩
instance {α : Type} (r : α → Hp → V → Prop) [m : ∀ x, Mono (r x)] (x : α) : MonoA (c0 r x) := ⟨fun e ⟨v, h1, h2⟩ => ⟨v, h1, (m x).mono e h2⟩⟩
instance {α β : Type} (r : α → Hp → V → Prop) (r' : β → Hp → List V → Prop) [m : ∀ x, Mono (r x)] [m' : ∀ x, MonoA (r' x)] (x : α × β) : MonoA (cc r r' x) :=
  ⟨fun e ⟨v, ws, h1, h2, h3⟩ => ⟨v, ws, h1, (m x.1).mono e h2, (m' x.2).mono e h3⟩⟩
theorem rdL_of {K : PySem.W.Frag} {cs : Cells} {α : Type} {r : α → Hp → V → Prop} {xs : List α} {G : Hp} {v : V} (h : rL K r xs G v) : rdL K cs r xs G v :=
  let ⟨a, vs, h1, h2, h3⟩ := h
  ⟨a, vs, h1, .inl h2, h3⟩
theorem rdL_cell {K : PySem.W.Frag} {cs : Cells} {α : Type} {r : α → Hp → V → Prop} {xs : List α} {G : Hp} {a : Addr} {vs : List V} (h : (a, .lst vs) ∈ cs) (h3 : Rs r G xs vs) : rdL K cs r xs G (.ref a) := ⟨a, vs, rfl, .inr h, h3⟩
theorem rdL.sq {K : PySem.W.Frag} {cs : Cells} {α : Type} {r : α → Hp → V → Prop} {xs : List α} {G H : Hp} {v : V} (h : rdL K cs r xs G v) (d : Desc G cs H) : ∃ a vs, v = .ref a ∧ SqL K H a vs ∧ Rs r G xs vs := by
  obtain ⟨a, vs, h1, h2, h3⟩ := h
  refine ⟨a, vs, h1, ?_, h3⟩
  rcases h2 with h2 | h2
  · exact d.same.seq h2
  · exact SqL.of (d.at_ h2)

/-! ### expressions -/
section
variable {X : Cx} {σ : L2.St} {G : Hp} {cs : Cells} {e a b c : Expr} {es : List Expr} {P Pa Pb Pc : Hp → V → Prop} {pos p : Pos}
theorem D.imp {P' : Hp → V → Prop} (h : D X e σ G cs P) (i : ∀ G v, P G v → P' G v) : D X e σ G cs P' := fun G1 H s d Q q => h G1 H s d Q fun G2 H2 v s2 d2 p => q G2 H2 v s2 d2 (i G2 v p)
theorem D.up {G' : Hp} (h : D X e σ G cs P) (s : Same G G') : D X e σ G' cs P := fun G1 H s1 d Q q => h G1 H (s.trans s1) d Q q
theorem T.up {G' : Hp} {k : Bool} (h : T X e σ G cs k) (s : Same G G') : T X e σ G' cs k := fun G1 H s1 d Q q => h G1 H (s.trans s1) d Q q
/-- by a rule of the layer -/
theorem d_by {t : TE} (h : PE X e t) (q : ∀ G1 H, Same G G1 → Desc G1 cs H → ∀ Q : VK, (∀ G2 H2 v, Same G1 G2 → Desc G2 cs H2 → P G2 v → Q v H2) → t σ H Q) : D X e σ G cs P := fun G1 H s d Q k => uE h (q G1 H s d Q k)
theorem d_var (i : Nat) {x : Str} {v : V} [m : Mono P] (hs : σ[i]? = some (some v)) (hp : P G v) (hN : X.N[i]? = some x := by rfl) (hv : Vis X.env.scope x := by first | exact Or.inl rfl | exact Or.inr (Or.inl rfl) | exact Or.inr (Or.inr rfl))
    (hd : (x == ("__debug__" : Str)) = false := by decide) (hcd : (x == ("__classdict__" : Str)) = false := by decide) : D X (.Name x pos) σ G cs P :=
  d_by (pe_var hN hv hd hcd) fun G1 H s d Q q => ⟨v, hs, q G1 H v (Same.refl _) d (m.mono s hp)⟩
theorem d_int {i : Int} {j : Nat} : D X (.Constant (.int i) j pos) σ G cs (rI i) := d_by pe_int fun G1 H s d Q q => q G1 H _ (Same.refl _) d rfl
theorem d_bl {i : Bool} {j : Nat} : D X (.Constant (.bool i) j pos) σ G cs (rB i) := d_by pe_bl fun G1 H s d Q q => q G1 H _ (Same.refl _) d rfl
theorem d_non {j : Nat} : D X (.Constant .none j pos) σ G cs (rN ()) := d_by pe_non fun G1 H s d Q q => q G1 H _ (Same.refl _) d rfl
theorem d_str {x : Str} {l : List Nat} {j : Nat} (h : x = SX.S l) : D X (.Constant (.str x) j pos) σ G cs (rS l) := d_by pe_str fun G1 H s d Q q => q G1 H _ (Same.refl _) d (by rw [h]; rfl)
/-- a module's constant by its value -/
theorem d_glob {x : Str} {v : V} [m : Mono P] (hg : Gl X x) (h : ∃ u, X.mg x = some u ∧ RelV v u) (hp : P G v) (hd : (x == ("__debug__" : Str)) = false := by decide) : D X (.Name x pos) σ G cs P := by
  obtain ⟨u, hm, r⟩ := h
  exact d_by (pe_glob hg hm r hd) fun G1 H s d Q q => q G1 H v (Same.refl _) d (m.mono s hp)
/-- a two-place operation -/
theorem d_bin {op : Operator} {r : R2} [Mono Pa] (ho : OpR X (binaryOp op) r) (ha : D X a σ G cs Pa) (hb : D X b σ G cs Pb)
    (hr : ∀ G1 H x y, Same G G1 → Desc G1 cs H → Pa G1 x → Pb G1 y → ∀ Q : VK, (∀ G2 H2 v, Same G1 G2 → Desc G2 cs H2 → P G2 v → Q v H2) → r x y H Q) : D X (.BinOp a op b pos) σ G cs P :=
  d_by (pe_op ho (sE X a) (sE X b)) fun G1 H s d Q q => ha G1 H s d _ fun G2 H2 x s2 d2 hx => hb G2 H2 (s.trans s2) d2 _ fun G3 H3 y s3 d3 hy =>
    hr G3 H3 x y ((s.trans s2).trans s3) d3 (Mono.mono s3 hx) hy Q fun G4 H4 v s4 d4 hv => q G4 H4 v ((s2.trans s3).trans s4) d4 hv
theorem d_un {op : UnaryOp} {r : V → Hp → VK → Prop} (ho : UnR X (unaryOp op) r) (ha : D X a σ G cs Pa)
    (hr : ∀ G1 H x, Same G G1 → Desc G1 cs H → Pa G1 x → ∀ Q : VK, (∀ G2 H2 v, Same G1 G2 → Desc G2 cs H2 → P G2 v → Q v H2) → r x H Q) : D X (.UnaryOp op a pos) σ G cs P :=
  d_by (pe_un ho (sE X a)) fun G1 H s d Q q => ha G1 H s d _ fun G2 H2 x s2 d2 hx => hr G2 H2 x (s.trans s2) d2 hx Q fun G4 H4 v s4 d4 hv => q G4 H4 v (s2.trans s4) d4 hv
/-- comparisons, as values and as tests -/
theorem d_cmp {op : CmpOp} {r : R2} {k : Bool} [Mono Pa] (ho : OpR X (compareOp op) r) (hm : behindInMarks op b = false) (ha : D X a σ G cs Pa) (hb : D X b σ G cs Pb)
    (hr : ∀ G1 H x y, Same G G1 → Desc G1 cs H → Pa G1 x → Pb G1 y → ∀ Q : VK, Q (.bl k) H → r x y H Q) : D X (.Compare a [op] [b] pos) σ G cs (rB k) :=
  d_by (pe_cmpR ho (sE X a) (sE X b) hm) fun G1 H s d Q q => ha G1 H s d _ fun G2 H2 x s2 d2 hx => hb G2 H2 (s.trans s2) d2 _ fun G3 H3 y s3 d3 hy =>
    hr G3 H3 x y ((s.trans s2).trans s3) d3 (Mono.mono s3 hx) hy Q (q G3 H3 _ (s2.trans s3) d3 rfl)
theorem t_cmp {op : CmpOp} {r : R2} {k : Bool} [Mono Pa] (ho : OpR X (compareOp op) r) (hm : behindInMarks op b = false) (ha : D X a σ G cs Pa) (hb : D X b σ G cs Pb)
    (hr : ∀ G1 H x y, Same G G1 → Desc G1 cs H → Pa G1 x → Pb G1 y → ∀ Q : VK, Q (.bl k) H → r x y H Q) : T X (.Compare a [op] [b] pos) σ G cs k := fun G1 H s d Q q =>
  uT (pt_cmpR ho (sE X a) (sE X b) hm) (ha G1 H s d _ fun G2 H2 x s2 d2 hx => hb G2 H2 (s.trans s2) d2 _ fun G3 H3 y s3 d3 hy =>
    hr G3 H3 x y ((s.trans s2).trans s3) d3 (Mono.mono s3 hx) hy _ ⟨k, rfl, q G3 H3 (s2.trans s3) d3⟩)
theorem d_chain {op op' : CmpOp} {r r' : R2} {k k' : Bool} [Mono Pa] [Mono Pb] (ho : OpR X (compareOp op) r) (ho' : OpR X (compareOp op') r') (ha : D X a σ G cs Pa) (hb : D X b σ G cs Pb) (hc : D X c σ G cs Pc)
    (hr : ∀ G1 H x y, Same G G1 → Desc G1 cs H → Pa G1 x → Pb G1 y → ∀ Q : VK, Q (.bl k) H → r x y H Q) (hr' : ∀ G1 H x y, Same G G1 → Desc G1 cs H → Pb G1 x → Pc G1 y → ∀ Q : VK, Q (.bl k') H → r' x y H Q)
    (hm : lastMarks [op, op'] [b, c] = false := by with_unfolding_all rfl) : D X (.Compare a [op, op'] [b, c] pos) σ G cs (rB (k && k')) :=
  d_by (pe_chain ho ho' (sE X a) (sE X b) (sE X c) hm) fun G1 H s d Q q => ha G1 H s d _ fun G2 H2 x s2 d2 hx => hb G2 H2 (s.trans s2) d2 _ fun G3 H3 y s3 d3 hy => by
    refine hr G3 H3 x y ((s.trans s2).trans s3) d3 (Mono.mono s3 hx) hy _ ⟨k, rfl, ?_⟩
    cases k with
    | false => exact q G3 H3 _ (s2.trans s3) d3 rfl
    | true => exact hc G3 H3 ((s.trans s2).trans s3) d3 _ fun G4 H4 z s4 d4 hz => hr' G4 H4 y z (((s.trans s2).trans s3).trans s4) d4 (Mono.mono s4 hy) hz Q (q G4 H4 _ ((s2.trans s3).trans s4) d4 rfl)
theorem t_chain {op op' : CmpOp} {r r' : R2} {k k' : Bool} [Mono Pa] [Mono Pb] (ho : OpR X (compareOp op) r) (ho' : OpR X (compareOp op') r') (ha : D X a σ G cs Pa) (hb : D X b σ G cs Pb) (hc : D X c σ G cs Pc)
    (hr : ∀ G1 H x y, Same G G1 → Desc G1 cs H → Pa G1 x → Pb G1 y → ∀ Q : VK, Q (.bl k) H → r x y H Q) (hr' : ∀ G1 H x y, Same G G1 → Desc G1 cs H → Pb G1 x → Pc G1 y → ∀ Q : VK, Q (.bl k') H → r' x y H Q)
    (hm : lastMarks [op, op'] [b, c] = false := by with_unfolding_all rfl) : T X (.Compare a [op, op'] [b, c] pos) σ G cs (k && k') := fun G1 H s d Q q =>
  uT (pt_chain ho ho' (sE X a) (sE X b) (sE X c) hm) (ha G1 H s d _ fun G2 H2 x s2 d2 hx => hb G2 H2 (s.trans s2) d2 _ fun G3 H3 y s3 d3 hy => by
    refine hr G3 H3 x y ((s.trans s2).trans s3) d3 (Mono.mono s3 hx) hy _ ⟨k, rfl, ?_⟩
    cases k with
    | false => exact ⟨false, rfl, q G3 H3 (s2.trans s3) d3⟩
    | true => exact hc G3 H3 ((s.trans s2).trans s3) d3 _ fun G4 H4 z s4 d4 hz => hr' G4 H4 y z (((s.trans s2).trans s3).trans s4) d4 (Mono.mono s4 hy) hz _ ⟨k', rfl, q G4 H4 ((s2.trans s3).trans s4) d4⟩)
/-- and, or, not; as values, as tests -/
theorem t_val {k : Bool} (h : D X e σ G cs (rB k)) (he : ∀ whole, isTrue e X.env whole = (do let v ← whole; standAt e.pos; holding [v] (truthy v)) := by intro _; rfl) : T X e σ G cs k := fun G1 H s d Q q =>
  uT (pt_val (sE X e) he) (h G1 H s d _ fun G2 H2 v s2 d2 hv => ⟨k, hv, q G2 H2 s2 d2⟩)
theorem t_not {k : Bool} (h : T X a σ G cs k) : T X (.UnaryOp .Not a pos) σ G cs (!k) := fun G1 H s d Q q => uT (pt_not (sT X a)) (h G1 H s d _ fun G2 H2 s2 d2 => q G2 H2 s2 d2)
theorem t_w {k : Bool} (h : TW X e σ G cs k) : T X e σ G cs k := fun G1 H s d Q q => uT (PW.pt (sW X e)) (h G1 H s d Q q)
theorem w_and1 {k : Bool} (h : T X a σ G cs k) : TW X (.BoolOp .And [a] pos) σ G cs k := fun G1 H s d Q q => uW (pw_and1 (sT X a)) (h G1 H s d Q q)
theorem w_or1 {k : Bool} (h : T X a σ G cs k) : TW X (.BoolOp .Or [a] pos) σ G cs k := fun G1 H s d Q q => uW (pw_or1 (sT X a)) (h G1 H s d Q q)
theorem w_and {rest : List Expr} {k k' : Bool} (h : T X a σ G cs k) (h' : k = true → TW X (.BoolOp .And (b :: rest) pos) σ G cs k') : TW X (.BoolOp .And (a :: b :: rest) pos) σ G cs (k && k') := fun G1 H s d Q q =>
  uW (pw_and (sT X a) (sW X _)) (h G1 H s d _ fun G2 H2 s2 d2 => by
    cases k with
    | false => exact iteF (q G2 H2 s2 d2)
    | true => exact iteT (h' rfl G2 H2 (s.trans s2) d2 Q fun G3 H3 s3 d3 => q G3 H3 (s2.trans s3) d3))
theorem w_or {rest : List Expr} {k k' : Bool} (h : T X a σ G cs k) (h' : k = false → TW X (.BoolOp .Or (b :: rest) pos) σ G cs k') : TW X (.BoolOp .Or (a :: b :: rest) pos) σ G cs (k || k') := fun G1 H s d Q q =>
  uW (pw_or (sT X a) (sW X _)) (h G1 H s d _ fun G2 H2 s2 d2 => by
    cases k with
    | true => exact iteT (q G2 H2 s2 d2)
    | false => exact iteF (h' rfl G2 H2 (s.trans s2) d2 Q fun G3 H3 s3 d3 => q G3 H3 (s2.trans s3) d3))
theorem d_one {op : BoolOp} (h : D X a σ G cs P) : D X (.BoolOp op [a] pos) σ G cs P := fun G1 H s d Q q => uE (pe_one (sE X a)) (h G1 H s d Q q)
theorem d_and {rest : List Expr} {k k' : Bool} (h : D X a σ G cs (rB k)) (h' : k = true → D X (.BoolOp .And (b :: rest) pos) σ G cs (rB k')) : D X (.BoolOp .And (a :: b :: rest) pos) σ G cs (rB (k && k')) :=
  d_by (pe_and (sE X a) (sE X _)) fun G1 H s d Q q => h G1 H s d _ fun G2 H2 v s2 d2 hv => ⟨k, hv, by
    cases k with
    | false => exact iteF (q G2 H2 _ s2 d2 rfl)
    | true => exact iteT (h' rfl G2 H2 (s.trans s2) d2 Q fun G3 H3 w s3 d3 hw => q G3 H3 w (s2.trans s3) d3 hw)⟩
theorem d_or {rest : List Expr} {k k' : Bool} (h : D X a σ G cs (rB k)) (h' : k = false → D X (.BoolOp .Or (b :: rest) pos) σ G cs (rB k')) : D X (.BoolOp .Or (a :: b :: rest) pos) σ G cs (rB (k || k')) :=
  d_by (pe_or (sE X a) (sE X _)) fun G1 H s d Q q => h G1 H s d _ fun G2 H2 v s2 d2 hv => ⟨k, hv, by
    cases k with
    | true => exact iteT (q G2 H2 _ s2 d2 rfl)
    | false => exact iteF (h' rfl G2 H2 (s.trans s2) d2 Q fun G3 H3 w s3 d3 hw => q G3 H3 w (s2.trans s3) d3 hw)⟩
theorem d_not {k : Bool} (h : D X a σ G cs (rB k)) : D X (.UnaryOp .Not a pos) σ G cs (rB (!k)) :=
  d_by (pe_not (sE X a)) fun G1 H s d Q q => h G1 H s d _ fun G2 H2 v s2 d2 hv => ⟨k, hv, q G2 H2 _ s2 d2 rfl⟩
theorem d_if {α : Type} {k : Bool} {r : α → Hp → V → Prop} {x y : α} (hc : T X c σ G cs k) (ha : k = true → D X a σ G cs (r x)) (hb : k = false → D X b σ G cs (r y)) : D X (.IfExp c a b pos) σ G cs (r (if k = true then x else y)) :=
  d_by (pe_ifExp (sT X c) (sE X a) (sE X b)) fun G1 H s d Q q => hc G1 H s d _ fun G2 H2 s2 d2 => by
    cases k with
    | true => exact iteT (ha rfl G2 H2 (s.trans s2) d2 Q fun G3 H3 w s3 d3 hw => q G3 H3 w (s2.trans s3) d3 hw)
    | false => exact iteF (hb rfl G2 H2 (s.trans s2) d2 Q fun G3 H3 w s3 d3 hw => q G3 H3 w (s2.trans s3) d3 hw)
/-! arguments -/
def aN : Hp → List V → Prop := fun _ vs => vs = []
def aC (P : Hp → V → Prop) (Ps : Hp → List V → Prop) : Hp → List V → Prop := fun G vs => ∃ v ws, vs = v :: ws ∧ P G v ∧ Ps G ws
theorem a_nil : A X [] σ G cs aN := fun G1 H s d Q q => uA pa_nil (q G1 H _ (Same.refl _) d rfl)
def noStar : Expr → Bool
  | .Starred _ _ => false
  | _ => true
theorem star_plain {e : Expr} {es : List Expr} {env : Env} (h : noStar e = true) : starEach (e :: es) env = (false, eval e env) :: starEach es env := by
  cases e <;> first | rfl | cases h
theorem a_cons {Ps : Hp → List V → Prop} [Mono P] (h : D X e σ G cs P) (hs : A X es σ G cs Ps) (hst : starEach (e :: es) X.env = (false, eval e X.env) :: starEach es X.env := by exact star_plain rfl) : A X (e :: es) σ G cs (aC P Ps) := fun G1 H s d Q q =>
  uA (pa_cons (sE X e) (sA X es) hst) (h G1 H s d _ fun G2 H2 v s2 d2 hv => hs G2 H2 (s.trans s2) d2 _ fun G3 H3 ws s3 d3 hw => q G3 H3 _ (s2.trans s3) d3 ⟨v, ws, rfl, Mono.mono s3 hv, hw⟩)
theorem d_callB {x : Str} {id : String} {r : List V → Hp → VK → Prop} {Ps : Hp → List V → Prop} (hc : CallR X (.builtin id) r) (hm : X.mg x = none) (ha : A X (e :: es) σ G cs Ps)
    (hr : ∀ G1 H vs, Same G G1 → Desc G1 cs H → Ps G1 vs → ∀ Q : VK, (∀ G2 H2 v, Same G1 G2 → Desc G2 cs H2 → P G2 v → Q v H2) → r vs H Q)
    (hg : Gl X x := by rfl) (hv : bootBuiltins x = some (.builtin id) := by decide +kernel) (hn : x ≠ "__name__" := by decide) (hd : (x == ("__debug__" : Str)) = false := by decide)
    (he : starEach (e :: es) X.env = (false, eval e X.env) :: starEach es X.env := by exact star_plain rfl) (hpl : (backTo pos (starEach es X.env)).any (·.1) = false := by rfl) : D X (.Call (.Name x p) (e :: es) [] pos) σ G cs P :=
  d_by (pe_callB hc hg hm hv (sA X _) (hn := hn) (hdb := hd) (he := he) (hpl := hpl)) fun G1 H s d Q q => ha G1 H s d _ fun G2 H2 vs s2 d2 hvs => hr G2 H2 vs (s.trans s2) d2 hvs Q fun G3 H3 v s3 d3 h3 => q G3 H3 v (s2.trans s3) d3 h3
theorem d_callTy {x : Str} {id : String} {r : List V → Hp → VK → Prop} {Ps : Hp → List V → Prop} (hc : CallR X (.type id) r) (hm : X.mg x = none) (ha : A X (e :: es) σ G cs Ps)
    (hr : ∀ G1 H vs, Same G G1 → Desc G1 cs H → Ps G1 vs → ∀ Q : VK, (∀ G2 H2 v, Same G1 G2 → Desc G2 cs H2 → P G2 v → Q v H2) → r vs H Q)
    (hg : Gl X x := by rfl) (hv : bootBuiltins x = some (.type id) := by decide +kernel) (hn : x ≠ "__name__" := by decide) (hd : (x == ("__debug__" : Str)) = false := by decide)
    (he : starEach (e :: es) X.env = (false, eval e X.env) :: starEach es X.env := by exact star_plain rfl) (hpl : (backTo pos (starEach es X.env)).any (·.1) = false := by rfl) : D X (.Call (.Name x p) (e :: es) [] pos) σ G cs P :=
  d_by (pe_callTy hc hg hm hv (sA X _) (hn := hn) (hdb := hd) (he := he) (hpl := hpl)) fun G1 H s d Q q => ha G1 H s d _ fun G2 H2 vs s2 d2 hvs => hr G2 H2 vs (s.trans s2) d2 hvs Q fun G3 H3 v s3 d3 h3 => q G3 H3 v (s2.trans s3) d3 h3
end
end J

namespace J
open PySem L2

/-! ### what a block comes to -/
/-- ε errors, S the state behind the block, L the state of the loop around, R what is handed back -/
inductive Out (ε S L R : Type) where
  | nx (s : S) | bk (l : L) | ct (l : L) | rt (r : R) | er (k : ε)
namespace Out
variable {ε S S' L R : Type}
def bind (m : Out ε S L R) (k : S → Out ε S' L R) : Out ε S' L R := match m with
  | .nx s => k s
  | .bk l => .bk l
  | .ct l => .ct l
  | .rt r => .rt r
  | .er e => .er e
@[simp] theorem bind_nx (s : S) (k : S → Out ε S' L R) : (Out.nx s : Out ε S L R).bind k = k s := rfl
@[simp] theorem bind_bk (l : L) (k : S → Out ε S' L R) : (Out.bk l : Out ε S L R).bind k = .bk l := rfl
@[simp] theorem bind_ct (l : L) (k : S → Out ε S' L R) : (Out.ct l : Out ε S L R).bind k = .ct l := rfl
@[simp] theorem bind_rt (r : R) (k : S → Out ε S' L R) : (Out.rt r : Out ε S L R).bind k = .rt r := rfl
@[simp] theorem bind_er (e : ε) (k : S → Out ε S' L R) : (Out.er e : Out ε S L R).bind k = .er e := rfl
/-- the value of a body that hands back, and raises nothing -/
def val [Inhabited R] (m : Out Empty Unit Empty R) : R := match m with
  | .nx _ => default
  | .bk l => l.elim
  | .ct l => l.elim
  | .rt r => r
  | .er e => e.elim
@[simp] theorem val_rt [Inhabited R] (r : R) : (Out.rt r : Out Empty Unit Empty R).val = r := rfl
/-- of one that may raise -/
def res [Inhabited R] (m : Out ε Unit Empty R) : Except ε R := match m with
  | .nx _ => .ok default
  | .bk l => l.elim
  | .ct l => l.elim
  | .rt r => .ok r
  | .er e => .error e
@[simp] theorem res_rt [Inhabited R] (r : R) : (Out.rt r : Out ε Unit Empty R).res = .ok r := rfl
@[simp] theorem res_er [Inhabited R] (e : ε) : (Out.er e : Out ε Unit Empty R).res = .error e := rfl
@[simp] theorem res_nx [Inhabited R] (u : Unit) : (Out.nx u : Out ε Unit Empty R).res = .ok default := rfl
end Out
/-- a loop: f is a turn -/
def forL {ε S L R α : Type} (f : S → α → Out ε S S R) : S → List α → Out ε S L R
  | s, [] => .nx s
  | s, x :: xs => match f s x with
    | .nx s' => forL f s' xs
    | .ct s' => forL f s' xs
    | .bk s' => .nx s'
    | .rt r => .rt r
    | .er e => .er e
/-- a while: at most n turns -/
def whileN {ε S L R : Type} (c : S → Bool) (f : S → Out ε S S R) : Nat → S → Out ε S L R
  | 0, s => .nx s
  | n + 1, s => if c s = true then (match f s with
    | .nx s' => whileN c f n s'
    | .ct s' => whileN c f n s'
    | .bk s' => .nx s'
    | .rt r => .rt r
    | .er e => .er e) else .nx s

structure Po (ε S L R : Type) where
  nx : S → L2.St → Hp → Cells → Prop
  lp : L → L2.St → Hp → Cells → Prop
  rt : R → Hp → Cells → V → Prop
  er : ε → L2.St → Hp → Cells → Prop
/-- what is wanted behind, by the outcome -/
def Wish {ε S L R : Type} (W : ε → L2.St → Hp → Prop) (G : Hp) (Φ : Po ε S L R) (E : Ends) (m : Out ε S L R) : Prop := match m with
  | .nx s => ∀ σ2 G2 cs2 H2, Same G G2 → Desc G2 cs2 H2 → Φ.nx s σ2 G2 cs2 → E.nx σ2 H2
  | .bk l => ∀ σ2 G2 cs2 H2, Same G G2 → Desc G2 cs2 H2 → Φ.lp l σ2 G2 cs2 → E.bk σ2 H2
  | .ct l => ∀ σ2 G2 cs2 H2, Same G G2 → Desc G2 cs2 H2 → Φ.lp l σ2 G2 cs2 → E.ct σ2 H2
  | .rt r => ∀ v G2 cs2 H2, Same G G2 → Desc G2 cs2 H2 → Φ.rt r G2 cs2 v → E.rt v H2
  | .er k => ∀ σ2 G2 cs2 H2, Same G G2 → Desc G2 cs2 H2 → Φ.er k σ2 G2 cs2 → W k σ2 H2
theorem Wish.up {ε S L R : Type} {W : ε → L2.St → Hp → Prop} {G G' : Hp} {Φ : Po ε S L R} {E : Ends} {m : Out ε S L R} (h : Wish W G Φ E m) (s : Same G G') : Wish W G' Φ E m := by
  cases m with
  | nx x => exact fun σ2 G2 cs2 H2 s2 d p => h σ2 G2 cs2 H2 (s.trans s2) d p
  | bk x => exact fun σ2 G2 cs2 H2 s2 d p => h σ2 G2 cs2 H2 (s.trans s2) d p
  | ct x => exact fun σ2 G2 cs2 H2 s2 d p => h σ2 G2 cs2 H2 (s.trans s2) d p
  | rt x => exact fun σ2 G2 cs2 H2 s2 d p => h σ2 G2 cs2 H2 (s.trans s2) d p
  | er x => exact fun σ2 G2 cs2 H2 s2 d p => h σ2 G2 cs2 H2 (s.trans s2) d p
/-- the block comes to m -/
def B {ε S L R : Type} (X : Cx) (W : ε → L2.St → Hp → Prop) (sts : List Stmt) (σ : L2.St) (G : Hp) (cs : Cells) (Φ : Po ε S L R) (m : Out ε S L R) : Prop :=
  ∀ H, Desc G cs H → ∀ E : Ends, Wish W G Φ E m → wSs X sts E σ H

section
variable {ε S L R : Type} {X : Cx} {W : ε → L2.St → Hp → Prop} {σ : L2.St} {G : Hp} {cs : Cells} {Φ : Po ε S L R} {m : Out ε S L R} {st : Stmt} {rest body : List Stmt} {e : Expr} {P : Hp → V → Prop} {pos p : Pos}
theorem b_nil {s : S} (h : Φ.nx s σ G cs) : B X W [] σ G cs Φ (.nx s) := fun H d E w => uSs pss_nil (w σ G cs H (Same.refl _) d h)
/-- a statement by a rule, then the rest -/
theorem b_cons {t : TS} (h : PS X st t) (q : ∀ H, Desc G cs H → ∀ E : Ends, Wish W G Φ E m → t { E with nx := wSs X rest E } σ H) : B X W (st :: rest) σ G cs Φ m := fun H d E w => uSs (pss_cons h (sSs X rest)) (q H d E w)
theorem b_pass (h : B X W rest σ G cs Φ m) : B X W (.Pass pos :: rest) σ G cs Φ m := b_cons ps_pass fun H d E w => h H d E w
theorem b_set (i : Nat) {x : Str} (hN : X.N.Nodup) (he : D X e σ G cs P) (k : ∀ v G1, Same G G1 → P G1 v → B X W rest (σ.set i (some v)) G1 cs Φ m) (hi : X.N[i]? = some x := by rfl) (hx : Loc X.env.scope x := by first | exact Or.inl rfl | exact Or.inr rfl)
    (hs : swapsWith e (some (.Name x p)) pos.line X.env = pure false := by rfl) (hf : X.fn x = true ∨ X.env.scope.names.lookup x = some .local := by first | exact .inl rfl | exact .inr rfl) : B X W (.Assign [.Name x p] e pos :: rest) σ G cs Φ m :=
  b_cons (ps_set hN hi hx (sE X e) hs hf) fun H d E w => he G H (Same.refl _) d _ fun G2 H2 v s2 d2 hv => k v G2 s2 hv H2 d2 E (w.up s2)
theorem b_ret {r : R} (he : D X e σ G cs P) (k : ∀ v G1, Same G G1 → P G1 v → Φ.rt r G1 cs v) : B X W (.Return (some e) pos :: rest) σ G cs Φ (.rt r) :=
  b_cons (ps_ret (sE X e)) fun H d E w => he G H (Same.refl _) d _ fun G2 H2 v s2 d2 hv => w v G2 cs H2 s2 d2 (k v G2 s2 hv)
theorem b_retN {r : R} (k : Φ.rt r G cs .non) : B X W (.Return none pos :: rest) σ G cs Φ (.rt r) := b_cons ps_retN fun H d E w => w .non G cs H (Same.refl _) d k
theorem b_break {l : L} (k : Φ.lp l σ G cs) : B X W (.Break pos :: rest) σ G cs Φ (.bk l) := b_cons ps_break fun H d E w => w σ G cs H (Same.refl _) d k
theorem b_cont {l : L} (k : Φ.lp l σ G cs) : B X W (.Continue pos :: rest) σ G cs Φ (.ct l) := b_cons ps_continue fun H d E w => w σ G cs H (Same.refl _) d k
/-- an if, every way through it goes on in the rest or leaves -/
theorem b_if {S' : Type} {c : Expr} {a b : List Stmt} {k : Bool} (Mid : S' → L2.St → Hp → Cells → Prop) {ma mb : Out ε S' L R} {g : S' → Out ε S L R} (hc : T X c σ G cs k)
    (ha : k = true → ∀ G1, Same G G1 → B X W a σ G1 cs { nx := Mid, lp := Φ.lp, rt := Φ.rt, er := Φ.er } ma) (hb : k = false → ∀ G1, Same G G1 → B X W b σ G1 cs { nx := Mid, lp := Φ.lp, rt := Φ.rt, er := Φ.er } mb)
    (hr : ∀ s σ2 G2 cs2, Same G G2 → Mid s σ2 G2 cs2 → (if k = true then ma else mb) = .nx s → B X W rest σ2 G2 cs2 Φ (g s)) : B X W (.If c a b pos :: rest) σ G cs Φ ((if k = true then ma else mb).bind g) :=
  b_cons (ps_if (sT X c) (sSs X a) (sSs X b)) fun H d E w => hc G H (Same.refl _) d _ fun G2 H2 s2 d2 => by
    have go : ∀ {sts : List Stmt} {mm : Out ε S' L R}, B X W sts σ G2 cs { nx := Mid, lp := Φ.lp, rt := Φ.rt, er := Φ.er } mm → Wish W G Φ E (mm.bind g) → (∀ s σ2 G3 cs2, Same G G3 → Mid s σ2 G3 cs2 → mm = .nx s → B X W rest σ2 G3 cs2 Φ (g s)) → wSs X sts { E with nx := wSs X rest E } σ H2 := fun {sts mm} hB w hr => by
      refine hB H2 d2 _ ?_
      cases mm with
      | nx s => exact fun σ3 G3 cs3 H3 s3 d3 p => hr s σ3 G3 cs3 (s2.trans s3) p rfl H3 d3 E (Wish.up (G := G) (show Wish W G Φ E (g s) from w) (s2.trans s3))
      | bk l => exact fun σ3 G3 cs3 H3 s3 d3 p => w σ3 G3 cs3 H3 (s2.trans s3) d3 p
      | ct l => exact fun σ3 G3 cs3 H3 s3 d3 p => w σ3 G3 cs3 H3 (s2.trans s3) d3 p
      | rt r => exact fun v G3 cs3 H3 s3 d3 p => w v G3 cs3 H3 (s2.trans s3) d3 p
      | er x => exact fun σ3 G3 cs3 H3 s3 d3 p => w σ3 G3 cs3 H3 (s2.trans s3) d3 p
    cases k with
    | true => exact iteT (go (ha rfl G2 s2) w hr)
    | false => exact iteF (go (hb rfl G2 s2) w hr)
/-- an if whose first way always leaves, no else -/
theorem b_ifx {c : Expr} {a : List Stmt} {k : Bool} {ma mr : Out ε S L R} (hc : T X c σ G cs k)
    (ha : k = true → ∀ G1, Same G G1 → B X W a σ G1 cs { nx := fun _ _ _ _ => False, lp := Φ.lp, rt := Φ.rt, er := Φ.er } ma)
    (hr : k = false → ∀ G1, Same G G1 → B X W rest σ G1 cs Φ mr) : B X W (.If c a [] pos :: rest) σ G cs Φ (if k = true then ma else mr) :=
  b_cons (ps_if (sT X c) (sSs X a) pss_nil) fun H d E w => hc G H (Same.refl _) d _ fun G2 H2 s2 d2 => by
    cases k with
    | true =>
      have w' : Wish W G Φ E ma := w
      refine iteT (ha rfl G2 s2 H2 d2 _ ?_)
      cases ma with
      | nx s => exact fun σ3 G3 cs3 H3 s3 d3 p => p.elim
      | bk l => exact fun σ3 G3 cs3 H3 s3 d3 p => w' σ3 G3 cs3 H3 (s2.trans s3) d3 p
      | ct l => exact fun σ3 G3 cs3 H3 s3 d3 p => w' σ3 G3 cs3 H3 (s2.trans s3) d3 p
      | rt r => exact fun v G3 cs3 H3 s3 d3 p => w' v G3 cs3 H3 (s2.trans s3) d3 p
      | er x => exact fun σ3 G3 cs3 H3 s3 d3 p => w' σ3 G3 cs3 H3 (s2.trans s3) d3 p
    | false => exact iteF (hr rfl G2 s2 H2 d2 E (Wish.up (show Wish W G Φ E mr from w) s2))
/-- an if at the block's end, its two ways -/
theorem b_ifl {c : Expr} {a b : List Stmt} {k : Bool} {ma mb : Out ε S L R} (hc : T X c σ G cs k)
    (ha : k = true → ∀ G1, Same G G1 → B X W a σ G1 cs Φ ma) (hb : k = false → ∀ G1, Same G G1 → B X W b σ G1 cs Φ mb) : B X W [.If c a b pos] σ G cs Φ (if k = true then ma else mb) := fun H d E w =>
  uSs (pss_one (ps_if (sT X c) (sSs X a) (sSs X b))) (hc G H (Same.refl _) d _ fun G2 H2 s2 d2 => by
    cases k with
    | true => exact iteT (ha rfl G2 s2 H2 d2 E (Wish.up (show Wish W G Φ E ma from w) s2))
    | false => exact iteF (hb rfl G2 s2 H2 d2 E (Wish.up (show Wish W G Φ E mb from w) s2)))
theorem B.up {G' : Hp} (h : B X W rest σ G' cs Φ m) (s : ∀ H, Desc G cs H → Same G G' ∧ Desc G' cs H) : B X W rest σ G cs Φ m := fun H d E w => h H (s H d).2 E (w.up (s H d).1)
/-- a value's being is dropped -/
theorem b_expr (he : D X e σ G cs P) (k : ∀ v G1, Same G G1 → P G1 v → B X W rest σ G1 cs Φ m) (hs : swapsWith e none pos.line X.env = pure false := by rfl) : B X W (.Expr e pos :: rest) σ G cs Φ m :=
  b_cons (ps_expr (sE X e) hs) fun H d E w => he G H (Same.refl _) d _ fun G2 H2 v s2 d2 hv => k v G2 s2 hv H2 d2 E (w.up s2)

/-! ### loops -/
structure WalkD {α : Type} (J : It) (xs : List α) (G : Hp) (C : Cells → Prop) (P : α → Hp → V → Prop) : Prop where
  goes : ∀ i G1 H cs, i < xs.length → Same G G1 → C cs → Desc G1 cs H → J.go i H
  stops : ∀ G1 H cs, Same G G1 → C cs → Desc G1 cs H → J.stop xs.length H
  yields : ∀ i x G1 H cs v H', xs[i]? = some x → Same G G1 → C cs → Desc G1 cs H → J.yld i H v H' → ∃ G', Same G1 G' ∧ Desc G' cs H' ∧ P x G' v
/-- what is walked -/
def I {α : Type} (X : Cx) (tg iter : Expr) (σ : L2.St) (G : Hp) (cs : Cells) (C : Cells → Prop) (xs : List α) (P : α → Hp → V → Prop) : Prop :=
  ∃ wi, PI X tg iter wi ∧ ∀ G1 H, Same G G1 → Desc G1 cs H → ∀ Rr : It → Hp → Prop, (∀ J G2 H2, Same G1 G2 → Desc G2 cs H2 → WalkD J xs G2 C P → Rr J H2) → wi σ H Rr
/-- a target -/
def Tg {α : Type} (X : Cx) (tg : Expr) (P : α → Hp → V → Prop) (Sx : α → Hp → L2.St → L2.St → Prop) : Prop :=
  ∃ g, PG X tg g ∧ ∀ x v G cs H σ, P x G v → Desc G cs H → ∀ Q : L2.St → Hp → Prop, (∀ σ', Sx x G σ σ' → Q σ' H) → g v σ H Q
/-- the states that a loop comes through -/
inductive Reach {α : Type} (f : S → α → Out ε S S R) (s0 : S) : List α → S → Prop where
  | nil : Reach f s0 [] s0
  | nx {pre : List α} {s s' : S} {x : α} : Reach f s0 pre s → f s x = .nx s' → Reach f s0 (pre ++ [x]) s'
  | ct {pre : List α} {s s' : S} {x : α} : Reach f s0 pre s → f s x = .ct s' → Reach f s0 (pre ++ [x]) s'
theorem forL_reach {L : Type} {α : Type} {f : S → α → Out ε S S R} {s0 : S} {pre : List α} {s : S} (h : Reach f s0 pre s) : ∀ (post : List α), (forL f s0 (pre ++ post) : Out ε S L R) = forL f s post := by
  induction h with
  | nil => intro post; rfl
  | @nx pre s s' x h e ih =>
    intro post
    rw [List.append_assoc, ih]
    show (match f s x with | .nx s' => forL f s' post | .ct s' => forL f s' post | .bk s' => .nx s' | .rt r => .rt r | .er e => .er e : Out ε S L R) = _
    rw [e]
  | @ct pre s s' x h e ih =>
    intro post
    rw [List.append_assoc, ih]
    show (match f s x with | .nx s' => forL f s' post | .ct s' => forL f s' post | .bk s' => .nx s' | .rt r => .rt r | .er e => .er e : Out ε S L R) = _
    rw [e]
theorem forL_cons {L : Type} {α : Type} {f : S → α → Out ε S S R} {s : S} {x : α} {xs : List α} : (forL f s (x :: xs) : Out ε S L R) = (match f s x with | .nx s' => forL f s' xs | .ct s' => forL f s' xs | .bk s' => .nx s' | .rt r => .rt r | .er e => .er e) := rfl
/-- a for: N tells the slots, the frozen part and the cells by the turns done and the state; f is a turn -/
theorem b_for {α S1 : Type} {tg iter : Expr} {C : Cells → Prop} {xs : List α} {Pi : α → Hp → V → Prop} {Sx : α → Hp → L2.St → L2.St → Prop} {s0 : S1} {f : S1 → α → Out ε S1 S1 R} {g : S1 → Out ε S L R}
    (N : Nat → S1 → L2.St → Hp → Cells → Prop) (hi : I X tg iter σ G cs C xs Pi) (ht : Tg X tg Pi Sx) (hcalm : X.calm = true) (hp : PassesOwn (model X.prog X.w) X.A X.env X.xe)
    (h0 : ∀ G1, Same G G1 → N 0 s0 σ G1 cs) (hC : ∀ n s σ1 G1 cs1, N n s σ1 G1 cs1 → C cs1)
    (hb : ∀ pre x post s σ1 G0 G1 cs1 σ2, xs = pre ++ x :: post → Reach f s0 pre s → Same G G0 → N pre.length s σ1 G0 cs1 → Same G0 G1 → Sx x G1 σ1 σ2 →
      B X W body σ2 G1 cs1 { nx := N (pre.length + 1), lp := N (pre.length + 1), rt := Φ.rt, er := Φ.er } (f s x))
    (hr : ∀ n s σ1 G1 cs1, n ≤ xs.length → Same G G1 → N n s σ1 G1 cs1 → (forL f s0 xs : Out ε S1 L R) = .nx s → B X W rest σ1 G1 cs1 Φ (g s))
    (hs : ∀ x, foldedSetIterable iter X.env x = pure x := by intro _; rfl) : B X W (.For tg iter body [] pos :: rest) σ G cs Φ ((forL f s0 xs).bind g) := by
  obtain ⟨wi, hpi, hw⟩ := hi
  obtain ⟨gt, hpg, hgt⟩ := ht
  refine b_cons (ps_for hp hcalm hpi hpg (sSs X body) hs) fun H d E w => ?_
  refine hw G H (Same.refl _) d _ fun J G2 H2 s2 d2 wk => ?_
  let Pv : Nat → L2.St → Hp → Prop := fun i σ1 H1 => ∃ s G1 cs1, i ≤ xs.length ∧ Reach f s0 (xs.take i) s ∧ Same G2 G1 ∧ Desc G1 cs1 H1 ∧ N i s σ1 G1 cs1
  refine ⟨fun i n σ1 H1 => n = xs.length - i ∧ Pv i σ1 H1, ⟨xs.length, rfl, s0, G2, cs, Nat.zero_le _, .nil, Same.refl _, d2, h0 G2 s2⟩, ?_⟩
  rintro i n σ1 H1 ⟨rfl, s, G1, cs1, hi, hre, s1, d1, hN⟩
  have w0 : Wish W G Φ E ((forL f s (xs.drop i)).bind g) := by
    have q := forL_reach (L := L) hre (xs.drop i)
    rw [List.take_append_drop] at q
    rw [← q]
    exact w
  by_cases hlt : i < xs.length
  · refine .inr ⟨wk.goes i G1 H1 cs1 hlt s1 (hC _ _ _ _ _ hN) d1, Pv (i + 1), fun σ' H' p' => ⟨_, by omega, rfl, p'⟩, fun v H3 y => ?_⟩
    have hx : xs[i]? = some xs[i] := by simp [hlt]
    obtain ⟨G3, s3, d3, pv⟩ := wk.yields i xs[i] G1 H1 cs1 v H3 hx s1 (hC _ _ _ _ _ hN) d1 y
    refine hgt xs[i] v G3 cs1 H3 σ1 pv d3 _ fun σ' hS => ?_
    have ed : xs = xs.take i ++ xs[i] :: xs.drop (i + 1) := by
      rw [← List.drop_eq_getElem_cons hlt, List.take_append_drop]
    have et : xs.take (i + 1) = xs.take i ++ [xs[i]] := by simp
    have el : (xs.take i).length = i := by rw [List.length_take]; omega
    have hb' := hb (xs.take i) xs[i] (xs.drop (i + 1)) s σ1 G1 G3 cs1 σ' ed hre (s2.trans s1) (by rw [el]; exact hN) s3 hS
    rw [el] at hb'
    refine hb' H3 d3 _ ?_
    have w1 : Wish W G Φ E ((forL f s (xs[i] :: xs.drop (i + 1))).bind g) := by
      rw [List.drop_eq_getElem_cons hlt] at w0
      exact w0
    rw [forL_cons] at w1
    have sG : Same G G3 := (s2.trans s1).trans s3
    cases hm : f s xs[i] with
    | nx s' => exact fun σ4 G4 cs4 H4 s4 d4 p4 => ⟨s', G4, cs4, hlt, by rw [et]; exact .nx hre hm, (s1.trans s3).trans s4, d4, p4⟩
    | ct s' => exact fun σ4 G4 cs4 H4 s4 d4 p4 => ⟨s', G4, cs4, hlt, by rw [et]; exact .ct hre hm, (s1.trans s3).trans s4, d4, p4⟩
    | bk s' =>
      rw [hm] at w1
      refine fun σ4 G4 cs4 H4 s4 d4 p4 => hr (i + 1) s' σ4 G4 cs4 hlt (sG.trans s4) p4 ?_ H4 d4 E (Wish.up (show Wish W G Φ E (g s') from w1) (sG.trans s4))
      rw [ed, forL_reach hre, forL_cons, hm]
    | rt r =>
      rw [hm] at w1
      exact fun v4 G4 cs4 H4 s4 d4 p4 => w1 v4 G4 cs4 H4 (sG.trans s4) d4 p4
    | er k =>
      rw [hm] at w1
      exact fun σ4 G4 cs4 H4 s4 d4 p4 => w1 σ4 G4 cs4 H4 (sG.trans s4) d4 p4
  · have e : i = xs.length := by omega
    subst e
    rw [List.drop_length] at w0
    rw [List.take_length] at hre
    refine .inl ⟨wk.stops G1 H1 cs1 s1 (hC _ _ _ _ _ hN) d1, hr _ s σ1 G1 cs1 (Nat.le_refl _) (s2.trans s1) hN ?_ H1 d1 E (Wish.up (show Wish W G Φ E (g s) from w0) (s2.trans s1))⟩
    have q := forL_reach (L := L) hre ([] : List α)
    rw [List.append_nil] at q
    exact q
/-- a name for a value -/
def letV {α β : Type} (x : α) (f : α → β) : β := f x
theorem b_setV {α : Type} {r : α → Hp → V → Prop} {y : α} {f : α → Out ε S L R} (i : Nat) {x : Str} (hN : X.N.Nodup) (he : D X e σ G cs (r y)) (k : ∀ z, z = y → ∀ v G1, Same G G1 → r z G1 v → B X W rest (σ.set i (some v)) G1 cs Φ (f z)) (hi : X.N[i]? = some x := by rfl) (hx : Loc X.env.scope x := by first | exact Or.inl rfl | exact Or.inr rfl)
    (hs : swapsWith e (some (.Name x p)) pos.line X.env = pure false := by rfl) (hf : X.fn x = true ∨ X.env.scope.names.lookup x = some .local := by first | exact .inl rfl | exact .inr rfl) : B X W (.Assign [.Name x p] e pos :: rest) σ G cs Φ (letV y f) :=
  b_set i hN he (fun v G1 s1 h => k y rfl v G1 s1 h) hi hx hs hf
end
end J

namespace J
open PySem L2
section
variable {X : Cx} {σ : L2.St} {G : Hp} {cs : Cells} {e a b c : Expr} {es : List Expr} {P Pa Pb Pc : Hp → V → Prop} {pos p : Pos} {i j k : Int}

/-! ### whole numbers -/
theorem d_add (ha : D X a σ G cs (rI i)) (hb : D X b σ G cs (rI j)) : D X (.BinOp a .Add b pos) σ G cs (rI (i + j)) := d_bin op_add ha hb fun G1 H x y s d hx hy Q q => ⟨i, j, hx, hy, q G1 H _ (Same.refl _) d rfl⟩
theorem d_sub (ha : D X a σ G cs (rI i)) (hb : D X b σ G cs (rI j)) : D X (.BinOp a .Sub b pos) σ G cs (rI (i - j)) := d_bin op_sub ha hb fun G1 H x y s d hx hy Q q => ⟨i, j, hx, hy, q G1 H _ (Same.refl _) d rfl⟩
theorem d_mul (ha : D X a σ G cs (rI i)) (hb : D X b σ G cs (rI j)) (h : CMul i j) : D X (.BinOp a .Mult b pos) σ G cs (rI (i * j)) := d_bin op_mul ha hb fun G1 H x y s d hx hy Q q => ⟨i, j, hx, hy, h, q G1 H _ (Same.refl _) d rfl⟩
theorem d_mulW (ha : D X a σ G cs (rI i)) (hb : D X b σ G cs (rI j)) (h : CMulW i j) : D X (.BinOp a .Mult b pos) σ G cs (rI (i * j)) := d_bin op_mulW ha hb fun G1 H x y s d hx hy Q q => ⟨i, j, hx, hy, h, q G1 H _ (Same.refl _) d rfl⟩
theorem d_fdiv (ha : D X a σ G cs (rI i)) (hb : D X b σ G cs (rI j)) (h : CDivW i j) : D X (.BinOp a .FloorDiv b pos) σ G cs (rI (i / j)) := d_bin op_fdivW ha hb fun G1 H x y s d hx hy Q q => ⟨i, j, hx, hy, h, q G1 H _ (Same.refl _) d rfl⟩
theorem d_mod (ha : D X a σ G cs (rI i)) (hb : D X b σ G cs (rI j)) (h : 0 < j) : D X (.BinOp a .Mod b pos) σ G cs (rI (i % j)) := d_bin op_mod ha hb fun G1 H x y s d hx hy Q q => ⟨i, j, hx, hy, h, q G1 H _ (Same.refl _) d rfl⟩
theorem d_pow (ha : D X a σ G cs (rI i)) (hb : D X b σ G cs (rI j)) (h : CPow i j) {z : Int} (hz : i ^ j.toNat = z) : D X (.BinOp a .Pow b pos) σ G cs (rI z) := d_bin op_pow ha hb fun G1 H x y s d hx hy Q q => ⟨i, j, hx, hy, h, q G1 H _ (Same.refl _) d (by subst hz; rfl)⟩
theorem d_neg (ha : D X a σ G cs (rI i)) : D X (.UnaryOp .USub a pos) σ G cs (rI (-i)) := d_un un_neg ha fun G1 H x s d hx Q q => ⟨i, hx, q G1 H _ (Same.refl _) d rfl⟩
theorem divW {i j : Int} (h : 0 < j) (hb : j.natAbs < 2 ^ 8999) : CDivW i j := wide_div (b := 8999) h hb (by decide) (by decide)
/-! what the operators' readings ask, by the operands -/
section
variable {G1 H : Hp} {x y : V} {Q : VK}
theorem c_lt (hx : rI i G1 x) (hy : rI j G1 y) (q : Q (.bl (decide (i < j))) H) : rI0 (fun i j => .bl (decide (i < j))) x y H Q := ⟨i, j, hx, hy, q⟩
theorem c_le (hx : rI i G1 x) (hy : rI j G1 y) (q : Q (.bl (decide (i ≤ j))) H) : rI0 (fun i j => .bl (decide (i ≤ j))) x y H Q := ⟨i, j, hx, hy, q⟩
theorem c_gt (hx : rI i G1 x) (hy : rI j G1 y) (q : Q (.bl (decide (j < i))) H) : rI0 (fun i j => .bl (decide (j < i))) x y H Q := ⟨i, j, hx, hy, q⟩
theorem c_ge (hx : rI i G1 x) (hy : rI j G1 y) (q : Q (.bl (decide (j ≤ i))) H) : rI0 (fun i j => .bl (decide (j ≤ i))) x y H Q := ⟨i, j, hx, hy, q⟩
theorem c_eqI (hx : rI i G1 x) (hy : rI j G1 y) (q : Q (.bl (decide (i = j))) H) : rEq x y H Q := by
  cases hx; cases hy
  refine ⟨rfl, ?_⟩
  have e : decide (V.int i = V.int j) = decide (i = j) := decide_eq_decide.mpr ⟨fun h => V.int.inj h, fun h => by rw [h]⟩
  rw [e]
  exact q
theorem c_neI (hx : rI i G1 x) (hy : rI j G1 y) (q : Q (.bl (!decide (i = j))) H) : rNe x y H Q := by
  cases hx; cases hy
  refine ⟨rfl, ?_⟩
  have e : decide (V.int i = V.int j) = decide (i = j) := decide_eq_decide.mpr ⟨fun h => V.int.inj h, fun h => by rw [h]⟩
  rw [e]
  exact q
theorem c_eqB {i j : Bool} (hx : rB i G1 x) (hy : rB j G1 y) (q : Q (.bl (decide (i = j))) H) : rEq x y H Q := by
  cases hx; cases hy
  refine ⟨rfl, ?_⟩
  have e : decide (V.bl i = V.bl j) = decide (i = j) := decide_eq_decide.mpr ⟨fun h => V.bl.inj h, fun h => by rw [h]⟩
  rw [e]
  exact q
theorem c_neB {i j : Bool} (hx : rB i G1 x) (hy : rB j G1 y) (q : Q (.bl (!decide (i = j))) H) : rNe x y H Q := by
  cases hx; cases hy
  refine ⟨rfl, ?_⟩
  have e : decide (V.bl i = V.bl j) = decide (i = j) := decide_eq_decide.mpr ⟨fun h => V.bl.inj h, fun h => by rw [h]⟩
  rw [e]
  exact q
theorem str_eq {i j : List Nat} : decide (V.str (SX.S i) = V.str (SX.S j)) = decide (i = j) := decide_eq_decide.mpr ⟨fun h => SX.S_inj (V.str.inj h), fun h => by rw [h]⟩
theorem c_eqS {i j : List Nat} (hx : rS i G1 x) (hy : rS j G1 y) (q : Q (.bl (decide (i = j))) H) : rEq x y H Q := by
  cases hx; cases hy
  refine ⟨rfl, ?_⟩
  rw [str_eq]
  exact q
theorem c_neS {i j : List Nat} (hx : rS i G1 x) (hy : rS j G1 y) (q : Q (.bl (!decide (i = j))) H) : rNe x y H Q := by
  cases hx; cases hy
  refine ⟨rfl, ?_⟩
  rw [str_eq]
  exact q
theorem c_inS {l : List Nat} {n : Nat} (hx : rS [n] G1 x) (hy : rS l G1 y) (q : Q (.bl (decide (n ∈ l))) H) : ∃ (c : Nat) (z : Str), x = .str ⟨#[c]⟩ ∧ y = .str z ∧ Q (.bl (decide (c ∈ z.cps.toList))) H := ⟨n, SX.S l, hx, hy, q⟩
theorem c_ninS {l : List Nat} {n : Nat} (hx : rS [n] G1 x) (hy : rS l G1 y) (q : Q (.bl (!decide (n ∈ l))) H) : ∃ (c : Nat) (z : Str), x = .str ⟨#[c]⟩ ∧ y = .str z ∧ Q (.bl (!decide (c ∈ z.cps.toList))) H := ⟨n, SX.S l, hx, hy, q⟩
end
/-- a value that is never None -/
class NotNon {α : Type} (r : α → Hp → V → Prop) : Prop where
  nn : ∀ {x G v}, r x G v → v ≠ .non
instance : NotNon rI := ⟨fun h z => by cases h; cases z⟩
instance : NotNon rB := ⟨fun h z => by cases h; cases z⟩
instance : NotNon rS := ⟨fun h z => by cases h; cases z⟩
instance (K : PySem.W.Frag) {α : Type} (r : α → Hp → V → Prop) : NotNon (rL K r) := ⟨fun h z => by obtain ⟨_, _, e, _⟩ := h; rw [e] at z; cases z⟩
instance (K : PySem.W.Frag) {α : Type} (r : α → Hp → List V → Prop) : NotNon (rT K r) := ⟨fun h z => by obtain ⟨_, _, e, _⟩ := h; rw [e] at z; cases z⟩
theorem is_non {α : Type} {r : α → Hp → V → Prop} [NotNon r] {o : Option α} {G : Hp} {v : V} (h : rO r o G v) : decide (v = .non) = o.isNone := by
  cases o with
  | none =>
    have e : v = .non := h
    rw [e]
    rfl
  | some x => exact decide_eq_false (NotNon.nn (r := r) (x := x) h)
theorem d_isN {α : Type} {r : α → Hp → V → Prop} [NotNon r] [∀ x, Mono (r x)] {o : Option α} {jj : Nat} {p' : Pos} (ha : D X a σ G cs (rO r o)) : D X (.Compare a [.Is] [.Constant .none jj p'] pos) σ G cs (rB o.isNone) :=
  d_cmp op_isN (nomark _) ha d_non fun G1 H x y s d hx hy Q q => ⟨hy, by rw [is_non hx]; exact q⟩
theorem t_isN {α : Type} {r : α → Hp → V → Prop} [NotNon r] [∀ x, Mono (r x)] {o : Option α} {jj : Nat} {p' : Pos} (ha : D X a σ G cs (rO r o)) : T X (.Compare a [.Is] [.Constant .none jj p'] pos) σ G cs o.isNone :=
  t_cmp op_isN (nomark _) ha d_non fun G1 H x y s d hx hy Q q => ⟨hy, by rw [is_non hx]; exact q⟩
theorem d_notN {α : Type} {r : α → Hp → V → Prop} [NotNon r] [∀ x, Mono (r x)] {o : Option α} {jj : Nat} {p' : Pos} (ha : D X a σ G cs (rO r o)) : D X (.Compare a [.IsNot] [.Constant .none jj p'] pos) σ G cs (rB (!o.isNone)) :=
  d_cmp op_notN (nomark _) ha d_non fun G1 H x y s d hx hy Q q => ⟨hy, by rw [is_non hx]; exact q⟩
theorem t_notN {α : Type} {r : α → Hp → V → Prop} [NotNon r] [∀ x, Mono (r x)] {o : Option α} {jj : Nat} {p' : Pos} (ha : D X a σ G cs (rO r o)) : T X (.Compare a [.IsNot] [.Constant .none jj p'] pos) σ G cs (!o.isNone) :=
  t_cmp op_notN (nomark _) ha d_non fun G1 H x y s d hx hy Q q => ⟨hy, by rw [is_non hx]; exact q⟩
/-- a value that may be None, known to be there -/
theorem d_some {α : Type} {r : α → Hp → V → Prop} {x : α} (h : D X e σ G cs (rO r (some x))) : D X e σ G cs (r x) := h
theorem d_toO {α : Type} {r : α → Hp → V → Prop} {x : α} (h : D X e σ G cs (r x)) : D X e σ G cs (rO r (some x)) := h
theorem d_toN {α : Type} {r : α → Hp → V → Prop} (h : D X e σ G cs (rN ())) : D X e σ G cs (rO r none) := h

/-! ### texts -/
theorem d_cat {l m : List Nat} (ha : D X a σ G cs (rS l)) (hb : D X b σ G cs (rS m)) (h : l.length + m.length ≤ sizeLine) : D X (.BinOp a .Add b pos) σ G cs (rS (l ++ m)) :=
  d_bin op_add_str ha hb fun G1 H x y s d hx hy Q q => ⟨SX.S l, SX.S m, hx, hy, by rw [SX.S_len, SX.S_len]; exact h, by rw [SX.S_cat]; exact q G1 H _ (Same.refl _) d rfl⟩
theorem d_ixS {l : List Nat} {n : Nat} (ha : D X a σ G cs (rS l)) (hb : D X b σ G cs (rI i)) (hl : l.length ≤ sizeLine) (h : atI l i = some n) (hs : PlainIx b := by exact fun _ _ => rfl) : D X (.Subscript a b pos) σ G cs (rS [n]) :=
  d_by (pe_ix ix_str (sE X a) (sE X b) hs) fun G1 H s d Q q => ha G1 H s d _ fun G2 H2 x s2 d2 hx => hb G2 H2 (s.trans s2) d2 _ fun G3 H3 y s3 d3 hy =>
    ⟨SX.S l, i, n, hx, hy, by rw [SX.S_len]; exact hl, h, q G3 H3 _ (s2.trans s3) d3 rfl⟩

/-! ### lists, tuples: read -/
theorem atI_rs {α : Type} {r : α → Hp → V → Prop} {xs : List α} {vs : List V} {x : α} (h : Rs r G xs vs) (hx : atI xs i = some x) : ∃ v, atI vs i = some v ∧ r x G v := by
  unfold atI at hx ⊢
  rw [← h.length]
  cases e : ixN xs.length i with
  | none =>
    rw [e] at hx
    cases hx
  | some k =>
    rw [e] at hx
    exact Rs.get h hx
theorem atI_lt {α : Type} {xs : List α} (h0 : 0 ≤ i) (h1 : i < (xs.length : Int)) [Inhabited α] : atI xs i = some (xs.getD i.toNat default) := by
  obtain ⟨n, rfl⟩ := Int.eq_ofNat_of_zero_le h0
  have hn : n < xs.length := by omega
  exact atI_nat (by simp [hn])
theorem atI_neg {α : Type} {xs : List α} {n : Nat} (h0 : 0 < n) (h1 : n ≤ xs.length) [Inhabited α] : atI xs (-(n : Int)) = some (xs.getD (xs.length - n) default) := by
  have hl : xs.length - n < xs.length := by omega
  have e : ixN xs.length (-(n : Int)) = some (xs.length - n) := by
    unfold ixN
    rw [if_neg (by omega), if_pos (by omega)]
    exact congrArg some (by omega)
  unfold atI
  rw [e]
  simp [hl]
theorem d_ixL {α : Type} {r : α → Hp → V → Prop} [∀ x, Mono (r x)] {xs : List α} {x : α} (ha : D X a σ G cs (rdL X.K cs r xs)) (hb : D X b σ G cs (rI i)) (hx : atI xs i = some x) (hs : PlainIx b := by exact fun _ _ => rfl) :
    D X (.Subscript a b pos) σ G cs (r x) :=
  d_by (pe_ix ix_list (sE X a) (sE X b) hs) fun G1 H s d Q q => ha G1 H s d _ fun G2 H2 u s2 d2 hu => hb G2 H2 (s.trans s2) d2 _ fun G3 H3 y s3 d3 hy => by
    obtain ⟨l, vs, e, hl, hr⟩ := (Mono.mono s3 hu).sq d3
    obtain ⟨v, hv, hp⟩ := atI_rs hr hx
    exact ⟨l, vs, i, v, e, hy, hl, hv, q G3 H3 v (s2.trans s3) d3 hp⟩
/-- the n-th place of a tuple -/
def At (R : Hp → List V → Prop) (n : Nat) (P : Hp → V → Prop) : Prop := ∀ G vs, R G vs → ∃ v, vs[n]? = some v ∧ P G v
theorem at_1 {α : Type} {r : α → Hp → V → Prop} {x : α} : At (c0 r x) 0 (r x) := fun G vs ⟨v, e, h⟩ => ⟨v, by rw [e]; rfl, h⟩
theorem at_z {α β : Type} {r : α → Hp → V → Prop} {r' : β → Hp → List V → Prop} {x : α × β} : At (cc r r' x) 0 (r x.1) := fun G vs ⟨v, ws, e, h, _⟩ => ⟨v, by rw [e]; rfl, h⟩
theorem at_s {α β : Type} {r : α → Hp → V → Prop} {r' : β → Hp → List V → Prop} {x : α × β} {n : Nat} (h : At (r' x.2) n P) : At (cc r r' x) (n + 1) P := fun G vs ⟨v, ws, e, _, h'⟩ => by
  obtain ⟨u, h1, h2⟩ := h G ws h'
  exact ⟨u, by rw [e]; exact h1, h2⟩
theorem d_ixT {α : Type} {r : α → Hp → List V → Prop} [∀ x, MonoA (r x)] {x : α} {n : Nat} (ha : D X a σ G cs (rT X.K r x)) (hb : D X b σ G cs (rI (n : Int))) (hat : At (r x) n P) (hs : PlainIx b := by exact fun _ _ => rfl) :
    D X (.Subscript a b pos) σ G cs P :=
  d_by (pe_ix ix_tup (sE X a) (sE X b) hs) fun G1 H s d Q q => ha G1 H s d _ fun G2 H2 u s2 d2 hu => hb G2 H2 (s.trans s2) d2 _ fun G3 H3 y s3 d3 hy => by
    obtain ⟨l, vs, e, hl, hr⟩ := Mono.mono s3 hu
    obtain ⟨v, hv, hp⟩ := hat G3 vs hr
    exact ⟨l, vs, (n : Int), v, e, hy, seqT d3.same hl, atI_nat hv, q G3 H3 v (s2.trans s3) d3 hp⟩
theorem d_lenL {α : Type} {r : α → Hp → V → Prop} {xs : List α} {x : Str} [∀ x, Mono (r x)] (hm : X.mg x = none) (ha : D X a σ G cs (rdL X.K cs r xs)) (hg : Gl X x := by rfl) (hv : bootBuiltins x = some (.builtin "len") := by first | exact PySem.boot_len | decide +kernel) (hn : x ≠ "__name__" := by decide) (hd : (x == ("__debug__" : Str)) = false := by decide)
    (he : starEach [a] X.env = (false, eval a X.env) :: starEach [] X.env := by rfl) (hpl : (backTo pos (starEach [] X.env)).any (·.1) = false := by rfl) : D X (.Call (.Name x p) [a] [] pos) σ G cs (rI (xs.length : Int)) :=
  d_callB call_len hm (a_cons ha a_nil he) (fun G1 H vs s d hvs Q q => by
    obtain ⟨v, ws, e1, h1, h2⟩ := hvs
    cases h2
    obtain ⟨l, us, e, hl, hr⟩ := h1.sq d
    subst e
    exact ⟨_, xs.length, e1, .inl ⟨us, hl, hr.length⟩, q G1 H _ (Same.refl _) d rfl⟩) hg hv hn hd he hpl
theorem d_lenS {l : List Nat} {x : Str} (hm : X.mg x = none) (ha : D X a σ G cs (rS l)) (hl : l.length ≤ sizeLine) (hg : Gl X x := by rfl) (hv : bootBuiltins x = some (.builtin "len") := by first | exact PySem.boot_len | decide +kernel) (hn : x ≠ "__name__" := by decide) (hd : (x == ("__debug__" : Str)) = false := by decide)
    (he : starEach [a] X.env = (false, eval a X.env) :: starEach [] X.env := by rfl) (hpl : (backTo pos (starEach [] X.env)).any (·.1) = false := by rfl) : D X (.Call (.Name x p) [a] [] pos) σ G cs (rI (l.length : Int)) :=
  d_callB call_len hm (a_cons ha a_nil he) (fun G1 H vs s d hvs Q q => by
    obtain ⟨v, ws, e1, h1, h2⟩ := hvs
    cases h2
    cases h1
    exact ⟨_, l.length, e1, ⟨by rw [SX.S_len]; exact hl, (SX.S_len l).symm⟩, q G1 H _ (Same.refl _) d rfl⟩) hg hv hn hd he hpl
theorem d_int1 {x : Str} (hm : X.mg x = none) (ha : D X a σ G cs (rI i)) (hg : Gl X x := by rfl) (hv : bootBuiltins x = some (.type "int") := by decide +kernel) (hn : x ≠ "__name__" := by decide) (hd : (x == ("__debug__" : Str)) = false := by decide)
    (he : starEach [a] X.env = (false, eval a X.env) :: starEach [] X.env := by rfl) (hpl : (backTo pos (starEach [] X.env)).any (·.1) = false := by rfl) : D X (.Call (.Name x p) [a] [] pos) σ G cs (rI i) :=
  d_callTy call_int1 hm (a_cons ha a_nil he) (fun G1 H vs s d hvs Q q => by
    obtain ⟨v, ws, e1, h1, h2⟩ := hvs
    cases h2
    cases h1
    exact .inl ⟨i, e1, q G1 H _ (Same.refl _) d rfl⟩) hg hv hn hd he hpl
theorem d_abs {x : Str} (hm : X.mg x = none) (ha : D X a σ G cs (rI i)) (hg : Gl X x := by rfl) (hv : bootBuiltins x = some (.builtin "abs") := by decide +kernel) (hn : x ≠ "__name__" := by decide) (hd : (x == ("__debug__" : Str)) = false := by decide)
    (he : starEach [a] X.env = (false, eval a X.env) :: starEach [] X.env := by rfl) (hpl : (backTo pos (starEach [] X.env)).any (·.1) = false := by rfl) : D X (.Call (.Name x p) [a] [] pos) σ G cs (rI (if i < 0 then -i else i)) :=
  d_callB call_abs hm (a_cons ha a_nil he) (fun G1 H vs s d hvs Q q => by
    obtain ⟨v, ws, e1, h1, h2⟩ := hvs
    cases h2
    cases h1
    exact ⟨i, e1, q G1 H _ (Same.refl _) d rfl⟩) hg hv hn hd he hpl
theorem d_max2 {x : Str} (hc : X.calm = true) (hm : X.mg x = none) (ha : D X a σ G cs (rI i)) (hb : D X b σ G cs (rI j)) (hg : Gl X x := by rfl) (hv : bootBuiltins x = some (.builtin "max") := by decide +kernel) (hn : x ≠ "__name__" := by decide) (hd : (x == ("__debug__" : Str)) = false := by decide)
    (he : starEach [a, b] X.env = (false, eval a X.env) :: starEach [b] X.env := by rfl) (he2 : starEach [b] X.env = (false, eval b X.env) :: starEach [] X.env := by rfl) (hpl : (backTo pos (starEach [b] X.env)).any (·.1) = false := by rfl) : D X (.Call (.Name x p) [a, b] [] pos) σ G cs (rI (if j > i then j else i)) :=
  d_callB (call_max2 hc) hm (a_cons ha (a_cons hb a_nil he2) he) (fun G1 H vs s d hvs Q q => by
    obtain ⟨v, ws, e1, h1, v2, ws2, e2, h2, h3⟩ := hvs
    cases h3
    cases h1
    cases h2
    subst e2
    exact ⟨i, j, e1, q G1 H _ (Same.refl _) d rfl⟩) hg hv hn hd he hpl
theorem d_min2 {x : Str} (hc : X.calm = true) (hm : X.mg x = none) (ha : D X a σ G cs (rI i)) (hb : D X b σ G cs (rI j)) (hg : Gl X x := by rfl) (hv : bootBuiltins x = some (.builtin "min") := by decide +kernel) (hn : x ≠ "__name__" := by decide) (hd : (x == ("__debug__" : Str)) = false := by decide)
    (he : starEach [a, b] X.env = (false, eval a X.env) :: starEach [b] X.env := by rfl) (he2 : starEach [b] X.env = (false, eval b X.env) :: starEach [] X.env := by rfl) (hpl : (backTo pos (starEach [b] X.env)).any (·.1) = false := by rfl) : D X (.Call (.Name x p) [a, b] [] pos) σ G cs (rI (if j < i then j else i)) :=
  d_callB (call_min2 hc) hm (a_cons ha (a_cons hb a_nil he2) he) (fun G1 H vs s d hvs Q q => by
    obtain ⟨v, ws, e1, h1, v2, ws2, e2, h2, h3⟩ := hvs
    cases h3
    cases h1
    cases h2
    subst e2
    exact ⟨i, j, e1, q G1 H _ (Same.refl _) d rfl⟩) hg hv hn hd he hpl
theorem rs_int {xs : List Int} {vs : List V} (h : Rs rI G xs vs) : vs = xs.map V.int := h.map fun _ _ e => e
theorem rs_bl {xs : List Bool} {vs : List V} (h : Rs rB G xs vs) : vs = xs.map V.bl := h.map fun _ _ e => e
theorem d_sum {xs : List Int} {x : Str} (hc : X.calm = true) (hm : X.mg x = none) (ha : D X a σ G cs (rdL X.K cs rI xs)) (hg : Gl X x := by rfl) (hv : bootBuiltins x = some (.builtin "sum") := by decide +kernel) (hn : x ≠ "__name__" := by decide) (hd : (x == ("__debug__" : Str)) = false := by decide)
    (he : starEach [a] X.env = (false, eval a X.env) :: starEach [] X.env := by rfl) (hpl : (backTo pos (starEach [] X.env)).any (·.1) = false := by rfl) : D X (.Call (.Name x p) [a] [] pos) σ G cs (rI xs.sum) :=
  d_callB (cr_sum hc) hm (a_cons ha a_nil he) (fun G1 H vs s d hvs Q q => by
    obtain ⟨v, ws, e1, h1, h2⟩ := hvs
    cases h2
    obtain ⟨l, us, e, hl, hr⟩ := h1.sq d
    subst e
    have hu := rs_int hr
    subst hu
    exact ⟨l, xs, e1, hl, q G1 H _ (Same.refl _) d rfl⟩) hg hv hn hd he hpl
/-- the greatest, the least of a list -/
def maxL (xs : List Int) : Int := xs.foldl max (xs.headD 0)
def minL (xs : List Int) : Int := xs.foldl min (xs.headD 0)
theorem foldl_max : ∀ (xs : List Int) (z : Int), (xs.foldl max z = z ∨ xs.foldl max z ∈ xs) ∧ z ≤ xs.foldl max z ∧ ∀ y ∈ xs, y ≤ xs.foldl max z
  | [], z => ⟨.inl rfl, Int.le_refl _, fun _ h => nomatch h⟩
  | x :: xs, z => by
    obtain ⟨h1, h2, h3⟩ := foldl_max xs (max z x)
    show ((x :: xs).foldl max z = z ∨ (x :: xs).foldl max z ∈ x :: xs) ∧ z ≤ (x :: xs).foldl max z ∧ ∀ y ∈ x :: xs, y ≤ (x :: xs).foldl max z
    rw [List.foldl_cons]
    refine ⟨?_, by omega, fun y hy => ?_⟩
    · rcases h1 with h1 | h1
      · rw [h1]
        by_cases c : z ≤ x
        · right
          rw [Int.max_eq_right c]
          exact List.mem_cons_self
        · left
          exact Int.max_eq_left (by omega)
      · right
        exact List.mem_cons_of_mem _ h1
    · rcases List.mem_cons.mp hy with e | hy
      · subst e
        omega
      · exact h3 y hy
theorem foldl_min : ∀ (xs : List Int) (z : Int), (xs.foldl min z = z ∨ xs.foldl min z ∈ xs) ∧ xs.foldl min z ≤ z ∧ ∀ y ∈ xs, xs.foldl min z ≤ y
  | [], z => ⟨.inl rfl, Int.le_refl _, fun _ h => nomatch h⟩
  | x :: xs, z => by
    obtain ⟨h1, h2, h3⟩ := foldl_min xs (min z x)
    show ((x :: xs).foldl min z = z ∨ (x :: xs).foldl min z ∈ x :: xs) ∧ (x :: xs).foldl min z ≤ z ∧ ∀ y ∈ x :: xs, (x :: xs).foldl min z ≤ y
    rw [List.foldl_cons]
    refine ⟨?_, by omega, fun y hy => ?_⟩
    · rcases h1 with h1 | h1
      · rw [h1]
        by_cases c : z ≤ x
        · left
          exact Int.min_eq_left c
        · right
          rw [Int.min_eq_right (by omega)]
          exact List.mem_cons_self
      · right
        exact List.mem_cons_of_mem _ h1
    · rcases List.mem_cons.mp hy with e | hy
      · subst e
        omega
      · exact h3 y hy
theorem maxL_is {xs : List Int} (h : 0 < xs.length) : maxL xs ∈ xs ∧ ∀ y ∈ xs, y ≤ maxL xs := by
  cases xs with
  | nil => exact absurd h (Nat.lt_irrefl _)
  | cons x xs =>
    obtain ⟨h1, h2, h3⟩ := foldl_max (x :: xs) x
    refine ⟨?_, h3⟩
    rcases h1 with h1 | h1
    · show (x :: xs).foldl max x ∈ x :: xs
      rw [h1]
      exact List.mem_cons_self
    · exact h1
theorem minL_is {xs : List Int} (h : 0 < xs.length) : minL xs ∈ xs ∧ ∀ y ∈ xs, minL xs ≤ y := by
  cases xs with
  | nil => exact absurd h (Nat.lt_irrefl _)
  | cons x xs =>
    obtain ⟨h1, h2, h3⟩ := foldl_min (x :: xs) x
    refine ⟨?_, h3⟩
    rcases h1 with h1 | h1
    · show (x :: xs).foldl min x ∈ x :: xs
      rw [h1]
      exact List.mem_cons_self
    · exact h1
theorem d_maxL {xs : List Int} {x : Str} (hc : X.calm = true) (hm : X.mg x = none) (ha : D X a σ G cs (rdL X.K cs rI xs)) (h0 : 0 < xs.length) (hg : Gl X x := by rfl) (hv : bootBuiltins x = some (.builtin "max") := by decide +kernel) (hn : x ≠ "__name__" := by decide) (hd : (x == ("__debug__" : Str)) = false := by decide)
    (he : starEach [a] X.env = (false, eval a X.env) :: starEach [] X.env := by rfl) (hpl : (backTo pos (starEach [] X.env)).any (·.1) = false := by rfl) : D X (.Call (.Name x p) [a] [] pos) σ G cs (rI (maxL xs)) :=
  d_callB (cr_max hc) hm (a_cons ha a_nil he) (fun G1 H vs s d hvs Q q => by
    obtain ⟨v, ws, e1, h1, h2⟩ := hvs
    cases h2
    obtain ⟨l, us, e, hl, hr⟩ := h1.sq d
    subst e
    have hu := rs_int hr
    subst hu
    refine ⟨l, xs, e1, hl, h0, fun m hm hle => q G1 H _ (Same.refl _) d ?_⟩
    obtain ⟨k1, k2⟩ := maxL_is h0
    have e3 : m = maxL xs := Int.le_antisymm (k2 m hm) (hle _ k1)
    rw [e3]
    rfl) hg hv hn hd he hpl
theorem d_minL {xs : List Int} {x : Str} (hc : X.calm = true) (hm : X.mg x = none) (ha : D X a σ G cs (rdL X.K cs rI xs)) (h0 : 0 < xs.length) (hg : Gl X x := by rfl) (hv : bootBuiltins x = some (.builtin "min") := by decide +kernel) (hn : x ≠ "__name__" := by decide) (hd : (x == ("__debug__" : Str)) = false := by decide)
    (he : starEach [a] X.env = (false, eval a X.env) :: starEach [] X.env := by rfl) (hpl : (backTo pos (starEach [] X.env)).any (·.1) = false := by rfl) : D X (.Call (.Name x p) [a] [] pos) σ G cs (rI (minL xs)) :=
  d_callB (cr_min hc) hm (a_cons ha a_nil he) (fun G1 H vs s d hvs Q q => by
    obtain ⟨v, ws, e1, h1, h2⟩ := hvs
    cases h2
    obtain ⟨l, us, e, hl, hr⟩ := h1.sq d
    subst e
    have hu := rs_int hr
    subst hu
    refine ⟨l, xs, e1, hl, h0, fun m hm hle => q G1 H _ (Same.refl _) d ?_⟩
    obtain ⟨k1, k2⟩ := minL_is h0
    have e3 : m = minL xs := Int.le_antisymm (hle _ k1) (k2 m hm)
    rw [e3]
    rfl) hg hv hn hd he hpl

/-! ### made: tuples, lists -/
/-- the arguments as a tuple's places; n of them -/
def Tp (n : Nat) (Ps R : Hp → List V → Prop) : Prop := ∀ G vs, Ps G vs → R G vs ∧ vs.length = n
theorem tp_1 {α : Type} {r : α → Hp → V → Prop} {x : α} : Tp 1 (aC (r x) aN) (c0 r x) := fun G vs ⟨v, ws, e, h, h2⟩ => by
  cases h2
  exact ⟨⟨v, e, h⟩, by rw [e]; rfl⟩
theorem tp_c {α β : Type} {r : α → Hp → V → Prop} {r' : β → Hp → List V → Prop} {x : α} {y : β} {n : Nat} {Ps : Hp → List V → Prop} (h : Tp n Ps (r' y)) : Tp (n + 1) (aC (r x) Ps) (cc r r' (x, y)) := fun G vs ⟨v, ws, e, h1, h2⟩ => by
  obtain ⟨k1, k2⟩ := h G ws h2
  exact ⟨⟨v, ws, e, h1, k1⟩, by rw [e, List.length_cons, k2]⟩
theorem sl_small {n : Nat} (h : n ≤ 16777216) : n ≤ sizeLine := by rw [sizeLine_eq]; exact h
theorem d_tup {α : Type} {r : α → Hp → List V → Prop} {x : α} {Ps : Hp → List V → Prop} {n kk : Nat} [∀ x, MonoA (r x)] (h : A X es σ G cs Ps) (ht : Tp n Ps (r x)) (hn : n ≤ 16777216 := by decide) : D X (.Tuple es kk pos) σ G cs (rT X.K r x) :=
  d_by (pe_tup (sA X es)) fun G1 H s d Q q => h G1 H s d _ fun G2 H2 vs s2 d2 hvs => by
    obtain ⟨k1, k2⟩ := ht G2 vs hvs
    refine ⟨by rw [k2]; exact sl_small hn, fun l hl => ?_⟩
    have sf : Same G2 (upd G2 l (.tup vs)) := Same.fresh d2.same hl _
    exact q _ _ _ (s2.trans sf) (d2.new hl _) ⟨l, vs, rfl, SqT.of upd_same, MonoA.mono sf k1⟩
/-- the arguments as a list's items -/
def Ls {α : Type} (r : α → Hp → V → Prop) (Ps : Hp → List V → Prop) (xs : List α) : Prop := ∀ G vs, Ps G vs → Rs r G xs vs
theorem ls_n {α : Type} {r : α → Hp → V → Prop} : Ls r aN [] := fun G vs h => by cases h; exact .nil
theorem ls_c {α : Type} {r : α → Hp → V → Prop} {x : α} {xs : List α} {Ps : Hp → List V → Prop} (h : Ls r Ps xs) : Ls r (aC (r x) Ps) (x :: xs) := fun G vs ⟨v, ws, e, h1, h2⟩ => by
  rw [e]
  exact .cons h1 (h G ws h2)
/-- a new list, not yet frozen -/
def N (X : Cx) (e : Expr) (σ : L2.St) (G : Hp) (cs : Cells) {α : Type} (r : α → Hp → V → Prop) (xs : List α) : Prop :=
  ∀ G1 H, Same G G1 → Desc G1 cs H → ∀ Q : VK, (∀ G2 H2 l vs, Same G1 G2 → Desc G2 ((l, .lst vs) :: cs) H2 → Rs r G2 xs vs → Q (.ref l) H2) → wE X e σ H Q
theorem d_new {α : Type} {r : α → Hp → V → Prop} [∀ x, Mono (r x)] {xs : List α} (h : N X e σ G cs r xs) : D X e σ G cs (rL X.K r xs) := fun G1 H s d Q q =>
  h G1 H s d Q fun G2 H2 l vs s2 d2 hr => by
    obtain ⟨f1, f2⟩ := d2.freeze
    exact q _ _ _ (s2.trans f1) f2 ⟨l, vs, rfl, SqL.of upd_same, hr.mono f1⟩
theorem n_lst {α : Type} {r : α → Hp → V → Prop} {xs : List α} {Ps : Hp → List V → Prop} (h : A X es σ G cs Ps) (hl : Ls r Ps xs) (hn : xs.length ≤ 16777216 := by first | decide | simp | (simp; omega)) : N X (.List es pos) σ G cs r xs := fun G1 H s d Q q =>
  uE (pe_lst (sA X es)) (h G1 H s d _ fun G2 H2 vs s2 d2 hvs => by
    have hr := hl G2 vs hvs
    exact ⟨by rw [← hr.length]; exact sl_small hn, fun l hl => q G2 _ l vs s2 (d2.newCell hl _) hr⟩)
/-- list(xs) of a list -/
theorem n_listL {α : Type} {r : α → Hp → V → Prop} [∀ x, Mono (r x)] {xs : List α} {x : Str} (hm : X.mg x = none) (ha : D X a σ G cs (rdL X.K cs r xs)) (hg : Gl X x := by rfl) (hv : bootBuiltins x = some (.type "list") := by decide +kernel) (hn : x ≠ "__name__" := by decide) (hd : (x == ("__debug__" : Str)) = false := by decide)
    (he : starEach [a] X.env = (false, eval a X.env) :: starEach [] X.env := by rfl) (hpl : (backTo pos (starEach [] X.env)).any (·.1) = false := by rfl) : N X (.Call (.Name x p) [a] [] pos) σ G cs r xs := fun G1 H s d Q q =>
  uE (pe_callTy call_list_of hg hm hv (sA X [a]) (hn := hn) (hdb := hd) (he := he) (hpl := hpl)) (a_cons ha a_nil he G1 H s d _ fun G2 H2 vs s2 d2 hvs => by
    obtain ⟨v, ws, e1, h1, h2⟩ := hvs
    cases h2
    obtain ⟨l, us, e, hl, hr⟩ := h1.sq d2
    subst e
    exact ⟨l, us, e1, .inl hl, fun l' hl' => q G2 _ l' us s2 (d2.newCell hl' _) hr⟩)
end

section
variable {ε S L R : Type} {X : Cx} {W : ε → L2.St → Hp → Prop} {σ : L2.St} {G : Hp} {cs : Cells} {Φ : Po ε S L R} {m : Out ε S L R} {st : Stmt} {rest body : List Stmt} {e o : Expr} {P : Hp → V → Prop} {pos p : Pos}
/-- name = a new list that will change -/
theorem b_setN {α : Type} {r : α → Hp → V → Prop} {xs : List α} (i : Nat) {x : Str} (hN : X.N.Nodup) (he : N X e σ G cs r xs) (k : ∀ l vs G1, Same G G1 → Rs r G1 xs vs → B X W rest (σ.set i (some (.ref l))) G1 ((l, .lst vs) :: cs) Φ m) (hi : X.N[i]? = some x := by rfl) (hx : Loc X.env.scope x := by first | exact Or.inl rfl | exact Or.inr rfl)
    (hs : swapsWith e (some (.Name x p)) pos.line X.env = pure false := by rfl) (hf : X.fn x = true ∨ X.env.scope.names.lookup x = some .local := by first | exact .inl rfl | exact .inr rfl) : B X W (.Assign [.Name x p] e pos :: rest) σ G cs Φ m :=
  b_cons (ps_set hN hi hx (sE X e) hs hf) fun H d E w => he G H (Same.refl _) d _ fun G2 H2 l vs s2 d2 hr => k l vs G2 s2 hr H2 d2 E (w.up s2)
/-- xs.append(e), xs the cell at k -/
theorem b_app (k : Nat) {l : Addr} {vs : List V} {apos cpos : Pos} (hk : cs[k]? = some (l, .lst vs)) (ho : D X o σ G cs (rV (.ref l))) (he : D X e σ G cs P) (hz : vs.length < sizeLine)
    (q : ∀ v G1, Same G G1 → P G1 v → B X W rest σ G1 (cs.set k (l, .lst (vs ++ [v]))) Φ m) (hs : swapsWith (.Call (.Attribute o "append" apos) [e] [] cpos) none pos.line X.env = pure false := by rfl)
    (hbase : attributeBase o "append" X.env (eval o X.env) = eval o X.env := by rfl)
    (hfew : ((backTo cpos (starEach [e] X.env)).all (fun x => !x.1) && (backToKw cpos (keywordEach [] X.env)).all (fun x => x.1.isSome) && decide ([e].length + ([] : List Keyword).length + (if ([] : List Keyword).isEmpty then 0 else 1) < 30)) = true := by rfl)
    (hline : (apos.endLine == cpos.line) = true := by rfl) (hst : starEach [e] X.env = (false, eval e X.env) :: starEach [] X.env := by rfl) (hplain : (backTo cpos (starEach [] X.env)).any (·.1) = false := by rfl) :
    B X W (.Expr (.Call (.Attribute o "append" apos) [e] [] cpos) pos :: rest) σ G cs Φ m :=
  b_cons (ps_expr (pe_bm PySem.F.plainAttrs_list PySem.F.slot_list_append PySem.F.type_list_append mt_append (sE X o) (pa_cons (sE X e) pa_nil hst) hbase hfew hline hst hplain) hs) fun H d E w =>
    ho G H (Same.refl _) d _ fun G2 H2 u s2 d2 hu => by
      have eu : u = .ref l := hu
      subst eu
      refine ⟨.inl ⟨rfl, vs, SqL.of (d2.at_ (List.mem_of_getElem? hk))⟩, he G2 H2 s2 d2 _ fun G3 H3 v s3 d3 hv => ?_⟩
      exact ⟨l, vs, v, rfl, rfl, d3.at_ (List.mem_of_getElem? hk), hz, q v G3 (s2.trans s3) hv _ (d3.write hk _) E (w.up (s2.trans s3))⟩
theorem perm_at {cs : Cells} {k : Nat} {c : Addr × HO} (h : cs[k]? = some c) : cs.Perm (c :: cs.eraseIdx k) := by
  induction cs generalizing k with
  | nil => cases k <;> cases h
  | cons x cs ih =>
    cases k with
    | zero =>
      have e : x = c := Option.some.inj h
      subst e
      exact List.Perm.refl _
    | succ k => exact ((ih (k := k) h).cons x).trans (List.Perm.swap ..)
/-- the cell at k changes no more -/
theorem b_freeze (k : Nat) {l : Addr} {u : HO} (hk : cs[k]? = some (l, u)) (h : Same G (upd G l u) → (upd G l u) l = some u → B X W rest σ (upd G l u) (cs.eraseIdx k) Φ m) : B X W rest σ G cs Φ m := fun H d E w => by
  obtain ⟨f1, f2⟩ := (d.perm (perm_at hk)).freeze
  exact h f1 upd_same H f2 E (w.up f1)
end
end J

namespace J
open PySem L2 PyProof.Rows

/-! ### what is walked -/
/-- lo, lo + 1, .. below hi -/
def rng (lo hi : Int) : List Int := (List.range (hi - lo).toNat).map fun k : Nat => lo + (k : Int)
theorem rng_length (lo hi : Int) : (rng lo hi).length = (hi - lo).toNat := by simp [rng]
theorem rng_get {lo hi : Int} {i : Nat} (h : i < (hi - lo).toNat) : (rng lo hi)[i]? = some (lo + (i : Int)) := by simp [rng, h]
theorem rng_mem {lo hi x : Int} : x ∈ rng lo hi ↔ lo ≤ x ∧ x < hi := by
  unfold rng
  rw [List.mem_map]
  constructor
  · rintro ⟨k, hk, rfl⟩
    have := List.mem_range.mp hk
    omega
  · rintro ⟨h1, h2⟩
    exact ⟨(x - lo).toNat, List.mem_range.mpr (by omega), by omega⟩
/-- the items with their places -/
def enumL {α : Type} (xs : List α) : List (Int × α) := xs.zipIdx.map fun p => ((p.2 : Int), p.1)
theorem enumL_length {α : Type} (xs : List α) : (enumL xs).length = xs.length := by simp [enumL]
theorem enumL_get {α : Type} {xs : List α} {i : Nat} {x : α} (h : xs[i]? = some x) : (enumL xs)[i]? = some ((i : Int), x) := by simp [enumL, h]
theorem enumL_getE {α : Type} {xs : List α} {i : Nat} {p : Int × α} (h : (enumL xs)[i]? = some p) : p.1 = (i : Int) ∧ xs[i]? = some p.2 := by
  have hl : i < (enumL xs).length := (List.getElem?_eq_some_iff.mp h).1
  rw [enumL_length] at hl
  have e := enumL_get (xs := xs) (i := i) (x := xs[i]) (by simp [hl])
  rw [h] at e
  cases e
  exact ⟨rfl, by simp [hl]⟩
def rU (K : PySem.W.Frag) {α : Type} (r : α → Hp → V → Prop) (xs : List α) : Hp → V → Prop := fun G v => ∃ a vs, v = .ref a ∧ SqT K G a vs ∧ Rs r G xs vs
instance (K : PySem.W.Frag) {α : Type} (r : α → Hp → V → Prop) [m : ∀ x, Mono (r x)] (xs : List α) : Mono (rU K r xs) :=
  ⟨fun e ⟨a, vs, h1, h2, h3⟩ => ⟨a, vs, h1, seqT e h2, h3.mono e⟩⟩
section
variable {X : Cx} {σ : L2.St} {G : Hp} {cs : Cells} {e a b tg iter : Expr} {es : List Expr} {pos p : Pos} {α : Type} {r : α → Hp → V → Prop} {xs : List α}
theorem wd_list {l : Addr} {vs : List V} {C : Cells → Prop} [m : ∀ x, Mono (r x)] (hr : Rs r G xs vs) (hC : ∀ G1 H cs, Same G G1 → C cs → Desc G1 cs H → SqL X.K H l vs) : WalkD (Itl X.K l) xs G C r :=
  ⟨fun i G1 H cs hi s c d => walk_list.goes i H (by rw [← hr.length]; exact hi) (hC G1 H cs s c d), fun G1 H cs s c d => by
    have q := walk_list.stops H (hC G1 H cs s c d)
    rw [← hr.length] at q
    exact q, fun i x G1 H cs v H' hx s c d y => by
    have hi : i < xs.length := (List.getElem?_eq_some_iff.mp hx).1
    obtain ⟨e, hv⟩ := walk_list.yields i H v H' (by rw [← hr.length]; exact hi) (hC G1 H cs s c d) y
    obtain ⟨x', h1, h2⟩ := hr.getV hv
    rw [hx] at h1
    cases h1
    subst e
    exact ⟨G1, Same.refl _, d, (m x).mono s h2⟩⟩
theorem i_listF [∀ x, Mono (r x)] (h : D X iter σ G cs (rL X.K r xs)) : I X tg iter σ G cs (fun _ => True) xs r :=
  ⟨_, pi_list (sE X iter), fun G1 H s d Rr k => h G1 H s d _ fun G2 H2 v s2 d2 hv => by
    obtain ⟨l, vs, e, hl, hr⟩ := hv
    exact ⟨l, e, ⟨vs, d2.same.seq hl⟩, k _ G2 H2 s2 d2 (wd_list hr fun G3 H3 cs3 s3 _ d3 => d3.same.seq (s3.seq hl))⟩⟩
theorem i_listC {l : Addr} {vs : List V} [∀ x, Mono (r x)] (h : D X iter σ G cs (rV (.ref l))) (hm : (l, .lst vs) ∈ cs) (hr : Rs r G xs vs) : I X tg iter σ G cs (fun cs' => (l, .lst vs) ∈ cs') xs r :=
  ⟨_, pi_list (sE X iter), fun G1 H s d Rr k => h G1 H s d _ fun G2 H2 v s2 d2 hv =>
    ⟨l, hv, ⟨vs, SqL.of (d2.at_ hm)⟩, k _ G2 H2 s2 d2 (wd_list (hr.mono (s.trans s2)) fun G3 H3 cs3 s3 c3 d3 => SqL.of (d3.at_ c3))⟩⟩
theorem i_tupU [m : ∀ x, Mono (r x)] (h : D X iter σ G cs (rU X.K r xs)) : I X tg iter σ G cs (fun _ => True) xs r :=
  ⟨_, pi_tup (sE X iter), fun G1 H s d Rr k => h G1 H s d _ fun G2 H2 v s2 d2 hv => by
    obtain ⟨l, vs, e, hl, hr⟩ := hv
    refine ⟨l, e, ⟨vs, seqT d2.same hl⟩, k _ G2 H2 s2 d2 ⟨fun i G3 H3 cs3 hi s3 _ d3 => walk_tup.goes i H3 (by rw [← hr.length]; exact hi) (seqT d3.same (seqT s3 hl)), fun G3 H3 cs3 s3 _ d3 => ?_, fun i x G3 H3 cs3 v H' hx s3 _ d3 y => ?_⟩⟩
    · have q := walk_tup.stops H3 (seqT d3.same (seqT s3 hl))
      rw [← hr.length] at q
      exact q
    · have hi : i < xs.length := (List.getElem?_eq_some_iff.mp hx).1
      obtain ⟨e, hv⟩ := walk_tup.yields i H3 v H' (by rw [← hr.length]; exact hi) (seqT d3.same (seqT s3 hl)) y
      obtain ⟨x', h1, h2⟩ := hr.getV hv
      rw [hx] at h1
      cases h1
      subst e
      exact ⟨G3, Same.refl _, d3, (m x).mono s3 h2⟩⟩
theorem wd_rng {lo hi : Int} {C : Cells → Prop} : WalkD (Itr lo (hi - lo).toNat) (rng lo hi) G C rI :=
  ⟨fun i G1 H cs h s c d => by
    rw [rng_length] at h
    exact h, fun G1 H cs s c d => by
    show (hi - lo).toNat ≤ (rng lo hi).length
    rw [rng_length]
    exact Nat.le_refl _, fun i x G1 H cs v H' hx s c d y => by
    have h : i < (rng lo hi).length := (List.getElem?_eq_some_iff.mp hx).1
    rw [rng_length] at h
    rw [rng_get h] at hx
    cases hx
    obtain ⟨e1, e2⟩ := y
    subst e1
    exact ⟨G1, Same.refl _, d, e2⟩⟩
theorem i_rng1 {j : Int} (hm : X.mg "range" = none) (ha : D X a σ G cs (rI j)) (h1 : -(2 ^ 62) ≤ j) (h2 : j < 2 ^ 62) (hg : Gl X "range" := by rfl) (hs : starEach [a] X.env = [(false, eval a X.env)] := by rfl) (hst : starEach [a] X.env = (false, eval a X.env) :: starEach [] X.env := by rfl) :
    I X tg (.Call (.Name "range" p) [a] [] pos) σ G cs (fun _ => True) (rng 0 j) rI :=
  ⟨_, pi_range1 hg hm (sA X [a]) hs, fun G1 H s d Rr k => a_cons ha a_nil hst G1 H s d _ fun G2 H2 vs s2 d2 hvs => by
    obtain ⟨v, ws, e1, k1, k2⟩ := hvs
    cases k2
    cases k1
    refine ⟨j, e1, h1, h2, k _ G2 H2 s2 d2 ?_⟩
    have q := wd_rng (G := G2) (lo := 0) (hi := j) (C := fun _ => True)
    rw [Int.sub_zero] at q
    exact q⟩
theorem i_rng2 {i j : Int} (hm : X.mg "range" = none) (ha : D X a σ G cs (rI i)) (hb : D X b σ G cs (rI j)) (h : -(2 ^ 62) ≤ i ∧ i < 2 ^ 62 ∧ -(2 ^ 62) ≤ j ∧ j < 2 ^ 62) (hg : Gl X "range" := by rfl) (hs : starEach [a, b] X.env = [(false, eval a X.env), (false, eval b X.env)] := by rfl) (hs2 : starEach [b] X.env = [(false, eval b X.env)] := by rfl)
    (hst : starEach [a, b] X.env = (false, eval a X.env) :: starEach [b] X.env := by rfl) (hst2 : starEach [b] X.env = (false, eval b X.env) :: starEach [] X.env := by rfl) : I X tg (.Call (.Name "range" p) [a, b] [] pos) σ G cs (fun _ => True) (rng i j) rI :=
  ⟨_, pi_range2 hg hm (sA X [a, b]) hs hs2, fun G1 H s d Rr k => a_cons ha (a_cons hb a_nil hst2) hst G1 H s d _ fun G2 H2 vs s2 d2 hvs => by
    obtain ⟨v, ws, e1, k1, v2, ws2, e2, k2, k3⟩ := hvs
    cases k3
    cases k1
    cases k2
    subst e2
    exact ⟨i, j, e1, h, k _ G2 H2 s2 d2 wd_rng⟩⟩
def rC (c : Nat) : Hp → V → Prop := rS [c]
instance (c : Nat) : Mono (rC c) := ⟨fun _ h => h⟩
theorem i_str {l : List Nat} (h : D X iter σ G cs (rS l)) : I X tg iter σ G cs (fun _ => True) l rC :=
  ⟨_, pi_str (sE X iter), fun G1 H s d Rr k => h G1 H s d _ fun G2 H2 v s2 d2 hv => by
    refine ⟨SX.S l, hv, k _ G2 H2 s2 d2 ⟨fun i G3 H3 cs3 hi s3 _ d3 => ?_, fun G3 H3 cs3 s3 _ d3 => ?_, fun i x G3 H3 cs3 v H' hx s3 _ d3 y => ?_⟩⟩
    · show i < (SX.S l).cps.size
      simpa using hi
    · show (SX.S l).cps.size ≤ l.length
      simp
    · obtain ⟨e, c, h1, h2⟩ := y
      subst e
      have h3 : l[i]? = some c := by simpa using h1
      rw [hx] at h3
      cases h3
      exact ⟨G3, Same.refl _, d3, h2⟩⟩
theorem wd_enum {l : Addr} {vs : List V} {C : Cells → Prop} [m : ∀ x, Mono (r x)] (hr : Rs r G xs vs) (hC : ∀ G1 H cs, Same G G1 → C cs → Desc G1 cs H → SqL X.K H l vs) : WalkD (Ite X.K l) (enumL xs) G C (rT X.K (cc rI (c0 r))) :=
  ⟨fun i G1 H cs hi s c d => walk_enum.goes i H (by rw [enumL_length] at hi; rw [← hr.length]; exact hi) (hC G1 H cs s c d), fun G1 H cs s c d => by
    have q := walk_enum.stops H (hC G1 H cs s c d)
    rw [← hr.length] at q
    rw [enumL_length]
    exact q, fun i x G1 H cs v H' hx s c d y => by
    obtain ⟨e1, e2⟩ := enumL_getE hx
    have hi : i < xs.length := (List.getElem?_eq_some_iff.mp e2).1
    obtain ⟨t, u, w, h1, h2, h3, h4, h5⟩ := walk_enum.yields i H v H' (by rw [← hr.length]; exact hi) (hC G1 H cs s c d) y
    obtain ⟨x', k1, k2⟩ := hr.getV h5
    rw [e2] at k1
    cases k1
    cases h4
    subst h3
    have sf : Same G1 (upd G1 t (.tup [.int (i : Nat), w])) := Same.fresh d.same h2 _
    refine ⟨_, sf, d.new h2 _, t, [.int (i : Nat), w], h1, SqT.of upd_same, .int (i : Nat), [w], rfl, ?_, w, rfl, (m x.2).mono (s.trans sf) k2⟩
    show V.int _ = V.int _
    rw [e1]⟩
theorem i_enumF {elts : List Expr} {kk : Nat} {tpos : Pos} [∀ x, Mono (r x)] (hm : X.mg "enumerate" = none) (h : D X a σ G cs (rL X.K r xs)) (hg : Gl X "enumerate" := by rfl) (hs : starEach [a] X.env = [(false, eval a X.env)] := by rfl) (hst : starEach [a] X.env = (false, eval a X.env) :: starEach [] X.env := by rfl) :
    I X (.Tuple elts kk tpos) (.Call (.Name "enumerate" p) [a] [] pos) σ G cs (fun _ => True) (enumL xs) (rT X.K (cc rI (c0 r))) :=
  ⟨_, pi_enum hg hm (sA X [a]) hs, fun G1 H s d Rr k => a_cons h a_nil hst G1 H s d _ fun G2 H2 vs s2 d2 hvs => by
    obtain ⟨v, ws, e1, k1, k2⟩ := hvs
    cases k2
    obtain ⟨l, us, e, hl, hr⟩ := k1
    subst e
    exact ⟨l, us, e1, d2.same.seq hl, k _ G2 H2 s2 d2 (wd_enum hr fun G3 H3 cs3 s3 _ d3 => d3.same.seq (s3.seq hl))⟩⟩

/-! ### targets -/
def sxN (i : Nat) {α : Type} (r : α → Hp → V → Prop) : α → Hp → L2.St → L2.St → Prop := fun x G σ σ' => ∃ v, r x G v ∧ σ' = σ.set i (some v)
theorem tg_name (i : Nat) {x : Str} (hN : X.N.Nodup) (hi : X.N[i]? = some x := by rfl) (hx : Loc X.env.scope x := by first | exact Or.inl rfl | exact Or.inr rfl) (hf : X.fn x = true ∨ X.env.scope.names.lookup x = some .local := by first | exact .inl rfl | exact .inr rfl) : Tg X (.Name x pos) r (sxN i r) :=
  ⟨_, pg_name hN hi hx hf, fun x v G cs H σ h d Q q => q _ ⟨v, h, rfl⟩⟩
def Tgs {α : Type} (X : Cx) (ts : List Expr) (R : α → Hp → List V → Prop) (n : Nat) (Sx : α → Hp → L2.St → L2.St → Prop) : Prop :=
  ∃ g, PGs X ts g ∧ ∀ x vs G cs H σ, R x G vs → Desc G cs H → vs.length = n ∧ ∀ Q : L2.St → Hp → Prop, (∀ σ', Sx x G σ σ' → Q σ' H) → g vs σ H Q
theorem tgs_1 {S1 : α → Hp → L2.St → L2.St → Prop} (h : Tg X e r S1) (hs : (assignEach [e] X.env).map (·.2) = assign e X.env :: (assignEach [] X.env).map (·.2) := by rfl) : Tgs X [e] (c0 r) 1 S1 := by
  obtain ⟨g, h1, h2⟩ := h
  refine ⟨_, pgs_cons (hs := hs) h1 pgs_nil, fun x vs G cs H σ hr d => ?_⟩
  obtain ⟨v, rfl, hv⟩ := hr
  exact ⟨rfl, fun Q q => ⟨v, [], rfl, h2 x v G cs H σ hv d _ fun σ' hs => ⟨rfl, q σ' hs⟩⟩⟩
theorem tgs_c {β : Type} {r' : β → Hp → List V → Prop} {n : Nat} {S1 : α → Hp → L2.St → L2.St → Prop} {S2 : β → Hp → L2.St → L2.St → Prop} (h : Tg X e r S1) (h' : Tgs X es r' n S2) (hs : (assignEach (e :: es) X.env).map (·.2) = assign e X.env :: (assignEach es X.env).map (·.2) := by rfl) :
    Tgs X (e :: es) (cc r r') (n + 1) (fun x G σ σ' => ∃ σ1, S1 x.1 G σ σ1 ∧ S2 x.2 G σ1 σ') := by
  obtain ⟨g, h1, h2⟩ := h
  obtain ⟨g', h3, h4⟩ := h'
  refine ⟨_, pgs_cons (hs := hs) h1 h3, fun x vs G cs H σ hr d => ?_⟩
  obtain ⟨v, ws, rfl, hv, hw⟩ := hr
  refine ⟨by rw [List.length_cons, (h4 x.2 ws G cs H σ hw d).1], fun Q q => ⟨v, ws, rfl, h2 x.1 v G cs H σ hv d _ fun σ1 hs => (h4 x.2 ws G cs H σ1 hw d).2 Q fun σ' hs' => q σ' ⟨σ1, hs, hs'⟩⟩⟩
theorem tg_tup {R : α → Hp → List V → Prop} {n kk : Nat} {Sx : α → Hp → L2.St → L2.St → Prop} (hc : X.calm = true) (h : Tgs X es R n Sx) (hn : (assignEach es X.env).length = n := by rfl) (hst : (assignEach es X.env).findIdx? (·.1) = none := by rfl) : Tg X (.Tuple es kk pos) (rT X.K R) Sx := by
  obtain ⟨g, h1, h2⟩ := h
  refine ⟨_, pg_tup hc h1 hn hst, fun x v G cs H σ hr d Q q => ?_⟩
  obtain ⟨l, vs, e, hl, hR⟩ := hr
  obtain ⟨k1, k2⟩ := h2 x vs G cs H σ hR d
  exact ⟨l, vs, e, seqT d.same hl, k1, k2 Q q⟩
end
section
variable {ε S L R : Type} {X : Cx} {W : ε → L2.St → Hp → Prop} {σ : L2.St} {G : Hp} {cs : Cells} {Φ : Po ε S L R} {m : Out ε S L R} {st : Stmt} {rest body : List Stmt} {e o tg : Expr} {P : Hp → V → Prop} {pos p : Pos}
/-- a target of any form = e -/
theorem b_asg {α : Type} {r : α → Hp → V → Prop} {x : α} {Sx : α → Hp → L2.St → L2.St → Prop} (he : D X e σ G cs (r x)) (ht : Tg X tg r Sx) (k : ∀ σ' G1, Same G G1 → Sx x G1 σ σ' → B X W rest σ' G1 cs Φ m)
    (hs : swapsWithSole [tg] e pos.line X.env = pure false := by rfl) (hw : swappedStores [tg] e X.env = pure none := by rfl) (h1 : (assignEach [tg] X.env).map (·.2) = [assign tg X.env] := by rfl) : B X W (.Assign [tg] e pos :: rest) σ G cs Φ m := by
  obtain ⟨g, hg, h2⟩ := ht
  exact b_cons (ps_asg (sE X e) hg hs hw (h1 := h1)) fun H d E w => he G H (Same.refl _) d _ fun G2 H2 v s2 d2 hv => h2 x v G2 cs H2 σ hv d2 _ fun σ' hS => k σ' G2 s2 hS H2 d2 E (w.up s2)
theorem b_augAdd (i : Nat) {x : Str} {p' : Pos} {z y : Int} (hN : X.N.Nodup) (hz : σ[i]? = some (some (.int z))) (he : D X e σ G cs (rI y)) (k : ∀ G1, Same G G1 → B X W rest (σ.set i (some (.int (z + y)))) G1 cs Φ m) (hi : X.N[i]? = some x := by rfl) (hx : Loc X.env.scope x := by first | exact Or.inl rfl | exact Or.inr rfl)
    (hf : X.fn x = true ∨ X.env.scope.names.lookup x = some .local := by first | exact .inl rfl | exact .inr rfl) : B X W (.AugAssign (.Name x p') .Add e pos :: rest) σ G cs Φ m :=
  b_cons (ps_aug hN hi hx (sE X e) ip_add hf) fun H d E w => ⟨_, hz, he G H (Same.refl _) d _ fun G2 H2 v s2 d2 hv => ⟨z, y, rfl, hv, k G2 s2 H2 d2 E (w.up s2)⟩⟩
theorem b_augSub (i : Nat) {x : Str} {p' : Pos} {z y : Int} (hN : X.N.Nodup) (hz : σ[i]? = some (some (.int z))) (he : D X e σ G cs (rI y)) (k : ∀ G1, Same G G1 → B X W rest (σ.set i (some (.int (z - y)))) G1 cs Φ m) (hi : X.N[i]? = some x := by rfl) (hx : Loc X.env.scope x := by first | exact Or.inl rfl | exact Or.inr rfl)
    (hf : X.fn x = true ∨ X.env.scope.names.lookup x = some .local := by first | exact .inl rfl | exact .inr rfl) : B X W (.AugAssign (.Name x p') .Sub e pos :: rest) σ G cs Φ m :=
  b_cons (ps_aug hN hi hx (sE X e) ip_sub hf) fun H d E w => ⟨_, hz, he G H (Same.refl _) d _ fun G2 H2 v s2 d2 hv => ⟨z, y, rfl, hv, k G2 s2 H2 d2 E (w.up s2)⟩⟩
end

/-! ### sorted -/
def srt (xs : List Int) : List Int := xs.mergeSort fun a b => decide (a ≤ b)
def srtR (xs : List Int) : List Int := xs.mergeSort fun a b => decide (b ≤ a)
theorem perm_eq {le : Int → Int → Prop} (anti : ∀ a b, le a b → le b a → a = b) : ∀ {xs ys : List Int}, xs.Perm ys → xs.Pairwise le → ys.Pairwise le → xs = ys
  | [], ys, p, _, _ => (List.nil_perm.mp p).symm
  | x :: xs, [], p, _, _ => absurd (List.perm_nil.mp p) (by simp)
  | x :: xs, y :: ys, p, h1, h2 => by
    have hx : x ∈ y :: ys := p.mem_iff.mp List.mem_cons_self
    have hy : y ∈ x :: xs := p.mem_iff.mpr List.mem_cons_self
    have e : x = y := by
      rcases List.mem_cons.mp hx with e | hx
      · exact e
      · rcases List.mem_cons.mp hy with e | hy
        · exact e.symm
        · exact anti _ _ ((List.pairwise_cons.mp h1).1 y hy) ((List.pairwise_cons.mp h2).1 x hx)
    subst e
    rw [perm_eq anti (List.perm_cons x |>.mp p) (List.pairwise_cons.mp h1).2 (List.pairwise_cons.mp h2).2]
theorem srt_is {xs ys : List Int} (p : ys.Perm xs) (h : ys.Pairwise (· ≤ ·)) : ys = srt xs := by
  refine perm_eq (le := fun a b => a ≤ b) (fun a b => Int.le_antisymm) (p.trans (List.mergeSort_perm xs _).symm) h ?_
  have q := List.pairwise_mergeSort (le := fun a b : Int => decide (a ≤ b)) (fun a b c h1 h2 => by simp at *; omega) (fun a b => by simp; omega) xs
  exact q.imp fun h => of_decide_eq_true h
theorem srtR_is {xs ys : List Int} (p : ys.Perm xs) (h : ys.Pairwise (· ≥ ·)) : ys = srtR xs := by
  refine perm_eq (le := fun a b => b ≤ a) (fun a b h1 h2 => Int.le_antisymm h2 h1) (p.trans (List.mergeSort_perm xs _).symm) h ?_
  have q := List.pairwise_mergeSort (le := fun a b : Int => decide (b ≤ a)) (fun a b c h1 h2 => by simp at *; omega) (fun a b => by simp; omega) xs
  exact q.imp fun h => of_decide_eq_true h
section
variable {X : Cx} {σ : L2.St} {G : Hp} {cs : Cells} {a : Expr} {pos p : Pos} {xs : List Int}
theorem n_sorted (hm : X.mg "sorted" = none) (ha : D X a σ G cs (rdL X.K cs rI xs)) (hg : Gl X "sorted" := by rfl) (hv : bootBuiltins "sorted" = some (.builtin "sorted") := by decide +kernel)
    (he : starEach [a] X.env = (false, eval a X.env) :: starEach [] X.env := by rfl) (hpl : (backTo pos (starEach [] X.env)).any (·.1) = false := by rfl) : N X (.Call (.Name "sorted" p) [a] [] pos) σ G cs rI (srt xs) := fun G1 H s d Q q =>
  uE (pe_callB cr_sortedI hg hm hv (sA X [a]) (he := he) (hpl := hpl)) (a_cons ha a_nil he G1 H s d _ fun G2 H2 vs s2 d2 hvs => by
    obtain ⟨v, ws, e1, h1, h2⟩ := hvs
    cases h2
    obtain ⟨l, us, e, hl, hr⟩ := h1.sq d2
    subst e
    have hu := rs_int hr
    subst hu
    refine ⟨l, xs, e1, hl, fun ys l' hp hs hl' => q G2 _ l' _ s2 (d2.newCell hl' _) ?_⟩
    rw [srt_is hp hs]
    exact Rs.of_map (fun _ => rfl) _)
theorem n_sortedR {kn : Option Str} {jj : Nat} {p2 p3 : Pos} (hk : PK X [⟨kn, .Constant (.bool true) jj p2, p3⟩] (fun _ H Q => Q [.bl true] H)) (hm : X.mg "sorted" = none) (ha : D X a σ G cs (rdL X.K cs rI xs)) (hg : Gl X "sorted" := by rfl) (hv : bootBuiltins "sorted" = some (.builtin "sorted") := by decide +kernel)
    (he : backTo pos (starEach [a] X.env) = (false, eval a X.env) :: backTo pos (starEach [] X.env) := by rfl) (hst : starEach [a] X.env = (false, eval a X.env) :: starEach [] X.env := by rfl) (hpl : (backTo pos (starEach [a] X.env)).any (·.1) = false := by rfl)
    (hall : (backToKw pos (keywordEach [⟨kn, .Constant (.bool true) jj p2, p3⟩] X.env)).all (·.1.isSome) = true := by rfl) (hnone : (backToKw pos (keywordEach [⟨kn, .Constant (.bool true) jj p2, p3⟩] X.env)).any (·.1.isNone) = false := by rfl)
    (hks : (backToKw pos (keywordEach [⟨kn, .Constant (.bool true) jj p2, p3⟩] X.env)).filterMap (·.1) = [Str.ofString "reverse"] := by rfl) :
    N X (.Call (.Name "sorted" p) [a] [⟨kn, .Constant (.bool true) jj p2, p3⟩] pos) σ G cs rI (srtR xs) := fun G1 H s d Q q =>
  uE (pe_callBK (ks := [Str.ofString "reverse"]) (cr_sortedRev (b := true)) hg hm hv (sA X [a]) hk (he := he) (hpl := hpl) (hall := hall) (hnone := hnone) (hks := hks)) (a_cons ha a_nil hst G1 H s d _ fun G2 H2 vs s2 d2 hvs => by
    obtain ⟨v, ws, e1, h1, h2⟩ := hvs
    cases h2
    obtain ⟨l, us, e, hl, hr⟩ := h1.sq d2
    subst e
    have hu := rs_int hr
    subst hu
    refine ⟨l, xs, e1, rfl, hl, fun ys l' hp hs hl' => q G2 _ l' _ s2 (d2.newCell hl' _) ?_⟩
    have hs' : ys.Pairwise (· ≥ ·) := hs
    rw [srtR_is hp hs']
    exact Rs.of_map (fun _ => rfl) _)
end

/-! ### comprehensions -/
def Xb (X : Cx) (scope : Scope) (s : Shared) (H : Hp) (C : Addr) (cl : List (Str × Addr)) (fp : List Addr) : Cx := X.blk s H scope (compEnvC scope cl C X.env) fp
section
variable {X : Cx} {σ : L2.St} {G : Hp} {cs : Cells} {elt tg iter : Expr} {ifs : List Expr} {pos : Pos} {scope : Scope} {own : List (Str × Nat)} {α β : Type} {xs : List α} {Pi : α → Hp → V → Prop} {r : β → Hp → V → Prop} {f : α → β} {q : α → Bool}
/-- a target within a comprehension's block -/
def TgB (X : Cx) (scope : Scope) (tg : Expr) (P : α → Hp → V → Prop) (Sx : α → Hp → L2.St → L2.St → Prop) : Prop :=
  ∃ g, (∀ s H C cl fp, PG (X.blk s H scope (compEnvC scope cl C X.env) fp) tg g) ∧ ∀ x v G cs H σ, P x G v → Desc G cs H → ∀ Q : L2.St → Hp → Prop, (∀ σ', Sx x G σ σ' → Q σ' H) → g v σ H Q
theorem tgb_name (i : Nat) {x : Str} (hN : X.N.Nodup) (hi : X.N[i]? = some x := by rfl) (hx : scope.names.lookup x = some .local := by rfl) : TgB X scope (.Name x pos) Pi (sxN i Pi) :=
  ⟨_, fun s H C cl fp => by
    have k : (X.blk s H scope (compEnvC scope cl C X.env) fp).env.scope.names.lookup x = some .local := by
      first
      | exact lookup_relabel_local hx
      | (show (relabel scope X.env).names.lookup x = some .local
         unfold relabel
         exact lookup_relabel_local hx)
    exact pg_name (X := X.blk s H scope (compEnvC scope cl C X.env) fp) hN hi (.inl k) (.inr k), fun x v G cs H σ h d Q q => q _ ⟨v, h, rfl⟩⟩
/-- [elt for tg in iter if ..]: f of the items that q lets through -/
theorem lc_go {wi : TI} {g : TG} {tt : TT} {te : TE} {Sx : α → Hp → L2.St → L2.St → Prop} {C : Cells → Prop} {vs : List Nat} {H : Hp}
    (hw : ∀ Rr : It → Hp → Prop, (∀ J G2 H2, Same G G2 → Desc G2 cs H2 → WalkD J xs G2 C Pi → Rr J H2) → wi σ H Rr) (hg : ∀ x v G cs H σ, Pi x G v → Desc G cs H → ∀ Q : L2.St → Hp → Prop, (∀ σ', Sx x G σ σ' → Q σ' H) → g v σ H Q)
    (hC : ∀ l us, C ((l, .lst us) :: cs)) (hwipe : ∀ x G1 σ', Sx x G1 (wipe σ vs) σ' → wipe σ' vs = wipe σ vs) [∀ y, Mono (r y)]
    (ht : ∀ x, x ∈ xs → ∀ G1 cs1 σ', Same G G1 → (∃ c, cs1 = c :: cs) → Sx x G1 (wipe σ vs) σ' → ∀ G2 H2, Same G1 G2 → Desc G2 cs1 H2 → ∀ Q : Bool → Hp → Prop, (∀ G3 H3, Same G2 G3 → Desc G3 cs1 H3 → Q (q x) H3) → tt σ' H2 Q)
    (he : ∀ x, x ∈ xs → q x = true → ∀ G1 cs1 σ', Same G G1 → (∃ c, cs1 = c :: cs) → Sx x G1 (wipe σ vs) σ' → ∀ G2 H2, Same G1 G2 → Desc G2 cs1 H2 → ∀ Q : VK, (∀ G3 H3 v, Same G2 G3 → Desc G3 cs1 H3 → r (f x) G3 v → Q v H3) → te σ' H2 Q)
    (hsz : xs.length ≤ 16777215) {Q : VK} (hQ : ∀ G2 H2 l us, Same G G2 → Desc G2 ((l, .lst us) :: cs) H2 → Rs r G2 ((xs.filter q).map f) us → Q (.ref l) H2) : tLc wi g tt te vs σ H Q := by
  refine hw _ fun J G2 H2 s2 d2 wk => fun l hl => ?_
  have hlen : ∀ i, ((xs.take i).filter q).length ≤ i := fun i => Nat.le_trans (List.length_filter_le _ _) (by rw [List.length_take]; omega)
  let Pv : Nat → Hp → Prop := fun i H1 => ∃ G1 us, i ≤ xs.length ∧ Same G2 G1 ∧ Desc G1 ((l, .lst us) :: cs) H1 ∧ Rs r G1 (((xs.take i).filter q).map f) us
  refine ⟨fun i n H1 => n = xs.length - i ∧ Pv i H1, ⟨xs.length, rfl, G2, [], Nat.zero_le _, Same.refl _, d2.newCell hl _, .nil⟩, ?_⟩
  rintro i n H1 ⟨rfl, G1, us, hi, s1, d1, hr⟩
  by_cases hlt : i < xs.length
  · refine .inr ⟨wk.goes i G1 H1 _ hlt s1 (hC _ _) d1, Pv (i + 1), fun H' p' => ⟨_, by omega, rfl, p'⟩, fun v H3 y => ?_⟩
    have hx : xs[i]? = some xs[i] := by simp [hlt]
    have hm : xs[i] ∈ xs := List.getElem_mem hlt
    obtain ⟨G3, s3, d3, pv⟩ := wk.yields i xs[i] G1 H1 _ v H3 hx s1 (hC _ _) d1 y
    have et : xs.take (i + 1) = xs.take i ++ [xs[i]] := by simp
    refine hg xs[i] v G3 _ H3 _ pv d3 _ fun σ' hS => ⟨hwipe _ _ _ hS, ?_⟩
    refine ht xs[i] hm G3 _ σ' ((s2.trans s1).trans s3) ⟨_, rfl⟩ hS G3 H3 (Same.refl _) d3 _ fun G4 H4 s4 d4 => ?_
    cases hq : q xs[i] with
    | true =>
      refine iteT (he xs[i] hm hq G3 _ σ' ((s2.trans s1).trans s3) ⟨_, rfl⟩ hS G4 H4 s4 d4 _ fun G5 H5 w s5 d5 hw => ⟨us, d5.at_ List.mem_cons_self, ?_, G5, us ++ [w], hlt, ((s1.trans s3).trans s4).trans s5, d5.write (k := 0) rfl _, ?_⟩)
      · rw [← hr.length, List.length_map]
        have := hlen i
        rw [sizeLine_eq]
        omega
      · rw [et, List.filter_append, List.map_append, List.filter_cons_of_pos hq]
        exact Rs.snoc hw (hr.mono ((s3.trans s4).trans s5))
    | false =>
      refine iteF ⟨G4, us, hlt, (s1.trans s3).trans s4, d4, ?_⟩
      rw [et, List.filter_append, List.filter_cons_of_neg (by rw [hq]; decide), List.filter_nil, List.append_nil]
      exact hr.mono (s3.trans s4)
  · have e : i = xs.length := by omega
    subst e
    rw [List.take_length] at hr
    exact .inl ⟨wk.stops G1 H1 _ s1 (hC _ _) d1, hQ G1 H1 l us (s2.trans s1) d1 hr⟩
def teB (X : Cx) (scope : Scope) (e : Expr) : TE := fun σ H Q => ∀ s H0 C cl fp, wE (X.blk s H0 scope (compEnvC scope cl C X.env) fp) e σ H Q
def ttB (X : Cx) (scope : Scope) (e : Expr) : TT := fun σ H Q => ∀ s H0 C cl fp, wT (X.blk s H0 scope (compEnvC scope cl C X.env) fp) e σ H Q
/-- without a test -/
theorem n_lc {Sx : α → Hp → L2.St → L2.St → Prop} {C : Cells → Prop} (hcalm : X.calm = true) (hN : X.N.Nodup) (ok : BlkOk X.N X.env.scope scope own) (hi : I X tg iter σ G cs C xs Pi) (ht : TgB X scope tg Pi Sx)
    (hC : ∀ l us, C ((l, .lst us) :: cs)) (hwipe : ∀ x G1 σ', Sx x G1 (wipe σ (own.map (·.2))) σ' → wipe σ' (own.map (·.2)) = wipe σ (own.map (·.2))) [∀ y, Mono (r y)]
    (he : ∀ x, x ∈ xs → ∀ G1 cs1 σ', Same G G1 → (∃ c, cs1 = c :: cs) → Sx x G1 (wipe σ (own.map (·.2))) σ' → ∀ s H0 C cl fp, D (X.blk s H0 scope (compEnvC scope cl C X.env) fp) elt σ' G1 cs1 (r (f x)))
    (hsz : xs.length ≤ 16777215) (hs : ∀ x, foldedSetIterable iter X.env x = pure x := by intro _; rfl) : N X (.ListComp elt [⟨tg, iter, [], 0⟩] scope pos) σ G cs r (xs.map f) := by
  obtain ⟨wi, hpi, hw⟩ := hi
  obtain ⟨g, hpg, hgt⟩ := ht
  intro G1 H s d Q q
  refine uE (pe_lc (te := teB X scope elt) hcalm hN hpi ok hpg (fun _ _ _ _ _ => pts_nil) (fun s H0 C cl fp => ⟨fun pins s1 σ H Q I h => (h s H0 C cl fp).run pins s1 I⟩) hs) ?_
  refine lc_go (Sx := Sx) (C := C) (r := r) (f := f) (q := fun _ => true) (hw G1 H s d) hgt hC hwipe (fun x hx G2 cs1 σ' s2 hc hS G3 H3 s3 d3 Q q => q G3 H3 (Same.refl _) d3)
    (fun x hx _ G2 cs1 σ' s2 hc hS G3 H3 s3 d3 Q q s4 H4 C4 cl4 fp4 => he x hx G2 cs1 σ' (s.trans s2) hc hS s4 H4 C4 cl4 fp4 G3 H3 s3 d3 Q q) hsz fun G2 H2 l us s2 d2 hr => q G2 H2 l us s2 d2 ?_
  have e : xs.filter (fun _ => true) = xs := by simp
  rw [e] at hr
  exact hr
/-- with one test -/
theorem n_lcIf {cnd : Expr} {Sx : α → Hp → L2.St → L2.St → Prop} {C : Cells → Prop} (hcalm : X.calm = true) (hN : X.N.Nodup) (ok : BlkOk X.N X.env.scope scope own) (hi : I X tg iter σ G cs C xs Pi) (ht : TgB X scope tg Pi Sx)
    (hC : ∀ l us, C ((l, .lst us) :: cs)) (hwipe : ∀ x G1 σ', Sx x G1 (wipe σ (own.map (·.2))) σ' → wipe σ' (own.map (·.2)) = wipe σ (own.map (·.2))) [∀ y, Mono (r y)]
    (hq : ∀ x, x ∈ xs → ∀ G1 cs1 σ', Same G G1 → (∃ c, cs1 = c :: cs) → Sx x G1 (wipe σ (own.map (·.2))) σ' → ∀ s H0 C cl fp, T (X.blk s H0 scope (compEnvC scope cl C X.env) fp) cnd σ' G1 cs1 (q x))
    (he : ∀ x, x ∈ xs → q x = true → ∀ G1 cs1 σ', Same G G1 → (∃ c, cs1 = c :: cs) → Sx x G1 (wipe σ (own.map (·.2))) σ' → ∀ s H0 C cl fp, D (X.blk s H0 scope (compEnvC scope cl C X.env) fp) elt σ' G1 cs1 (r (f x)))
    (hsz : xs.length ≤ 16777215) (hs : ∀ x, foldedSetIterable iter X.env x = pure x := by intro _; rfl) : N X (.ListComp elt [⟨tg, iter, [cnd], 0⟩] scope pos) σ G cs r ((xs.filter q).map f) := by
  obtain ⟨wi, hpi, hw⟩ := hi
  obtain ⟨g, hpg, hgt⟩ := ht
  intro G1 H s d Q k
  refine uE (pe_lc (te := teB X scope elt) (tt := ttB X scope cnd) hcalm hN hpi ok hpg (fun s H0 C cl fp => pts_one ⟨fun pins s1 σ H Q I h => (h s H0 C cl fp).run pins s1 I⟩) (fun s H0 C cl fp => ⟨fun pins s1 σ H Q I h => (h s H0 C cl fp).run pins s1 I⟩) hs) ?_
  exact lc_go (Sx := Sx) (C := C) (r := r) (f := f) (q := q) (hw G1 H s d) hgt hC hwipe (fun x hx G2 cs1 σ' s2 hc hS G3 H3 s3 d3 Q q s4 H4 C4 cl4 fp4 => hq x hx G2 cs1 σ' (s.trans s2) hc hS s4 H4 C4 cl4 fp4 G3 H3 s3 d3 Q q)
    (fun x hx hx2 G2 cs1 σ' s2 hc hS G3 H3 s3 d3 Q q s4 H4 C4 cl4 fp4 => he x hx hx2 G2 cs1 σ' (s.trans s2) hc hS s4 H4 C4 cl4 fp4 G3 H3 s3 d3 Q q) hsz fun G2 H2 l us s2 d2 hr => k G2 H2 l us s2 d2 hr
end
section
variable {ε S L R : Type} {X : Cx} {W : ε → L2.St → Hp → Prop} {σ : L2.St} {G : Hp} {cs : Cells} {Φ : Po ε S L R} {m : Out ε S L R} {rest : List Stmt} {elt tg iter : Expr} {pos spos : Pos} {scope : Scope} {own : List (Str × Nat)} {α β : Type} {xs : List α} {Pi : α → Hp → V → Prop} {r : β → Hp → V → Prop} {f : α → β} {q : α → Bool}
/-- y = [..], a statement of its own -/
theorem b_setLc (i : Nat) {y : Str} {py : Pos} {Sx : α → Hp → L2.St → L2.St → Prop} {C : Cells → Prop} (hcalm : X.calm = true) (hN : X.N.Nodup) (hyl : X.env.scope.names.lookup y = some .local) (hsw : swapsWith (.ListComp elt [⟨tg, iter, [], 0⟩] scope pos) (some (.Name y py)) spos.line X.env = pure true)
    (ok : BlkOk X.N X.env.scope scope own) (hi : I X tg iter σ G cs C xs Pi) (ht : TgB X scope tg Pi Sx)
    (hC : ∀ l us, C ((l, .lst us) :: cs)) (hwipe : ∀ x G1 σ', Sx x G1 (wipe σ (own.map (·.2))) σ' → wipe σ' (own.map (·.2)) = wipe σ (own.map (·.2))) [∀ y, Mono (r y)]
    (he : ∀ x, x ∈ xs → ∀ G1 cs1 σ', Same G G1 → (∃ c, cs1 = c :: cs) → Sx x G1 (wipe σ (own.map (·.2))) σ' → ∀ s H0 C cl fp, D (X.blk s H0 scope (compEnvC scope cl C X.env) fp) elt σ' G1 cs1 (r (f x)))
    (hsz : xs.length ≤ 16777215) (k : ∀ l vs G1, Same G G1 → Rs r G1 (xs.map f) vs → B X W rest (σ.set i (some (.ref l))) G1 ((l, .lst vs) :: cs) Φ m) (hy : X.N[i]? = some y := by rfl) (hs : ∀ x, foldedSetIterable iter X.env x = pure x := by intro _; rfl) :
    B X W (.Assign [.Name y py] (.ListComp elt [⟨tg, iter, [], 0⟩] scope pos) spos :: rest) σ G cs Φ m := by
  obtain ⟨wi, hpi, hw⟩ := hi
  obtain ⟨g, hpg, hgt⟩ := ht
  refine b_cons (ps_setLc (te := teB X scope elt) hcalm hN hy hyl hsw hpi ok hpg (fun _ _ _ _ _ => pts_nil) (fun s H0 C cl fp => ⟨fun pins s1 σ H Q I h => (h s H0 C cl fp).run pins s1 I⟩) hs) fun H d E w => ?_
  refine lc_go (Sx := Sx) (C := C) (r := r) (f := f) (q := fun _ => true) (hw G H (Same.refl _) d) hgt hC hwipe (fun x hx G2 cs1 σ' s2 hc hS G3 H3 s3 d3 Q q => q G3 H3 (Same.refl _) d3)
    (fun x hx _ G2 cs1 σ' s2 hc hS G3 H3 s3 d3 Q q s4 H4 C4 cl4 fp4 => he x hx G2 cs1 σ' s2 hc hS s4 H4 C4 cl4 fp4 G3 H3 s3 d3 Q q) hsz fun G2 H2 l us s2 d2 hr => k l us G2 s2 ?_ H2 d2 E (w.up s2)
  have e : xs.filter (fun _ => true) = xs := by simp
  rw [e] at hr
  exact hr
theorem b_setLcIf (i : Nat) {y : Str} {py : Pos} {cnd : Expr} {Sx : α → Hp → L2.St → L2.St → Prop} {C : Cells → Prop} (hcalm : X.calm = true) (hN : X.N.Nodup) (hyl : X.env.scope.names.lookup y = some .local) (hsw : swapsWith (.ListComp elt [⟨tg, iter, [cnd], 0⟩] scope pos) (some (.Name y py)) spos.line X.env = pure true)
    (ok : BlkOk X.N X.env.scope scope own) (hi : I X tg iter σ G cs C xs Pi) (ht : TgB X scope tg Pi Sx)
    (hC : ∀ l us, C ((l, .lst us) :: cs)) (hwipe : ∀ x G1 σ', Sx x G1 (wipe σ (own.map (·.2))) σ' → wipe σ' (own.map (·.2)) = wipe σ (own.map (·.2))) [∀ y, Mono (r y)]
    (hq : ∀ x, x ∈ xs → ∀ G1 cs1 σ', Same G G1 → (∃ c, cs1 = c :: cs) → Sx x G1 (wipe σ (own.map (·.2))) σ' → ∀ s H0 C cl fp, T (X.blk s H0 scope (compEnvC scope cl C X.env) fp) cnd σ' G1 cs1 (q x))
    (he : ∀ x, x ∈ xs → q x = true → ∀ G1 cs1 σ', Same G G1 → (∃ c, cs1 = c :: cs) → Sx x G1 (wipe σ (own.map (·.2))) σ' → ∀ s H0 C cl fp, D (X.blk s H0 scope (compEnvC scope cl C X.env) fp) elt σ' G1 cs1 (r (f x)))
    (hsz : xs.length ≤ 16777215) (k : ∀ l vs G1, Same G G1 → Rs r G1 ((xs.filter q).map f) vs → B X W rest (σ.set i (some (.ref l))) G1 ((l, .lst vs) :: cs) Φ m) (hy : X.N[i]? = some y := by rfl) (hs : ∀ x, foldedSetIterable iter X.env x = pure x := by intro _; rfl) :
    B X W (.Assign [.Name y py] (.ListComp elt [⟨tg, iter, [cnd], 0⟩] scope pos) spos :: rest) σ G cs Φ m := by
  obtain ⟨wi, hpi, hw⟩ := hi
  obtain ⟨g, hpg, hgt⟩ := ht
  refine b_cons (ps_setLc (te := teB X scope elt) (tt := ttB X scope cnd) hcalm hN hy hyl hsw hpi ok hpg (fun s H0 C cl fp => pts_one ⟨fun pins s1 σ H Q I h => (h s H0 C cl fp).run pins s1 I⟩) (fun s H0 C cl fp => ⟨fun pins s1 σ H Q I h => (h s H0 C cl fp).run pins s1 I⟩) hs) fun H d E w => ?_
  exact lc_go (Sx := Sx) (C := C) (r := r) (f := f) (q := q) (hw G H (Same.refl _) d) hgt hC hwipe (fun x hx G2 cs1 σ' s2 hc hS G3 H3 s3 d3 Q q s4 H4 C4 cl4 fp4 => hq x hx G2 cs1 σ' s2 hc hS s4 H4 C4 cl4 fp4 G3 H3 s3 d3 Q q)
    (fun x hx hx2 G2 cs1 σ' s2 hc hS G3 H3 s3 d3 Q q s4 H4 C4 cl4 fp4 => he x hx hx2 G2 cs1 σ' s2 hc hS s4 H4 C4 cl4 fp4 G3 H3 s3 d3 Q q) hsz fun G2 H2 l us s2 d2 hr => k l us G2 s2 hr H2 d2 E (w.up s2)
end

/-! ### defs -/
theorem Desc.drop {G H : Hp} {loc cs : Cells} (d : Desc G (loc ++ cs) H) : Desc G cs H := by
  induction loc with
  | nil => exact d
  | cons c loc ih => exact ih d.forget
/-- the promise of a def that raises nothing: i what it is given, pre how it lies, m what it gives, r how that lies -/
def SpP {I O : Type} (pre : I → Hp → List V → Prop) (r : I → O → Hp → V → Prop) (m : I → O) : Sp := fun vs H Q _ => ∃ (i : I) (G : Hp) (cs : Cells), Desc G cs H ∧ pre i G vs ∧ ∀ v G2 H2, Same G G2 → Desc G2 cs H2 → r i (m i) G2 v → Q v H2
/-- .. of one that may raise -/
def SpE {ε I O : Type} (cE : ε → Value) (pre : I → Hp → List V → Prop) (r : I → O → Hp → V → Prop) (m : I → Except ε O) : Sp := fun vs H Q E => ∃ (i : I) (G : Hp) (cs : Cells), Desc G cs H ∧ pre i G vs ∧
  (match m i with
    | .ok o => ∀ v G2 H2, Same G G2 → Desc G2 cs H2 → r i o G2 v → Q v H2
    | .error k => ∀ G2 H2, Same G G2 → Desc G2 cs H2 → E (cE k) none H2)
structure Fn0 (P : Program) (w : World) (K : PySem.W.Frag) (mg : Str → Option Value) (base : Heap) (CX : CXT) (k : Nat) (x : Str) (n : Nat) (sp : Sp) : Prop where
  ex : ∃ (f : Addr) (fd : FuncData) (ps : List Str), FnOk P w K mg base CX k f fd ps sp ∧ mg x = some (.ref f) ∧ PySem.W.keepIn K (.ref f) = true ∧ Binds K fd ps [] ∧ ps.length = n
/-- what is wanted at a def's end -/
def PoF {ε O : Type} [Inhabited O] (cs : Cells) (r : O → Hp → V → Prop) : Po ε Unit Empty O :=
  { nx := fun _ _ G2 cs2 => (∃ loc, cs2 = loc ++ cs) ∧ r default G2 .non, lp := fun l => l.elim, rt := fun o G2 cs2 v => (∃ loc, cs2 = loc ++ cs) ∧ r o G2 v, er := fun _ _ _ cs2 => ∃ loc, cs2 = loc ++ cs }
section
variable {P : Program} {w : World} {K : PySem.W.Frag} {mg : Str → Option Value} {base : Heap}
theorem fn_ok {I O : Type} [Inhabited O] {x : Str} {st : Stmt} {f : Addr} {fd : FuncData} {N ps : List Str} {k : Nat} {pre : I → Hp → List V → Prop} {r : I → O → Hp → V → Prop} (F : Fun K x x st f fd) (S : FnScope N ps (defScope st))
    (body : I → Out Empty Unit Empty O) (len : ∀ i G vs, pre i G vs → vs.length = ps.length)
    (h : ∀ (cdv : Value) (A : Around) (outer : List Env) (s : Shared) (H : Hp) (E : XK) (i : I) (G : Hp) (cs : Cells) (vs : List V), Room k (A.deeper (envOfC x (defScope st) s.heap.objs.size f cdv)) → pre i G vs →
      B (cxOf CX0 P w K mg base N x (defScope st) f cdv A outer s H E).nox (fun e _ _ => e.elim) (defBody st) (start N vs) G cs (PoF cs (r i)) (body i)) :
    FnOk P w K mg base CX0 (k + 1) f fd ps (SpP pre r fun i => (body i).val) := by
  refine F.ok S (fun vs H Q E hs => ?_) (fun cdv A outer s H vs Q E hr hs => ?_)
  · obtain ⟨i, G, cs, _, hp, _⟩ := hs
    exact len i G vs hp
  · obtain ⟨i, G, cs, d, hp, q⟩ := hs
    refine ⟨_, sSs _ (defBody st), h cdv A outer s H E i G cs vs hr hp H d _ ?_⟩
    cases hb : body i with
    | nx u =>
      rintro σ2 G2 cs2 H2 s2 d2 ⟨⟨loc, rfl⟩, hr2⟩
      refine q _ G2 H2 s2 d2.drop ?_
      dsimp only
      rw [hb]
      exact hr2
    | bk l => exact l.elim
    | ct l => exact l.elim
    | rt o =>
      rintro v G2 cs2 H2 s2 d2 ⟨⟨loc, rfl⟩, hr2⟩
      refine q _ G2 H2 s2 d2.drop ?_
      dsimp only
      rw [hb]
      exact hr2
    | er e => exact e.elim
theorem fn_mk {I O : Type} [Inhabited O] {x : Str} {st : Stmt} {f : Addr} {fd : FuncData} {N ps : List Str} {k : Nat} {pre : I → Hp → List V → Prop} {r : I → O → Hp → V → Prop} (F : Fun K x x st f fd) (S : FnScope N ps (defScope st)) (b : Binds K fd ps []) (hmg : mg x = some (.ref f))
    (body : I → Out Empty Unit Empty O) (len : ∀ i G vs, pre i G vs → vs.length = ps.length)
    (h : ∀ (cdv : Value) (A : Around) (outer : List Env) (s : Shared) (H : Hp) (E : XK) (i : I) (G : Hp) (cs : Cells) (vs : List V), Room k (A.deeper (envOfC x (defScope st) s.heap.objs.size f cdv)) → pre i G vs →
      B (cxOf CX0 P w K mg base N x (defScope st) f cdv A outer s H E).nox (fun e _ _ => e.elim) (defBody st) (start N vs) G cs (PoF cs (r i)) (body i)) :
    Fn0 P w K mg base CX0 (k + 1) x ps.length (SpP pre r fun i => (body i).val) :=
  ⟨f, fd, ps, fn_ok F S body len h, hmg, F.kp, b, rfl⟩
theorem fn_okE {ε I O : Type} [Inhabited O] {cE : ε → Value} {x : Str} {st : Stmt} {f : Addr} {fd : FuncData} {N ps : List Str} {k : Nat} {pre : I → Hp → List V → Prop} {r : I → O → Hp → V → Prop} (F : Fun K x x st f fd) (S : FnScope N ps (defScope st))
    (body : I → Out ε Unit Empty O) (len : ∀ i G vs, pre i G vs → vs.length = ps.length)
    (h : ∀ (cdv : Value) (A : Around) (outer : List Env) (s : Shared) (H : Hp) (E : XK) (i : I) (G : Hp) (cs : Cells) (vs : List V), Room k (A.deeper (envOfC x (defScope st) s.heap.objs.size f cdv)) → pre i G vs →
      B (cxOf (L2.CX P w) P w K mg base N x (defScope st) f cdv A outer s H E) (fun e _ H => E (cE e) none H) (defBody st) (start N vs) G cs (PoF cs (r i)) (body i)) :
    FnOk P w K mg base (L2.CX P w) (k + 1) f fd ps (SpE cE pre r fun i => (body i).res) := by
  refine F.okX S (fun vs H Q E hs => ?_) (fun cdv A outer s H vs Q E hr hs => ?_)
  · obtain ⟨i, G, cs, _, hp, _⟩ := hs
    exact len i G vs hp
  · obtain ⟨i, G, cs, d, hp, q⟩ := hs
    refine ⟨_, sSs _ (defBody st), h cdv A outer s H E i G cs vs hr hp H d _ ?_⟩
    cases hb : body i with
    | nx u =>
      dsimp only at q
      rw [hb] at q
      rintro σ2 G2 cs2 H2 s2 d2 ⟨⟨loc, rfl⟩, hr2⟩
      exact q _ G2 H2 s2 d2.drop hr2
    | bk l => exact l.elim
    | ct l => exact l.elim
    | rt o =>
      dsimp only at q
      rw [hb] at q
      rintro v G2 cs2 H2 s2 d2 ⟨⟨loc, rfl⟩, hr2⟩
      exact q _ G2 H2 s2 d2.drop hr2
    | er e =>
      dsimp only at q
      rw [hb] at q
      rintro σ2 G2 cs2 H2 s2 d2 ⟨loc, rfl⟩
      exact q G2 H2 s2 d2.drop
theorem fn_mkE {ε I O : Type} [Inhabited O] {cE : ε → Value} {x : Str} {st : Stmt} {f : Addr} {fd : FuncData} {N ps : List Str} {k : Nat} {pre : I → Hp → List V → Prop} {r : I → O → Hp → V → Prop} (F : Fun K x x st f fd) (S : FnScope N ps (defScope st)) (b : Binds K fd ps []) (hmg : mg x = some (.ref f))
    (body : I → Out ε Unit Empty O) (len : ∀ i G vs, pre i G vs → vs.length = ps.length)
    (h : ∀ (cdv : Value) (A : Around) (outer : List Env) (s : Shared) (H : Hp) (E : XK) (i : I) (G : Hp) (cs : Cells) (vs : List V), Room k (A.deeper (envOfC x (defScope st) s.heap.objs.size f cdv)) → pre i G vs →
      B (cxOf (L2.CX P w) P w K mg base N x (defScope st) f cdv A outer s H E) (fun e _ H => E (cE e) none H) (defBody st) (start N vs) G cs (PoF cs (r i)) (body i)) :
    Fn0 P w K mg base (L2.CX P w) (k + 1) x ps.length (SpE cE pre r fun i => (body i).res) :=
  ⟨f, fd, ps, fn_okE F S body len h, hmg, F.kp, b, rfl⟩
end
section
variable {X : Cx} {σ : L2.St} {G : Hp} {cs : Cells} {e : Expr} {es : List Expr} {pos p : Pos}
/-- a call of a def that raises nothing -/
theorem d_call {I O : Type} {pre : I → Hp → List V → Prop} {r : I → O → Hp → V → Prop} {m : I → O} {k j n : Nat} {x : Str} {Ps : Hp → List V → Prop} (i : I) (F : Fn0 X.prog X.w X.K X.mg X.base CX0 k x n (SpP pre r m)) (hr : Room j X.A) (hk : k ≤ j)
    (ha : A X (e :: es) σ G cs Ps) (hp : ∀ G1 vs, Same G G1 → Ps G1 vs → pre i G1 vs) (hg : Gl X x := by rfl) (hd : (x == ("__debug__" : Str)) = false := by decide)
    (he : starEach (e :: es) X.env = (false, eval e X.env) :: starEach es X.env := by exact star_plain rfl) (hpl : (backTo pos (starEach es X.env)).any (·.1) = false := by rfl) : D X (.Call (.Name x p) (e :: es) [] pos) σ G cs (r i (m i)) := by
  obtain ⟨f, fd, ps, F, hm, kp, b, _⟩ := F.ex
  refine d_by (pe_call F (hr.mono hk) hg hm kp b .nil pass0 (sA X _) (hdb := hd) (he := he) (hpl := hpl)) fun G1 H s d Q q => ha G1 H s d _ fun G2 H2 vs s2 d2 hvs => ?_
  refine ⟨i, G2, cs, d2, ?_, fun v G3 H3 s3 d3 hv => q G3 H3 v (s2.trans s3) d3 hv⟩
  rw [List.append_nil]
  exact hp G2 vs (s.trans s2) hvs
theorem d_callQ {I O : Type} {pre : I → Hp → List V → Prop} {r : I → O → Hp → V → Prop} {m : I → O} {k j n : Nat} {x : Str} {Ps : Hp → List V → Prop} {P : Hp → V → Prop} (i : I) (F : Fn0 X.prog X.w X.K X.mg X.base CX0 k x n (SpP pre r m)) (hr : Room j X.A) (hk : k ≤ j)
    (ha : A X (e :: es) σ G cs Ps) (hp : ∀ G1 vs, Same G G1 → Ps G1 vs → pre i G1 vs) (hP : ∀ G v, r i (m i) G v → P G v) (hg : Gl X x := by rfl) (hd : (x == ("__debug__" : Str)) = false := by decide)
    (he : starEach (e :: es) X.env = (false, eval e X.env) :: starEach es X.env := by exact star_plain rfl) (hpl : (backTo pos (starEach es X.env)).any (·.1) = false := by rfl) : D X (.Call (.Name x p) (e :: es) [] pos) σ G cs P :=
  (d_call i F hr hk ha hp hg hd he hpl).imp hP
end
end J

namespace J
open PySem L2 PyProof.Rows
section
variable {X : Cx}
/-- two readable lists end to end -/
def rCatW (K : PySem.W.Frag) : R2 := fun x y H Q => ∃ l b xs zs, x = .ref l ∧ y = .ref b ∧ SqL K H l xs ∧ SqL K H b zs ∧ xs.length + zs.length ≤ sizeLine ∧ ∀ p, H p = none → Q (.ref p) (upd H p (.lst (xs ++ zs)))
theorem op_catW : OpR X (binaryOp .Add) (rCatW X.K) := by
  intro pins s σ H x y v u Q I rx ry h
  obtain ⟨l, b, xs, zs, rfl, rfl, hH, hB, hz, q⟩ := h
  cases rx
  cases ry
  obtain ⟨its, r, p1, _⟩ := I.list hH
  obtain ⟨its2, r2, p2, _⟩ := I.list hB
  have e1 := r.length
  have e2 := r2.length
  obtain ⟨⟨c1, d1, da1, sl1⟩, n1, g1, h1, _, k1⟩ := p1
  obtain ⟨⟨c2, d2, da2, sl2⟩, n2, g2, h2, _, k2⟩ := p2
  dsimp only at h1 k1 h2 k2
  subst h1 k1 h2 k2
  have hsz : its.toArray.size + its2.toArray.size ≤ sizeLine := by
    rw [List.size_toArray, List.size_toArray]
    omega
  have ea : its.toArray ++ its2.toArray = (its ++ its2).toArray := by simp
  refine concat_meets ⟨_, g1, rfl⟩ ⟨_, g2, rfl⟩ noFill_list_add seq_list_add PySem.F.slot_list_add PySem.F.entry_list_add (PySem.F.args_list_add_2 _ _)
    (list_addW l b its.toArray its2.toArray n1 n2 d1 d2 sl1 sl2 hsz) ⟨g1, g2, ?_⟩
  rw [ea]
  refine ⟨.ref s.heap.objs.size, _, I.lnew (t' := s.toks) (r.append r2) ?_, rfl, q _ I.fresh⟩
  rw [List.length_append]
  exact hz
end
section
variable {X : Cx} {σ : L2.St} {G : Hp} {cs : Cells} {a b : Expr} {pos : Pos} {α : Type} {r : α → Hp → V → Prop} {xs ys : List α}
theorem n_cat [∀ x, Mono (r x)] (ha : D X a σ G cs (rdL X.K cs r xs)) (hb : D X b σ G cs (rdL X.K cs r ys)) (hl : xs.length + ys.length ≤ sizeLine) : N X (.BinOp a .Add b pos) σ G cs r (xs ++ ys) := fun G1 H s d Q q =>
  uE (pe_op op_catW (sE X a) (sE X b)) (ha G1 H s d _ fun G2 H2 x s2 d2 hx => hb G2 H2 (s.trans s2) d2 _ fun G3 H3 y s3 d3 hy => by
    obtain ⟨l, vs, e, h1, h2⟩ := (Mono.mono s3 hx).sq d3
    obtain ⟨l', vs', e', h1', h2'⟩ := hy.sq d3
    exact ⟨l, l', vs, vs', e, e', h1, h1', by rw [← h2.length, ← h2'.length]; exact hl, fun p hp => q G3 _ p _ (s2.trans s3) (d3.newCell hp _) (Rs.append h2' h2)⟩)
end

/-! ### == of data -/
class EqR {α : Type} (K : PySem.W.Frag) (r : α → Hp → V → Prop) where
  toD : α → PyData
  ok : α → Prop
  dep : Nat
  dp : ∀ {x G H v}, r x G v → Same G H → Dp K H v (toD x)
  lay : ∀ {x}, ok x → (toD x).canLay0 = true
  deep : ∀ x, (toD x).depth ≤ dep
  eqv : ∀ x y, PyData.eqv (toD x) (toD y) = true ↔ x = y
instance (K : PySem.W.Frag) : EqR K rI where
  toD := .int
  ok _ := True
  dep := 1
  dp h _ := by cases h; exact .int _
  lay _ := rfl
  deep x := by unfold PyData.depth; omega
  eqv x y := by
    unfold PyData.eqv
    exact beq_iff_eq
instance (K : PySem.W.Frag) : EqR K rB where
  toD := .bool
  ok _ := True
  dep := 1
  dp h _ := by cases h; exact .bl _
  lay _ := rfl
  deep x := by unfold PyData.depth; omega
  eqv x y := by
    unfold PyData.eqv
    exact beq_iff_eq
instance (K : PySem.W.Frag) : EqR K rS where
  toD l := .str (SX.S l)
  ok l := ∀ c ∈ l, c < 1114112
  dep := 1
  dp h _ := by cases h; exact .str _
  lay {x} h := by
    unfold PyData.canLay0 PySem.PyData.strOk
    show (SX.S x).cps.all _ = true
    rw [← Array.all_toList]
    exact List.all_eq_true.mpr fun c hc => decide_eq_true (h c hc)
  deep x := by unfold PyData.depth; omega
  eqv x y := by
    unfold PyData.eqv
    rw [SX.S_beq]
    exact beq_iff_eq
theorem dpAll {K : PySem.W.Frag} {α : Type} {r : α → Hp → V → Prop} [q : EqR K r] {G H : Hp} (s : Same G H) : ∀ {xs : List α} {vs : List V}, Rs r G xs vs → DpAll K H vs (xs.map q.toD)
  | _, _, .nil => .nil
  | _, _, .cons h t => .cons (q.dp h s) (dpAll s t)
theorem layAll {K : PySem.W.Frag} {α : Type} {r : α → Hp → V → Prop} [q : EqR K r] : ∀ {xs : List α}, (∀ x ∈ xs, q.ok x) → PyData.canLayAll0 (xs.map q.toD) = true
  | [], _ => by rw [List.map_nil]; unfold PyData.canLayAll0; rfl
  | x :: xs, h => by
    rw [List.map_cons]
    unfold PyData.canLayAll0
    rw [Bool.and_eq_true]
    exact ⟨q.lay (h x List.mem_cons_self), layAll fun y hy => h y (List.mem_cons_of_mem _ hy)⟩
theorem deepAll {K : PySem.W.Frag} {α : Type} {r : α → Hp → V → Prop} [q : EqR K r] : ∀ (xs : List α), PyData.depthAll (xs.map q.toD) ≤ q.dep
  | [] => by rw [List.map_nil]; unfold PyData.depthAll; omega
  | x :: xs => by
    rw [List.map_cons]
    unfold PyData.depthAll
    exact Nat.max_le.mpr ⟨q.deep x, deepAll xs⟩
theorem eqvAll {K : PySem.W.Frag} {α : Type} {r : α → Hp → V → Prop} [q : EqR K r] : ∀ (xs ys : List α), PyData.eqvAll (xs.map q.toD) (ys.map q.toD) = true ↔ xs = ys
  | [], [] => by rw [List.map_nil]; unfold PyData.eqvAll; simp
  | [], y :: ys => by rw [List.map_nil, List.map_cons]; unfold PyData.eqvAll; simp
  | x :: xs, [] => by rw [List.map_nil, List.map_cons]; unfold PyData.eqvAll; simp
  | x :: xs, y :: ys => by
    rw [List.map_cons, List.map_cons]
    unfold PyData.eqvAll
    rw [Bool.and_eq_true, q.eqv, eqvAll xs ys]
    simp
instance (K : PySem.W.Frag) {α : Type} (r : α → Hp → V → Prop) [q : EqR K r] : EqR K (rL K r) where
  toD xs := .list (xs.map q.toD)
  ok xs := ∀ x ∈ xs, q.ok x
  dep := q.dep + 1
  dp h s := by
    obtain ⟨a, vs, rfl, h1, h2⟩ := h
    exact .lst (s.seq h1) (dpAll s h2)
  lay h := by
    unfold PyData.canLay0
    exact layAll h
  deep xs := by
    unfold PyData.depth
    have := deepAll (K := K) (r := r) xs
    omega
  eqv xs ys := by
    unfold PyData.eqv
    rw [eqvAll]
/-- the places of a tuple as data -/
class EqT {α : Type} (K : PySem.W.Frag) (r : α → Hp → List V → Prop) where
  toD : α → List PyData
  ok : α → Prop
  dep : Nat
  dp : ∀ {x G H vs}, r x G vs → Same G H → DpAll K H vs (toD x)
  lay : ∀ {x}, ok x → PyData.canLayAll0 (toD x) = true
  deep : ∀ x, PyData.depthAll (toD x) ≤ dep
  eqv : ∀ x y, PyData.eqvAll (toD x) (toD y) = true ↔ x = y
instance (K : PySem.W.Frag) {α : Type} (r : α → Hp → V → Prop) [q : EqR K r] : EqT K (c0 r) where
  toD x := [q.toD x]
  ok x := q.ok x
  dep := q.dep
  dp h s := by
    obtain ⟨v, rfl, h1⟩ := h
    exact .cons (q.dp h1 s) .nil
  lay h := by
    unfold PyData.canLayAll0
    rw [q.lay h]
    rfl
  deep x := by
    unfold PyData.depthAll
    exact Nat.max_le.mpr ⟨q.deep x, by unfold PyData.depthAll; omega⟩
  eqv x y := by
    unfold PyData.eqvAll
    rw [Bool.and_eq_true, q.eqv]
    exact ⟨fun h => h.1, fun h => ⟨h, by unfold PyData.eqvAll; rfl⟩⟩
instance (K : PySem.W.Frag) {α β : Type} (r : α → Hp → V → Prop) (r' : β → Hp → List V → Prop) [q : EqR K r] [q' : EqT K r'] : EqT K (cc r r') where
  toD x := q.toD x.1 :: q'.toD x.2
  ok x := q.ok x.1 ∧ q'.ok x.2
  dep := max q.dep q'.dep
  dp h s := by
    obtain ⟨v, ws, rfl, h1, h2⟩ := h
    exact .cons (q.dp h1 s) (q'.dp h2 s)
  lay h := by
    unfold PyData.canLayAll0
    rw [q.lay h.1, q'.lay h.2]
    rfl
  deep x := by
    unfold PyData.depthAll
    have h1 := q.deep x.1
    have h2 := q'.deep x.2
    exact Nat.max_le.mpr ⟨Nat.le_trans h1 (Nat.le_max_left _ _), Nat.le_trans h2 (Nat.le_max_right _ _)⟩
  eqv x y := by
    unfold PyData.eqvAll
    rw [Bool.and_eq_true, q.eqv, q'.eqv]
    exact ⟨fun h => Prod.ext h.1 h.2, fun h => by rw [h]; exact ⟨rfl, rfl⟩⟩
instance (K : PySem.W.Frag) {α : Type} (r : α → Hp → List V → Prop) [q : EqT K r] : EqR K (rT K r) where
  toD x := .tuple (q.toD x)
  ok x := q.ok x
  dep := q.dep + 1
  dp h s := by
    obtain ⟨a, vs, rfl, h1, h2⟩ := h
    exact .tup (seqT s h1) (q.dp h2 s)
  lay h := by
    unfold PyData.canLay0
    exact q.lay h
  deep x := by
    unfold PyData.depth
    have := q.deep x
    omega
  eqv x y := by
    unfold PyData.eqv
    rw [q.eqv]
section
variable {X : Cx} {σ : L2.St} {G : Hp} {cs : Cells} {a b : Expr} {pos : Pos} {α : Type} {r : α → Hp → V → Prop} {x y : α}
theorem shp {K : PySem.W.Frag} [q : EqR K r] (h : q.ok x) (hd : q.dep ≤ 64) : SeqAt.shaped (q.toD x) = true := by
  unfold SeqAt.shaped
  rw [q.lay h, decide_eq_true (Nat.le_trans (q.deep x) hd)]
  rfl
theorem eqv_dec {K : PySem.W.Frag} [q : EqR K r] [DecidableEq α] : PyData.eqv (q.toD x) (q.toD y) = decide (x = y) := by
  by_cases h : x = y
  · rw [decide_eq_true h, (q.eqv x y).mpr h]
  · rw [decide_eq_false h]
    cases e : PyData.eqv (q.toD x) (q.toD y) with
    | false => rfl
    | true => exact absurd ((q.eqv x y).mp e) h
variable [DecidableEq α] [∀ z, Mono (r z)] {k : Nat}
theorem d_eqD {K : PySem.W.Frag} [q : EqR K r] (hr : Room k X.A) (ha : D X a σ G cs (r x)) (hb : D X b σ G cs (r y)) (hx : q.ok x) (hy : q.ok y) (hd : q.dep ≤ 64 := by exact Nat.le_of_ble_eq_true rfl) (hK : X.K = K := by rfl) : D X (.Compare a [.Eq] [b] pos) σ G cs (rB (decide (x = y))) := by
  subst hK
  exact d_cmp (op_eqD (Nat.lt_of_le_of_lt (by omega) hr.un)) (nomark _) ha hb fun G1 H u v s d hu hv Q qq => ⟨_, _, q.dp hu d.same, q.dp hv d.same, shp hx hd, shp hy hd, by rw [eqv_dec]; exact qq⟩
theorem t_eqD {K : PySem.W.Frag} [q : EqR K r] (hr : Room k X.A) (ha : D X a σ G cs (r x)) (hb : D X b σ G cs (r y)) (hx : q.ok x) (hy : q.ok y) (hd : q.dep ≤ 64 := by exact Nat.le_of_ble_eq_true rfl) (hK : X.K = K := by rfl) : T X (.Compare a [.Eq] [b] pos) σ G cs (decide (x = y)) := by
  subst hK
  exact t_cmp (op_eqD (Nat.lt_of_le_of_lt (by omega) hr.un)) (nomark _) ha hb fun G1 H u v s d hu hv Q qq => ⟨_, _, q.dp hu d.same, q.dp hv d.same, shp hx hd, shp hy hd, by rw [eqv_dec]; exact qq⟩
theorem d_neD {K : PySem.W.Frag} [q : EqR K r] (hr : Room k X.A) (ha : D X a σ G cs (r x)) (hb : D X b σ G cs (r y)) (hx : q.ok x) (hy : q.ok y) (hd : q.dep ≤ 64 := by exact Nat.le_of_ble_eq_true rfl) (hK : X.K = K := by rfl) : D X (.Compare a [.NotEq] [b] pos) σ G cs (rB (!decide (x = y))) := by
  subst hK
  exact d_cmp (op_neD (Nat.lt_of_le_of_lt (by omega) hr.un)) (nomark _) ha hb fun G1 H u v s d hu hv Q qq => ⟨_, _, q.dp hu d.same, q.dp hv d.same, shp hx hd, shp hy hd, by rw [eqv_dec]; exact qq⟩
theorem t_neD {K : PySem.W.Frag} [q : EqR K r] (hr : Room k X.A) (ha : D X a σ G cs (r x)) (hb : D X b σ G cs (r y)) (hx : q.ok x) (hy : q.ok y) (hd : q.dep ≤ 64 := by exact Nat.le_of_ble_eq_true rfl) (hK : X.K = K := by rfl) : T X (.Compare a [.NotEq] [b] pos) σ G cs (!decide (x = y)) := by
  subst hK
  exact t_cmp (op_neD (Nat.lt_of_le_of_lt (by omega) hr.un)) (nomark _) ha hb fun G1 H u v s d hu hv Q qq => ⟨_, _, q.dp hu d.same, q.dp hv d.same, shp hx hd, shp hy hd, by rw [eqv_dec]; exact qq⟩
end
/-! ### places, by the whole numbers that name them -/
def ixg {α : Type} [Inhabited α] (xs : List α) (i : Int) : α := (atI xs i).getD default
theorem atI_ixg {α : Type} [Inhabited α] {xs : List α} {i : Int} (h : -(xs.length : Int) ≤ i ∧ i < (xs.length : Int)) : atI xs i = some (ixg xs i) := by
  unfold ixg
  have : ∃ x, atI xs i = some x := by
    by_cases h0 : 0 ≤ i
    · exact ⟨_, atI_lt h0 h.2⟩
    · have e : i = -((-i).toNat : Int) := by omega
      rw [e]
      exact ⟨_, atI_neg (by omega) (by omega)⟩
  obtain ⟨x, e⟩ := this
  rw [e]
  rfl
theorem ixg_nat {α : Type} [Inhabited α] {xs : List α} {i : Int} (h0 : 0 ≤ i) (h1 : i < (xs.length : Int)) : ixg xs i = xs.getD i.toNat default := by
  unfold ixg
  rw [atI_lt h0 h1]
  rfl
theorem ixg_mem {α : Type} [Inhabited α] {xs : List α} {i : Int} (h0 : 0 ≤ i) (h1 : i < (xs.length : Int)) : ixg xs i ∈ xs := by
  rw [ixg_nat h0 h1]
  have h : i.toNat < xs.length := by omega
  have e : xs.getD i.toNat default = xs[i.toNat] := by simp [h]
  rw [e]
  exact List.getElem_mem h
end J

namespace J
open PySem L2 PyProof.Rows
section
variable {ε S L R : Type} {X : Cx} {W : ε → L2.St → Hp → Prop} {σ : L2.St} {G : Hp} {cs : Cells} {Φ : Po ε S L R} {m : Out ε S L R} {sts rest : List Stmt} {e tg : Expr} {P : Hp → V → Prop} {pos p : Pos}
theorem letV_intro {α : Type} {y : α} {f : α → Out ε S L R} (h : ∀ z, z = y → B X W sts σ G cs Φ (f z)) : B X W sts σ G cs Φ (letV y f) := h y rfl
theorem b_augAddV (i : Nat) {x : Str} {p' : Pos} {z y : Int} {f : Int → Out ε S L R} (hN : X.N.Nodup) (hz : σ[i]? = some (some (.int z))) (he : D X e σ G cs (rI y)) (k : ∀ u, u = z + y → ∀ G1, Same G G1 → B X W rest (σ.set i (some (.int u))) G1 cs Φ (f u)) (hi : X.N[i]? = some x := by rfl) (hx : Loc X.env.scope x := by first | exact Or.inl rfl | exact Or.inr rfl)
    (hf : X.fn x = true ∨ X.env.scope.names.lookup x = some .local := by first | exact .inl rfl | exact .inr rfl) : B X W (.AugAssign (.Name x p') .Add e pos :: rest) σ G cs Φ (letV (z + y) f) :=
  b_augAdd i hN hz he (fun G1 s1 => k _ rfl G1 s1) hi hx hf
theorem b_augSubV (i : Nat) {x : Str} {p' : Pos} {z y : Int} {f : Int → Out ε S L R} (hN : X.N.Nodup) (hz : σ[i]? = some (some (.int z))) (he : D X e σ G cs (rI y)) (k : ∀ u, u = z - y → ∀ G1, Same G G1 → B X W rest (σ.set i (some (.int u))) G1 cs Φ (f u)) (hi : X.N[i]? = some x := by rfl) (hx : Loc X.env.scope x := by first | exact Or.inl rfl | exact Or.inr rfl)
    (hf : X.fn x = true ∨ X.env.scope.names.lookup x = some .local := by first | exact .inl rfl | exact .inr rfl) : B X W (.AugAssign (.Name x p') .Sub e pos :: rest) σ G cs Φ (letV (z - y) f) :=
  b_augSub i hN hz he (fun G1 s1 => k _ rfl G1 s1) hi hx hf
theorem b_asgV {α : Type} {r : α → Hp → V → Prop} {y : α} {f : α → Out ε S L R} {Sx : α → Hp → L2.St → L2.St → Prop} (he : D X e σ G cs (r y)) (ht : Tg X tg r Sx) (k : ∀ z, z = y → ∀ σ' G1, Same G G1 → Sx z G1 σ σ' → B X W rest σ' G1 cs Φ (f z))
    (hs : swapsWithSole [tg] e pos.line X.env = pure false := by rfl) (hw : swappedStores [tg] e X.env = pure none := by rfl) (h1 : (assignEach [tg] X.env).map (·.2) = [assign tg X.env] := by rfl) : B X W (.Assign [tg] e pos :: rest) σ G cs Φ (letV y f) :=
  b_asg he ht (fun σ' G1 s1 h => k y rfl σ' G1 s1 h) hs hw h1
end
theorem wipe1 {σ : L2.St} {i : Nat} {x : Option V} : wipe ((wipe σ [i]).set i x) [i] = wipe σ [i] := by
  show (((σ.set i none).set i x).set i none) = σ.set i none
  rw [List.set_set, List.set_set]
theorem divS {i j : Int} (h : 0 < j) (hb : j < 2 ^ 62) : CDivW i j := wide_div (b := 62) h (by omega) (by decide) (by decide)
theorem pk_true {X : Cx} {kn : Option Str} {jj : Nat} {p2 p3 : Pos} : PK X [⟨kn, .Constant (.bool true) jj p2, p3⟩] (fun _ H Q => Q [.bl true] H) := pk_cons pe_bl pk_nil
end J
namespace J
theorem enum_mem {α : Type} {xs : List α} {p : Int × α} (h : p ∈ enumL xs) : p.2 ∈ xs := by
  obtain ⟨i, hi⟩ := List.getElem?_of_mem h
  exact List.mem_of_getElem? (enumL_getE hi).2
theorem enum_bd {α : Type} {xs : List α} {p : Int × α} (h : p ∈ enumL xs) : 0 ≤ p.1 ∧ p.1 < (xs.length : Int) := by
  obtain ⟨i, hi⟩ := List.getElem?_of_mem h
  obtain ⟨e1, e2⟩ := enumL_getE hi
  have := (List.getElem?_eq_some_iff.mp e2).1
  omega
end J
namespace J
theorem ix_mod {a : Int} {n : Nat} (h : 0 < n) : -(n : Int) ≤ a % (n : Int) ∧ a % (n : Int) < (n : Int) := by
  have h1 := Int.emod_nonneg a (show (n : Int) ≠ 0 by omega)
  have h2 := Int.emod_lt_of_pos a (show (0 : Int) < n by omega)
  omega
/-- a loop that always goes on is a fold -/
theorem forL_fold {ε S L R α : Type} {f : S → α → Out ε S S R} {g : S → α → S} : ∀ {xs : List α} {s : S}, (∀ s x, x ∈ xs → f s x = .nx (g s x)) → (forL f s xs : Out ε S L R) = .nx (xs.foldl g s)
  | [], _, _ => rfl
  | x :: xs, s, h => by
    rw [forL_cons, h s x List.mem_cons_self]
    exact forL_fold fun s y hy => h s y (List.mem_cons_of_mem _ hy)
/-- an invariant of a loop that always goes on -/
theorem forL_inv {ε S L R α : Type} {f : S → α → Out ε S S R} (P : Nat → S → Prop) : ∀ {xs : List α} {s : S} {n : Nat}, P n s → (∀ n s x, x ∈ xs → P n s → ∃ s', f s x = .nx s' ∧ P (n + 1) s') → ∃ s', (forL f s xs : Out ε S L R) = .nx s' ∧ P (n + xs.length) s'
  | [], s, n, h, _ => ⟨s, rfl, h⟩
  | x :: xs, s, n, h, st => by
    obtain ⟨s1, e1, h1⟩ := st n s x List.mem_cons_self h
    obtain ⟨s2, e2, h2⟩ := forL_inv (L := L) P (xs := xs) h1 fun n s y hy => st n s y (List.mem_cons_of_mem _ hy)
    refine ⟨s2, ?_, ?_⟩
    · rw [forL_cons, e1]
      exact e2
    · rw [List.length_cons, show n + (xs.length + 1) = n + 1 + xs.length by omega]
      exact h2
/-- .. by the item -/
theorem forL_all {ε S L R α : Type} {f : S → α → Out ε S S R} (P : S → Prop) {xs : List α} {s : S} (h : P s) (st : ∀ s x, x ∈ xs → P s → ∃ s', f s x = .nx s' ∧ P s') : ∃ s', (forL f s xs : Out ε S L R) = .nx s' ∧ P s' :=
  forL_inv (fun _ => P) (n := 0) h fun _ s x hx hp => st s x hx hp
end J
namespace J
theorem letV_elim {α β : Type} {y : α} {f : α → β} {m : β} (h : ∀ z, z = y → f z = m) : letV y f = m := h y rfl
theorem ifB {α : Type} {c : Bool} {a b m : α} (hc : c = false) (h : b = m) : (if c = true then a else b) = m := by
  subst hc
  rw [if_neg Bool.false_ne_true]
  exact h
theorem ifT {α : Type} {c : Bool} {a b m : α} (hc : c = true) (h : a = m) : (if c = true then a else b) = m := by
  subst hc
  rw [if_pos rfl]
  exact h
theorem bind_elim {ε S S' L R : Type} {m : Out ε S L R} {k : S → Out ε S' L R} {o : Out ε S' L R} {s : S} (e : m = .nx s) (h : k s = o) : m.bind k = o := by
  rw [e]
  exact h
/-- a loop all of whose turns go on with nothing -/
theorem forL_unit {ε L R α : Type} {f : Unit → α → Out ε Unit Unit R} {xs : List α} (h : ∀ x, x ∈ xs → f () x = .nx ()) : (forL f () xs : Out ε Unit L R) = .nx () := by
  obtain ⟨_, e, _⟩ := forL_all (L := L) (fun _ : Unit => True) (f := f) (xs := xs) (s := ()) trivial fun _ x hx _ => ⟨(), h x hx, trivial⟩
  exact e
end J

namespace J
open PySem L2 PyProof.Rows

/-! ### outcomes of what may raise -/
def callE {ε S L R O : Type} (m : Except ε O) (k : O → Out ε S L R) : Out ε S L R := match m with
  | .ok o => k o
  | .error e => .er e
@[simp] theorem callE_ok {ε S L R O : Type} (o : O) (k : O → Out ε S L R) : callE (.ok o) k = k o := rfl
@[simp] theorem callE_er {ε S L R O : Type} (e : ε) (k : O → Out ε S L R) : callE (.error e) k = .er e := rfl
def tryO {ε' ε S L R : Type} (m : Out ε' S L R) (h : ε' → Out ε S L R) : Out ε S L R := match m with
  | .nx s => .nx s
  | .bk l => .bk l
  | .ct l => .ct l
  | .rt r => .rt r
  | .er e => h e
@[simp] theorem tryO_nx {ε' ε S L R : Type} (s : S) (h : ε' → Out ε S L R) : tryO (.nx s : Out ε' S L R) h = .nx s := rfl
@[simp] theorem tryO_rt {ε' ε S L R : Type} (r : R) (h : ε' → Out ε S L R) : tryO (.rt r : Out ε' S L R) h = .rt r := rfl
@[simp] theorem tryO_er {ε' ε S L R : Type} (e : ε') (h : ε' → Out ε S L R) : tryO (.er e : Out ε' S L R) h = h e := rfl
/-- what it gives, if it gives anything -/
def okV {ε O : Type} [Inhabited O] (m : Except ε O) : O := match m with
  | .ok o => o
  | .error _ => default
@[simp] theorem okV_ok {ε O : Type} [Inhabited O] (o : O) : okV (.ok o : Except ε O) = o := rfl

/-! ### the errors of a law: n classes, each right under the one at B -/
structure ErrOne (K : PySem.W.Frag) (mg : Str → Option Value) (x : Str) (C B : Addr) : Prop where
  ex : PySem.W.excIn K C [.type "ValueError", .type "Exception", .type "BaseException", .type "object"] "ValueError.__new__" = true
  mg : mg x = some (.ref C)
  kp : PySem.W.keepIn K (.ref C) = true
  be : PySem.W.subIn K (.ref C) (.type "BaseException") = some true
  ty : PySem.W.typeIn K (.ref C) = some (.type "type")
  cl : ExcC K C
  ca : PySem.W.exmOne K (.ref C) (.ref B) = some true
structure Errs (K : PySem.W.Frag) (mg : Str → Option Value) {n : Nat} (nm : Fin n → Str) (adr : Fin n → Addr) (B : Addr) : Prop where
  one : ∀ i, ErrOne K mg (nm i) (adr i) B
  is : ∀ i j, PySem.W.kitOne K (.ref (adr i)) (.ref (adr j)) = some (decide (i = j))
  mB : mg "BankError" = some (.ref B)
theorem kit_ref {K : PySem.W.Frag} {C D : Addr} {b : Bool} (hd : PySem.W.hasDictIn K D = true) (ht : PySem.W.typeIn K (.ref D) = some (.type "type")) (hs : PySem.W.subIn K (.ref C) (.ref D) = some b) (hc : PySem.W.subIn K (.ref D) (.ref D) = some true) : PySem.W.kitOne K (.ref C) (.ref D) = some b := by
  obtain ⟨cd, hcd, _⟩ := PySem.W.any_some hd
  unfold PySem.W.kitOne
  by_cases h : (Value.ref C == Value.ref D) = true
  · rw [if_pos h]
    have e : C = D := Value.ref.inj (beq_iff_eq.mp h)
    rw [e, hc] at hs
    exact hs
  · rw [if_neg h]
    show (if ((PySem.W.clsIn K D).isSome && PySem.W.typeIn K (.ref D) == some (.type "type")) = true then PySem.W.subIn K (.ref C) (.ref D) else none) = some b
    rw [hcd, ht, if_pos (show ((some cd).isSome && (some (Value.type "type") == some (Value.type "type"))) = true by rw [Option.isSome_some, Bool.true_and]; exact beq_self_eq_true _), hs]
/-- how an error lies in the wishes of the layer -/
abbrev wE2 {n : Nat} (adr : Fin n → Addr) (Wx : WX) : Fin n → L2.St → Hp → Prop := fun e σ H => Wx (.ref (adr e)) none σ H
abbrev cE {n : Nat} (adr : Fin n → Addr) : Fin n → Value := fun e => .ref (adr e)

section
variable {n : Nat} {nm : Fin n → Str} {adr : Fin n → Addr} {B0 : Addr}
variable {S L R : Type} {X : Cx} {Wx : WX} {σ : L2.St} {G : Hp} {cs : Cells} {st : Stmt} {rest body : List Stmt} {e : Expr} {es : List Expr} {pos p q : Pos}
/-- raise X('..') -/
theorem b_raise {Φ : Po (Fin n) S L R} {x m : Str} {j : Nat} {p2 p3 : Pos} (i : Fin n) (Er : Errs X.K X.mg nm adr B0) (hc : X.calm = true) (tk : Takes X Wx) (hx : nm i = x) (k : Φ.er i σ G cs) (hg : Gl X x := by rfl) (hd : (x == ("__debug__" : Str)) = false := by decide) :
    B X (wE2 adr Wx) (.Raise (some (.Call (.Name x p) [.Constant (.str m) j p2] [] p3)) none pos :: rest) σ G cs Φ (.er i) := by
  subst hx
  have o := Er.one i
  exact b_cons (ps_raise hc tk (pmk_own F.excBase_ValueError o.ex o.mg o.kp (raises_own o.be o.ty) hg hd)) fun H d E w => w σ G cs H (Same.refl _) d k
/-- a call that may raise, as a value of a statement -/
def DE (X : Cx) (adr : Fin n → Addr) (Wx : WX) (e : Expr) (σ : L2.St) (G : Hp) (cs : Cells) {O : Type} (P : O → Hp → V → Prop) (m : Except (Fin n) O) : Prop :=
  ∀ G1 H, Same G G1 → Desc G1 cs H → ∀ Q : VK, (match m with
    | .ok o => ∀ G2 H2 v, Same G1 G2 → Desc G2 cs H2 → P o G2 v → Q v H2
    | .error k => ∀ G2 H2, Same G1 G2 → Desc G2 cs H2 → Wx (.ref (adr k)) none σ H2) → wE X e σ H Q
theorem de_call {I O : Type} {pre : I → Hp → List V → Prop} {r : I → O → Hp → V → Prop} {m : I → Except (Fin n) O} {k j a : Nat} {x : Str} {Ps : Hp → List V → Prop} (i : I) (F : Fn0 X.prog X.w X.K X.mg X.base (L2.CX X.prog X.w) k x a (SpE (cE adr) pre r m)) (tk : Takes X Wx) (hr : Room j X.A) (hk : k ≤ j)
    (ha : A X (e :: es) σ G cs Ps) (hp : ∀ G1 vs, Same G G1 → Ps G1 vs → pre i G1 vs) (hg : Gl X x := by rfl) (hd : (x == ("__debug__" : Str)) = false := by decide)
    (he : starEach (e :: es) X.env = (false, eval e X.env) :: starEach es X.env := by exact star_plain rfl) (hpl : (backTo pos (starEach es X.env)).any (·.1) = false := by rfl) : DE X adr Wx (.Call (.Name x p) (e :: es) [] pos) σ G cs (r i) (m i) := by
  obtain ⟨f, fd, ps, F, hm, kp, b, _⟩ := F.ex
  refine fun G1 H s d Q q => uE (pe_callS F (hr.mono hk) hg hm kp b (fun σ => passAt tk σ) (sA X _) (hdb := hd) (he := he) (hpl := hpl)) ?_
  refine ha G1 H s d _ fun G2 H2 vs s2 d2 hvs => ⟨i, G2, cs, d2, hp G2 vs (s.trans s2) hvs, ?_⟩
  cases hm : m i with
  | ok o =>
    rw [hm] at q
    exact fun v G3 H3 s3 d3 hv => q G3 H3 v (s2.trans s3) d3 hv
  | error k =>
    rw [hm] at q
    exact fun G3 H3 s3 d3 => q G3 H3 (s2.trans s3) d3
theorem DE.imp {O : Type} {P P' : O → Hp → V → Prop} {m : Except (Fin n) O} (h : DE X adr Wx e σ G cs P m) (i : ∀ o G v, P o G v → P' o G v) : DE X adr Wx e σ G cs P' m := fun G1 H s d Q q => h G1 H s d Q (by
  cases m with
  | ok o => exact fun G2 H2 v s2 d2 hv => q G2 H2 v s2 d2 (i _ _ _ hv)
  | error k => exact q)
/-- a call that may raise, but does not here -/
theorem d_callS {I O : Type} {pre : I → Hp → List V → Prop} {r : I → O → Hp → V → Prop} {m : I → Except (Fin n) O} {P : Hp → V → Prop} {k j a : Nat} {x : Str} {Ps : Hp → List V → Prop} {o : O} (i : I) (F : Fn0 X.prog X.w X.K X.mg X.base (L2.CX X.prog X.w) k x a (SpE (cE adr) pre r m)) (ho : m i = .ok o) (hr : Room j X.A) (hk : k ≤ j)
    (ha : A X (e :: es) σ G cs Ps) (hp : ∀ G1 vs, Same G G1 → Ps G1 vs → pre i G1 vs) (hP : ∀ G v, r i o G v → P G v) (hg : Gl X x := by rfl) (hd : (x == ("__debug__" : Str)) = false := by decide)
    (he : starEach (e :: es) X.env = (false, eval e X.env) :: starEach es X.env := by exact star_plain rfl) (hpl : (backTo pos (starEach es X.env)).any (·.1) = false := by rfl) : D X (.Call (.Name x p) (e :: es) [] pos) σ G cs P := by
  obtain ⟨f, fd, ps, F, hm, kp, b, _⟩ := F.ex
  refine d_by (pe_callS (E := fun _ _ _ _ => False) F (hr.mono hk) hg hm kp b (fun σ pins H s u s' I c => ?_) (sA X _) (hdb := hd) (he := he) (hpl := hpl)) fun G1 H s d Q q => ?_
  · obtain ⟨_, _, _, _, _, _, _, _, _, _, _, _, z⟩ := c
    exact z.elim
  · refine ha G1 H s d _ fun G2 H2 vs s2 d2 hvs => ⟨i, G2, cs, d2, hp G2 vs (s.trans s2) hvs, ?_⟩
    rw [ho]
    exact fun v G3 H3 s3 d3 hv => q G3 H3 v (s2.trans s3) d3 (hP _ _ hv)
section
variable {Φ : Po (Fin n) S L R} {O : Type} {P : O → Hp → V → Prop} {m : Except (Fin n) O}
/-- x = f(..) -/
theorem b_setE (i : Nat) {x : Str} {g : O → Out (Fin n) S L R} (hN : X.N.Nodup) (he : DE X adr Wx e σ G cs P m) (kr : ∀ k, m = .error k → ∀ G1, Same G G1 → Φ.er k σ G1 cs)
    (k : ∀ o, m = .ok o → ∀ v G1, Same G G1 → P o G1 v → B X (wE2 adr Wx) rest (σ.set i (some v)) G1 cs Φ (g o)) (hi : X.N[i]? = some x := by rfl) (hx : Loc X.env.scope x := by first | exact Or.inl rfl | exact Or.inr rfl)
    (hs : swapsWith e (some (.Name x p)) pos.line X.env = pure false := by rfl) (hf : X.fn x = true ∨ X.env.scope.names.lookup x = some .local := by first | exact .inl rfl | exact .inr rfl) : B X (wE2 adr Wx) (.Assign [.Name x p] e pos :: rest) σ G cs Φ (callE m g) :=
  b_cons (ps_set hN hi hx (sE X e) hs hf) fun H d E w => he G H (Same.refl _) d _ (by
    cases hm : m with
    | ok o =>
      rw [hm] at w
      exact fun G2 H2 v s2 d2 hv => k o hm v G2 s2 hv H2 d2 E (Wish.up (m := g o) w s2)
    | error c =>
      rw [hm] at w
      exact fun G2 H2 s2 d2 => w σ G2 cs H2 s2 d2 (kr c hm G2 s2))
/-- return f(..) -/
theorem b_retE {g : O → R} (he : DE X adr Wx e σ G cs P m) (kr : ∀ k, m = .error k → ∀ G1, Same G G1 → Φ.er k σ G1 cs) (k : ∀ o, m = .ok o → ∀ v G1, Same G G1 → P o G1 v → Φ.rt (g o) G1 cs v) :
    B X (wE2 adr Wx) (.Return (some e) pos :: rest) σ G cs Φ (callE m fun o => .rt (g o)) :=
  b_cons (ps_ret (sE X e)) fun H d E w => he G H (Same.refl _) d _ (by
    cases hm : m with
    | ok o =>
      rw [hm] at w
      exact fun G2 H2 v s2 d2 hv => w v G2 cs H2 s2 d2 (k o hm v G2 s2 hv)
    | error c =>
      rw [hm] at w
      exact fun G2 H2 s2 d2 => w σ G2 cs H2 s2 d2 (kr c hm G2 s2))
/-- f(..) alone -/
theorem b_exprE {g : O → Out (Fin n) S L R} (he : DE X adr Wx e σ G cs P m) (kr : ∀ k, m = .error k → ∀ G1, Same G G1 → Φ.er k σ G1 cs)
    (k : ∀ o, m = .ok o → ∀ G1, Same G G1 → B X (wE2 adr Wx) rest σ G1 cs Φ (g o)) (hs : swapsWith e none pos.line X.env = pure false := by rfl) : B X (wE2 adr Wx) (.Expr e pos :: rest) σ G cs Φ (callE m g) :=
  b_cons (ps_expr (sE X e) hs) fun H d E w => he G H (Same.refl _) d _ (by
    cases hm : m with
    | ok o =>
      rw [hm] at w
      exact fun G2 H2 v s2 d2 hv => k o hm G2 s2 H2 d2 E (Wish.up (m := g o) w s2)
    | error c =>
      rw [hm] at w
      exact fun G2 H2 s2 d2 => w σ G2 cs H2 s2 d2 (kr c hm G2 s2))
end
section
variable {ε S' : Type} {Φ : Po ε S L R} {W : ε → L2.St → Hp → Prop} {suite : List Stmt} {b₀ : Stmt} {np : Pos}
/-- try: .. except BankError as x: .. -/
theorem b_tryAs {mb : Out (Fin n) S' L R} {mh : Fin n → Out ε S' L R} {g : S' → Out ε S L R} {x : Str} (i : Nat) (Mid : S' → L2.St → Hp → Cells → Prop) (Mx : Fin n → L2.St → Hp → Cells → Prop) (Er : Errs X.K X.mg nm adr B0) (hN : X.N.Nodup)
    (hb : ∀ (Wx : WX) (pn : List (Addr × Obj)) (xe : Value → Shared → Prop), Takes (X.tr pn xe) Wx → PassesOwn (model X.prog X.w) X.A X.env xe → B (X.tr pn xe) (wE2 adr Wx) body σ G cs { nx := Mid, lp := Φ.lp, rt := Φ.rt, er := Mx } mb)
    (hh : ∀ k, mb = .er k → ∀ (a : Addr) (oe : Obj) (pn : List (Addr × Obj)) (σ1 : L2.St) (G1 : Hp) (cs1 : Cells), Same G G1 → Mx k σ1 G1 cs1 → Zc (.ref (adr k)) none oe → (∃ vs, oe.data = .fields vs) →
      B (X.suite a ((a, oe) :: pn)) W (b₀ :: suite) (σ1.set i (some (.ref a))) G1 cs1 { nx := fun s σ2 => Mid s (σ2.set i none), lp := fun l σ2 => Φ.lp l (σ2.set i none), rt := Φ.rt, er := fun _ _ _ _ => False } (mh k))
    (hr : ∀ s σ2 G2 cs2, Same G G2 → Mid s σ2 G2 cs2 → tryO mb mh = .nx s → B X W rest σ2 G2 cs2 Φ (g s))
    (hs : X.stack = X.env :: X.outer := by rfl) (hf : X.env.frame = some X.env.locals := by rfl) (hi : X.N[i]? = some x := by rfl) (hln : X.env.kindOf x = some .local := by rfl) (hg : Gl X "BankError" := by rfl) :
    B X W (.Try body [.ExceptHandler (some (.Name "BankError" np)) (some x) (b₀ :: suite) q] [] [] pos :: rest) σ G cs Φ ((tryO mb mh).bind g) := by
  refine b_cons (ps_try_as (i := i) (tb := fun Wx D σ H => ∀ pn xe, Takes (X.tr pn xe) Wx → PassesOwn (model X.prog X.w) X.A X.env xe → wSs (X.tr pn xe) body D σ H) (ts := fun a cls d D σ H => ∀ oe pn, Zc cls d oe → (∃ vs, oe.data = .fields vs) → wSs (X.suite a ((a, oe) :: pn)) (b₀ :: suite) D σ H) (Wout := fun _ _ _ _ => False)
    hs hf hN hi hln ⟨hg, by decide, .inl Er.mB⟩ takes0 (fun Wx pn xe tk po => ⟨fun pins s _ _ _ I h => (h pn xe tk po).run pins s I⟩) (fun a oe cls d pn hz hfd => ⟨fun pins s _ _ _ I h => (h oe pn hz hfd).run pins s I⟩)) fun H d E w => ?_
  intro pn xe tk po
  have h1 := hb _ pn xe tk po
  refine h1 H d _ ?_
  cases hm : mb with
  | nx s =>
    rw [hm] at w hr
    exact fun σ2 G2 cs2 H2 s2 d2 p => hr s σ2 G2 cs2 s2 p rfl H2 d2 E (Wish.up (G := G) (show Wish W G Φ E (g s) from w) s2)
  | bk l =>
    rw [hm] at w
    exact fun σ2 G2 cs2 H2 s2 d2 p => w σ2 G2 cs2 H2 s2 d2 p
  | ct l =>
    rw [hm] at w
    exact fun σ2 G2 cs2 H2 s2 d2 p => w σ2 G2 cs2 H2 s2 d2 p
  | rt r =>
    rw [hm] at w
    exact fun v G2 cs2 H2 s2 d2 p => w v G2 cs2 H2 s2 d2 p
  | er k =>
    rw [hm] at w hr
    intro σ2 G2 cs2 H2 s2 d2 p
    refine ⟨true, (Er.one k).ca, fun _ a ha oe pn2 hz hfd => ?_, fun z => nomatch z⟩
    refine hh k hm a oe pn2 σ2 G2 cs2 s2 p hz hfd H2 d2 _ ?_
    have w2 : Wish W G Φ E ((mh k).bind g) := w
    have hr2 : ∀ s σ2 G2 cs2, Same G G2 → Mid s σ2 G2 cs2 → mh k = .nx s → B X W rest σ2 G2 cs2 Φ (g s) := hr
    cases hk : mh k with
    | nx s =>
      rw [hk] at w2
      exact fun σ3 G3 cs3 H3 s3 d3 p3 => hr2 s _ G3 cs3 (s2.trans s3) p3 hk H3 d3 E (Wish.up (G := G) (show Wish W G Φ E (g s) from w2) (s2.trans s3))
    | bk l =>
      rw [hk] at w2
      exact fun σ3 G3 cs3 H3 s3 d3 p3 => w2 _ G3 cs3 H3 (s2.trans s3) d3 p3
    | ct l =>
      rw [hk] at w2
      exact fun σ3 G3 cs3 H3 s3 d3 p3 => w2 _ G3 cs3 H3 (s2.trans s3) d3 p3
    | rt r =>
      rw [hk] at w2
      exact fun v G3 cs3 H3 s3 d3 p3 => w2 v G3 cs3 H3 (s2.trans s3) d3 p3
    | er e => exact fun _ _ _ _ _ _ z => z.elim
/-- try: .. except BankError: .. -/
theorem b_tryOnly {mb : Out (Fin n) S' L R} {mh : Fin n → Out ε S' L R} {g : S' → Out ε S L R} (Mid : S' → L2.St → Hp → Cells → Prop) (Mx : Fin n → L2.St → Hp → Cells → Prop) (Er : Errs X.K X.mg nm adr B0)
    (hb : ∀ (Wx : WX) (pn : List (Addr × Obj)) (xe : Value → Shared → Prop), Takes (X.tr pn xe) Wx → PassesOwn (model X.prog X.w) X.A X.env xe → B (X.tr pn xe) (wE2 adr Wx) body σ G cs { nx := Mid, lp := Φ.lp, rt := Φ.rt, er := Mx } mb)
    (hh : ∀ k, mb = .er k → ∀ (a : Addr) (oe : Obj) (pn : List (Addr × Obj)) (σ1 : L2.St) (G1 : Hp) (cs1 : Cells), Same G G1 → Mx k σ1 G1 cs1 → Zc (.ref (adr k)) none oe → (∃ vs, oe.data = .fields vs) →
      B (X.suite a ((a, oe) :: pn)) W (b₀ :: suite) σ1 G1 cs1 { nx := Mid, lp := Φ.lp, rt := Φ.rt, er := fun _ _ _ _ => False } (mh k))
    (hr : ∀ s σ2 G2 cs2, Same G G2 → Mid s σ2 G2 cs2 → tryO mb mh = .nx s → B X W rest σ2 G2 cs2 Φ (g s))
    (hs : X.stack = X.env :: X.outer := by rfl) (hf : X.env.frame = some X.env.locals := by rfl) (hg : Gl X "BankError" := by rfl) :
    B X W (.Try body [.ExceptHandler (some (.Name "BankError" np)) none (b₀ :: suite) q] [] [] pos :: rest) σ G cs Φ ((tryO mb mh).bind g) := by
  refine b_cons (ps_try_only (tb := fun Wx D σ H => ∀ pn xe, Takes (X.tr pn xe) Wx → PassesOwn (model X.prog X.w) X.A X.env xe → wSs (X.tr pn xe) body D σ H) (ts := fun a cls d D σ H => ∀ oe pn, Zc cls d oe → (∃ vs, oe.data = .fields vs) → wSs (X.suite a ((a, oe) :: pn)) (b₀ :: suite) D σ H) (Wout := fun _ _ _ _ => False)
    hs hf ⟨hg, by decide, .inl Er.mB⟩ takes0 (fun Wx pn xe tk po => ⟨fun pins s _ _ _ I h => (h pn xe tk po).run pins s I⟩) (fun a oe cls d pn hz hfd => ⟨fun pins s _ _ _ I h => (h oe pn hz hfd).run pins s I⟩)) fun H d E w => ?_
  intro pn xe tk po
  have h1 := hb _ pn xe tk po
  refine h1 H d _ ?_
  cases hm : mb with
  | nx s =>
    rw [hm] at w hr
    exact fun σ2 G2 cs2 H2 s2 d2 p => hr s σ2 G2 cs2 s2 p rfl H2 d2 E (Wish.up (G := G) (show Wish W G Φ E (g s) from w) s2)
  | bk l =>
    rw [hm] at w
    exact fun σ2 G2 cs2 H2 s2 d2 p => w σ2 G2 cs2 H2 s2 d2 p
  | ct l =>
    rw [hm] at w
    exact fun σ2 G2 cs2 H2 s2 d2 p => w σ2 G2 cs2 H2 s2 d2 p
  | rt r =>
    rw [hm] at w
    exact fun v G2 cs2 H2 s2 d2 p => w v G2 cs2 H2 s2 d2 p
  | er k =>
    rw [hm] at w hr
    intro σ2 G2 cs2 H2 s2 d2 p
    refine ⟨true, (Er.one k).ca, fun _ a ha oe pn2 hz hfd => ?_, fun z => nomatch z⟩
    refine hh k hm a oe pn2 σ2 G2 cs2 s2 p hz hfd H2 d2 _ ?_
    have w2 : Wish W G Φ E ((mh k).bind g) := w
    have hr2 : ∀ s σ2 G2 cs2, Same G G2 → Mid s σ2 G2 cs2 → mh k = .nx s → B X W rest σ2 G2 cs2 Φ (g s) := hr
    cases hk : mh k with
    | nx s =>
      rw [hk] at w2
      exact fun σ3 G3 cs3 H3 s3 d3 p3 => hr2 s _ G3 cs3 (s2.trans s3) p3 hk H3 d3 E (Wish.up (G := G) (show Wish W G Φ E (g s) from w2) (s2.trans s3))
    | bk l =>
      rw [hk] at w2
      exact fun σ3 G3 cs3 H3 s3 d3 p3 => w2 _ G3 cs3 H3 (s2.trans s3) d3 p3
    | ct l =>
      rw [hk] at w2
      exact fun σ3 G3 cs3 H3 s3 d3 p3 => w2 _ G3 cs3 H3 (s2.trans s3) d3 p3
    | rt r =>
      rw [hk] at w2
      exact fun v G3 cs3 H3 s3 d3 p3 => w2 v G3 cs3 H3 (s2.trans s3) d3 p3
    | er e => exact fun _ _ _ _ _ _ z => z.elim
end
end
end J

namespace J
open PySem PySem.Spec L2 PyProof.Rows
open L2H (RoomH PinOk cxH)

/-! ### defs that are handed the error in hand -/
/-- what a def promises that is called within an except suite: a the error, C its class -/
structure FnX (P : Program) (w : World) (K : PySem.W.Frag) (mg : Str → Option Value) (base : Heap) (k : Nat) (x : Str) (n : Nat) (sp : Addr → Addr → Sp) : Prop where
  ex : ∃ (f : Addr) (fd : FuncData) (ps : List Str), (∀ a C vs H Q E, sp a C vs H Q E → vs.length = ps.length) ∧
    (∀ (A : Around) (outer : List Env) (s : Shared) (H : Hp) (args : Args) (us : List Value) (vs : List V) (Q : VK) (E : XK) (p : Addr × Obj) (C : Addr), RoomH k A → PinOk outer H s p → Zc (.ref C) none p.2 → (∃ u, p.2.data = .fields u) → Env0 P w K mg base A outer s H →
      BindsTo s fd args (ps.zip us) → Vals vs us → sp p.1 C vs H Q E → codeAny (model P w) A (.call (.ref f) args) (CR CX0 outer P w H s Q E) s) ∧
    mg x = some (.ref f) ∧ PySem.W.keepIn K (.ref f) = true ∧ Binds K fd ps [] ∧ ps.length = n
section
variable {P : Program} {w : World} {K : PySem.W.Frag} {mg : Str → Option Value} {base : Heap}
/-- the promise of such a def, that raises nothing: i the error's number -/
def SpK {I O : Type} (adr : I → Addr) (r : O → Hp → V → Prop) (m : I → O) : Addr → Addr → Sp := fun a C vs H Q _ => ∃ (i : I) (G : Hp) (cs : Cells), C = adr i ∧ vs = [.ref a] ∧ Desc G cs H ∧ ∀ v G2 H2, Same G G2 → Desc G2 cs H2 → r (m i) G2 v → Q v H2
theorem fn_mkX {I O : Type} [Inhabited O] {x y : Str} {st : Stmt} {f : Addr} {fd : FuncData} {N : List Str} {k : Nat} {adr : I → Addr} {r : O → Hp → V → Prop} (F : Fun K x x st f fd) (S : FnScope N [y] (defScope st)) (b : Binds K fd [y] []) (hmg : mg x = some (.ref f))
    (body : I → Out Empty Unit Empty O)
    (h : ∀ (cdv : Value) (A : Around) (outer : List Env) (s : Shared) (H : Hp) (E : XK) (p : Addr × Obj) (i : I) (G : Hp) (cs : Cells), RoomH k (A.deeper (envOfC x (defScope st) s.heap.objs.size f cdv)) → Zc (.ref (adr i)) none p.2 → (∃ u, p.2.data = .fields u) →
      B (cxH CX0 P w K mg base N x (defScope st) f cdv A outer s H E p) (fun e _ _ => e.elim) (defBody st) (start N [.ref p.1]) G cs (PoF cs r) (body i)) :
    FnX P w K mg base (k + 1) x 1 (SpK adr r fun i => (body i).val) := by
  obtain ⟨oc, od, kV, doc, pm, an, cdv, ct, osl, rfl, hk, hcode⟩ := F.ex
  refine ⟨f, _, [y], ?_, ?_, hmg, F.kp, b, rfl⟩
  · rintro a C vs H Q E ⟨i, G, cs, _, rfl, _⟩
    rfl
  · rintro A outer s0 H args us vs Q E p C room pin hz hf en hbi rv ⟨i, G, cs, rfl, rfl, d, q⟩
    have kin := en.mod.kin.keeps fun a o z => (en.bs a o z).1
    have nol := en.mod.nolimit.keeps fun a o z => (en.bs a o z).1
    have kinds : ∀ z ∈ [y].zip us, (defScope st).names.lookup z.1 = some .local ∨ ((defScope st).names.lookup z.1 = some .cell ∧ ((cellsFrom (s0.heap.objs.size + 1) (defScope st).names []).lookup z.1).isSome = true) := fun ⟨nm, v⟩ hz =>
      (S.par nm (List.of_mem_zip hz).1).imp id fun t => ⟨t, PySem.W.cellsFrom_some _ _ _ (.inl t)⟩
    refine codeAny_call_function room.depth (kin _ _ hk) rfl S.co S.gen rfl (PySem.W.codeRec_of kin hcode) (hbi _ _ _ _ (wpAny_newFunctionEnv_cells S.kind kinds fun env he s1 ic => ?_))
    subst he
    refine ⟨nol.keeps ic.toInCall.keep, codeAny_func ?_⟩
    have Iv := L2H.inv_startH (CX := CX0) (qual := x) (cd := cdv) (E := E) S pin en rfl rv ic
    have run := h cdv A outer s0 H E p i G cs (room.deeper _) hz hf H d { nx := fun _ H' => Q .non H', rt := Q } (by
      dsimp only at q
      cases hb : body i with
      | nx u =>
        rw [hb] at q
        rintro σ2 G2 cs2 H2 s2 d2 ⟨⟨loc, rfl⟩, hr2⟩
        exact q _ G2 H2 s2 d2.drop hr2
      | bk l => exact l.elim
      | ct l => exact l.elim
      | rt o =>
        rw [hb] at q
        rintro v G2 cs2 H2 s2 d2 ⟨⟨loc, rfl⟩, hr2⟩
        exact q _ G2 H2 s2 d2.drop hr2
      | er e => exact e.elim)
    refine wpAny_mono (run.run [] s1 Iv) (fun fl s2 hs => ?_) fun e s2 hs => hs
    have done : ∀ {σ' : L2.St} {H' : Hp} {v : V} {u : Value}, Inv (cxH CX0 P w K mg base N x (defScope st) f cdv A outer s0 H E p) [] σ' H' s2 → RelV v u → Q v H' → CE outer P w H s0 Q u s2 := fun Jv rvu qv => ⟨_, _, Jv.os, Jv.bare, Jv.base, Jv.hok, rvu, qv⟩
    cases fl with
    | ret u =>
      obtain ⟨v, σ2, H2, Jv, rvu, qv⟩ := hs
      exact done Jv rvu qv
    | next =>
      obtain ⟨σ2, H2, Jv, qv⟩ := hs
      exact done (v := V.non) (u := Value.none) Jv rfl qv
    | brk =>
      obtain ⟨_, _, _, z⟩ := hs
      exact z.elim
    | cont =>
      obtain ⟨_, _, _, z⟩ := hs
      exact z.elim
end
section
variable {n : Nat} {nm : _root_.Fin n → Str} {adr : _root_.Fin n → Addr} {B0 : Addr} {X : Cx} {σ : L2.St} {G : Hp} {cs : Cells} {e : Expr} {es : List Expr} {pos p : Pos}
theorem roomX {A A' : Around} {j k : Nat} (h : Room j A) (hk : k ≤ j) (hd : A'.depth = A.depth := by rfl) (hu : A'.units = A.units := by rfl) : RoomH k A' := ⟨by rw [hd]; exact (h.mono hk).dp, by rw [hu]; exact (h.mono hk).un⟩
/-- f(e), e the error in hand -/
theorem d_callX {I O : Type} {ad : I → Addr} {r : O → Hp → V → Prop} {m : I → O} {P : Hp → V → Prop} {k a : Nat} {x : Str} {b : Addr} {ob : Obj} (i : I) (F : FnX X.prog X.w X.K X.mg X.base k x a (SpK ad r m)) (hr : RoomH k X.A) (hp : (b, ob) ∈ X.pn) (hz : Zc (.ref (ad i)) none ob) (hf : ∃ u, ob.data = .fields u)
    (he : D X e σ G cs (rV (.ref b))) (hP : ∀ G v, r (m i) G v → P G v) (hg : Gl X x := by rfl) (hd : (x == ("__debug__" : Str)) = false := by decide)
    (hst : starEach [e] X.env = (false, eval e X.env) :: starEach [] X.env := by rfl) (hpl : (backTo pos (starEach [] X.env)).any (·.1) = false := by rfl) : D X (.Call (.Name x p) [e] [] pos) σ G cs P := by
  obtain ⟨f, fd, ps, hlen, F, hm, kp, hb, _⟩ := F.ex
  refine fun G1 H s d Q q => ⟨fun pins s0 Iv => wpAny_Call_Name_kw (ld_glob Iv hg hm ?_ hd)⟩
  refine PySem.W.callWith_K (h₀ := X.base) Iv.ok.mod.kin kp (thn ((pa_cons (sE X e) pa_nil hst).run pos pins s0 σ H (fun vs H2 => vs = [V.ref b] ∧ ∃ G2, Same G1 G2 ∧ Desc G2 cs H2) Iv (he G1 H s d _ fun G2 H2 v s2 d2 hv => ⟨by rw [show v = V.ref b from hv], G2, s2, d2⟩)) fun us s1 hh => ?_) hst hpl
  obtain ⟨vs, H2, I2, rv, rfl, G2, s2, d2⟩ := hh
  refine ⟨I2.kIn, ?_⟩
  have sp : SpK ad r m b (ad i) [V.ref b] H2 Q (fun _ _ _ => False) := ⟨i, G2, cs, rfl, rfl, d2, fun v G3 H3 s3 d3 hv => q G3 H3 v (s2.trans s3) d3 (hP _ _ hv)⟩
  have bb := hb s1 us I2.kIn (by rw [List.append_nil, ← rv.length]; exact hlen _ _ _ _ _ _ sp)
  rw [List.append_nil] at bb
  obtain ⟨p1, p2, p3, p4, p5⟩ := I2.pin (b, ob) (List.mem_append_left _ hp)
  have pin : PinOk X.stack H2 s1 (b, ob) := ⟨p1, p2, fun z => (List.mem_cons.mp (I2.stkSub b z)).elim p3 p4, p5⟩
  refine wpAny_call (codeAny_mono (F X.A X.stack s1 H2 ⟨us, []⟩ us _ Q (fun _ _ _ => False) (b, ob) (ad i) hr pin hz hf I2.env0 bb rv sp) fun t s2 hq => ?_)
  cases t with
  | error c => exact absurd hq (by intro z; exact z)
  | ok fl =>
    cases fl with
    | ret u => exact I2.after hq
    | next => exact hq.elim
    | brk => exact hq.elim
    | cont => exact hq.elim
/-- isinstance(e, C), e the error in hand -/
theorem call_isP {b C : Addr} {ob : Obj} (c : ExcC X.K C) (hz : Zc (.ref C) none ob) (hf : ∃ u, ob.data = .fields u) (hp : (b, ob) ∈ X.pn) : CallR X (.builtin "isinstance") (rIsE X.K C b) := by
  rintro pins s0 σ H xs us Q Iv rv ⟨cl, cv, t, rfl, hcv, kt, q⟩
  obtain ⟨u1, u2, rfl, r1, r2⟩ := vals2 rv
  obtain rfl := hcv _ r2
  cases (show u1 = Value.ref b from r1)
  obtain ⟨fs, hv⟩ := hf
  have at1 : PySem.W.InstAt s0.heap b ob C none := by
    have g := (Iv.pin (b, ob) (List.mem_append_left _ hp)).1
    obtain ⟨k1, k2, k3, k4⟩ := ob
    obtain ⟨rfl, rfl⟩ := hz
    cases (show k3 = _ from hv)
    exact ⟨g, rfl, rfl, trivial⟩
  exact PySem.W.kia_one (PySem.W.handS_kitx_exc c.hg c.hk c.hs c.hd c.ha c.hn c.ht c.hm) Iv.kIn at1 kt (fun z => nomatch z) fun tk => ⟨.bl t, H, Iv.kept (t' := tk) fun _ _ z => z, rfl, q⟩
theorem d_isE {y : Str} {b : Addr} {ob : Obj} {py : Pos} (i j : _root_.Fin n) (Er : Errs X.K X.mg nm adr B0) (hz : Zc (.ref (adr i)) none ob) (hf : ∃ u, ob.data = .fields u) (hp : (b, ob) ∈ X.pn) (hm : X.mg "isinstance" = none) (he : D X e σ G cs (rV (.ref b))) (hy : nm j = y)
    (hg : Gl X "isinstance" := by rfl) (hgy : Gl X y := by rfl) (hdy : (y == ("__debug__" : Str)) = false := by decide) (hst : starEach [e, .Name y py] X.env = (false, eval e X.env) :: starEach [.Name y py] X.env := by rfl) (hst2 : starEach [.Name y py] X.env = (false, eval (.Name y py) X.env) :: starEach [] X.env := by rfl)
    (hpl : (backTo pos (starEach [.Name y py] X.env)).any (·.1) = false := by rfl) : D X (.Call (.Name "isinstance" p) [e, .Name y py] [] pos) σ G cs (rB (decide (i = j))) := by
  subst hy
  refine d_callB (Ps := aC (rV (.ref b)) (aC (rV (.ref (adr j))) aN)) (call_isP (Er.one i).cl hz hf hp) hm (a_cons (P := rV (.ref b)) he (a_cons (P := rV (.ref (adr j))) ?_ a_nil hst2) hst) (fun G1 H vs s d h Q q => ?_) hg (he := hst) (hpl := hpl)
  · exact d_by (pe_glob hgy (Er.one j).mg (v := .ref (adr j)) rfl hdy) fun G1 H s d Q q => q G1 H _ (Same.refl _) d rfl
  · obtain ⟨v, w, rfl, hv, v2, w2, rfl, hv2, hw⟩ := h
    cases (show w2 = [] from hw)
    cases (show v = V.ref b from hv)
    cases (show v2 = V.ref (adr j) from hv2)
    exact ⟨_, _, _, rfl, fun u z => z, Er.is i j, q G1 H _ (Same.refl _) d rfl⟩
end
end J

namespace J
open PySem L2 PyProof.Rows
/-! ### one of two kinds of values -/
def rSum {α β : Type} (r : α → Hp → V → Prop) (r' : β → Hp → V → Prop) : α ⊕ β → Hp → V → Prop
  | .inl x => r x
  | .inr y => r' y
instance {α β : Type} (r : α → Hp → V → Prop) (r' : β → Hp → V → Prop) [m : ∀ x, Mono (r x)] [m' : ∀ x, Mono (r' x)] (x : α ⊕ β) : Mono (rSum r r' x) :=
  ⟨fun e h => by
    cases x with
    | inl x => exact (m x).mono e h
    | inr x => exact (m' x).mono e h⟩
instance (K : PySem.W.Frag) : EqR K (rSum rI rS) where
  toD x := match x with
    | .inl i => .int i
    | .inr l => .str (SX.S l)
  ok x := match x with
    | .inl _ => True
    | .inr l => ∀ c ∈ l, c < 1114112
  dep := 1
  dp {x} _ _ _ h s := by
    cases x with
    | inl i => cases (show _ = _ from h); exact .int _
    | inr l => cases (show _ = _ from h); exact .str _
  lay {x} h := by
    cases x with
    | inl i => rfl
    | inr l => exact (inferInstance : EqR K rS).lay h
  deep x := by cases x <;> (unfold PyData.depth; omega)
  eqv x y := by
    cases x <;> cases y <;> unfold PyData.eqv
    · simp [beq_iff_eq]
    · simp
    · simp
    · rw [SX.S_beq]
      simp [beq_iff_eq]
section
variable {X : Cx} {σ : L2.St} {G : Hp} {cs : Cells} {a b e : Expr} {pos p : Pos} {i j : Int}
theorem d_inl {α β : Type} {r : α → Hp → V → Prop} {r' : β → Hp → V → Prop} {x : α} (h : D X e σ G cs (r x)) : D X e σ G cs (rSum r r' (.inl x)) := h
theorem d_inr {α β : Type} {r : α → Hp → V → Prop} {r' : β → Hp → V → Prop} {x : β} (h : D X e σ G cs (r' x)) : D X e σ G cs (rSum r r' (.inr x)) := h
theorem Rs.to {α β : Type} {r : α → Hp → V → Prop} {r' : β → Hp → V → Prop} {f : α → β} {G : Hp} (h : ∀ x v, r x G v → r' (f x) G v) : ∀ {xs : List α} {vs : List V}, Rs r G xs vs → Rs r' G (xs.map f) vs
  | _, _, .nil => .nil
  | _, _, .cons q t => .cons (h _ _ q) (Rs.to h t)
/-- a list, each item told otherwise -/
theorem d_lmap {α β : Type} {r : α → Hp → V → Prop} {r' : β → Hp → V → Prop} (f : α → β) {xs : List α} (h : D X e σ G cs (rL X.K r xs)) (q : ∀ x G v, r x G v → r' (f x) G v) : D X e σ G cs (rL X.K r' (xs.map f)) :=
  h.imp fun G v ⟨l, vs, e1, e2, e3⟩ => ⟨l, vs, e1, e2, Rs.to (fun x v => q x G v) e3⟩

/-! ### what may be None, and is not -/
def oGet {α : Type} [Inhabited α] (o : Option α) : α := o.getD default
theorem oS1 {α : Type} {o : Option α} (h : (!o.isNone) = true) : o.isSome = true := by cases o <;> simp_all
theorem oS2 {α : Type} {o : Option α} (h : o.isNone = false) : o.isSome = true := by cases o <;> simp_all
theorem d_unO {α : Type} [Inhabited α] {r : α → Hp → V → Prop} {o : Option α} (h : D X e σ G cs (rO r o)) (hs : o.isSome = true) : D X e σ G cs (r (oGet o)) := by
  cases o with
  | none => cases hs
  | some x => exact h

/-! ### is of bools -/
theorem c_isB {H : Hp} {Q : VK} {i j : Bool} {x y : V} {G1 : Hp} (hx : rB i G1 x) (hy : rB j G1 y) (q : Q (.bl (decide (i = j))) H) : ∃ a b, x = .bl a ∧ y = .bl b ∧ Q (.bl (decide (a = b))) H := ⟨i, j, hx, hy, q⟩
theorem c_nisB {H : Hp} {Q : VK} {i j : Bool} {x y : V} {G1 : Hp} (hx : rB i G1 x) (hy : rB j G1 y) (q : Q (.bl (!decide (i = j))) H) : ∃ a b, x = .bl a ∧ y = .bl b ∧ Q (.bl (!decide (a = b))) H := ⟨i, j, hx, hy, q⟩

theorem d_isNN {jj : Nat} {p' : Pos} (ha : D X a σ G cs (rN ())) : D X (.Compare a [.Is] [.Constant .none jj p'] pos) σ G cs (rB true) :=
  d_cmp op_isN (nomark _) ha d_non fun G1 H x y s d hx hy Q q => ⟨hy, by cases (show x = V.non from hx); exact q⟩
theorem t_isNN {jj : Nat} {p' : Pos} (ha : D X a σ G cs (rN ())) : T X (.Compare a [.Is] [.Constant .none jj p'] pos) σ G cs true :=
  t_cmp op_isN (nomark _) ha d_non fun G1 H x y s d hx hy Q q => ⟨hy, by cases (show x = V.non from hx); exact q⟩
theorem d_notNN {jj : Nat} {p' : Pos} (ha : D X a σ G cs (rN ())) : D X (.Compare a [.IsNot] [.Constant .none jj p'] pos) σ G cs (rB false) :=
  d_cmp op_notN (nomark _) ha d_non fun G1 H x y s d hx hy Q q => ⟨hy, by cases (show x = V.non from hx); exact q⟩
theorem t_notNN {jj : Nat} {p' : Pos} (ha : D X a σ G cs (rN ())) : T X (.Compare a [.IsNot] [.Constant .none jj p'] pos) σ G cs false :=
  t_cmp op_notN (nomark _) ha d_non fun G1 H x y s d hx hy Q q => ⟨hy, by cases (show x = V.non from hx); exact q⟩

/-! ### x in xs -/
theorem inV_S (l : List Nat) : ∀ xs : List (List Nat), inV (.str (SX.S l)) (xs.map fun y => .str (SX.S y)) = decide (l ∈ xs)
  | [] => by simp [inV]
  | y :: xs => by
    have ih := inV_S l xs
    unfold inV at ih ⊢
    rw [List.map_cons, List.any_cons, ih]
    show (SX.S y == SX.S l || _) = _
    rw [SX.S_beq]
    by_cases h : y = l
    · subst h
      simp
    · have h2 : ¬ l = y := fun z => h z.symm
      simp [h, h2]
theorem inV_I (i : Int) : ∀ xs : List Int, inV (.int i) (xs.map V.int) = decide (i ∈ xs)
  | [] => by simp [inV]
  | y :: xs => by
    have ih := inV_I i xs
    unfold inV at ih ⊢
    rw [List.map_cons, List.any_cons, ih]
    show (y == i || _) = _
    by_cases h : y = i
    · subst h
      simp
    · have h2 : ¬ i = y := fun z => h z.symm
      simp [h, h2]
/-- items that `in` may ask -/
class InR {α : Type} [DecidableEq α] (r : α → Hp → V → Prop) where
  f : α → V
  is : ∀ {x G v}, r x G v → v = f x
  fl : ∀ x, flatV (f x) = true
  iv : ∀ (x : α) (xs : List α), inV (f x) (xs.map f) = decide (x ∈ xs)
instance : InR rS where
  f l := .str (SX.S l)
  is h := h
  fl _ := rfl
  iv x xs := (inV_S x xs).trans (decide_eq_decide.mpr Iff.rfl)
instance : InR rI where
  f := .int
  is h := h
  fl _ := rfl
  iv x xs := (inV_I x xs).trans (decide_eq_decide.mpr Iff.rfl)
theorem Rs.eqMap {α : Type} [DecidableEq α] {r : α → Hp → V → Prop} [q : InR r] {G : Hp} : ∀ {xs : List α} {vs : List V}, Rs r G xs vs → vs = xs.map q.f
  | _, _, .nil => rfl
  | _, _, .cons h t => by rw [List.map_cons, q.is h, Rs.eqMap t]
theorem allFlat {α : Type} [DecidableEq α] {r : α → Hp → V → Prop} [q : InR r] (xs : List α) : (xs.map q.f).all flatV = true := by
  rw [List.all_eq_true]
  intro v hv
  obtain ⟨x, _, rfl⟩ := List.mem_map.mp hv
  exact q.fl x
/-- readable as a row of items: a list or a tuple -/
def rRow (K : PySem.W.Frag) (cs : Cells) {α : Type} (r : α → Hp → V → Prop) (xs : List α) : Hp → V → Prop := fun G v => ∃ a vs, v = .ref a ∧ (∀ H, Desc G cs H → SqL K H a vs ∨ SqT K H a vs) ∧ Rs r G xs vs
theorem rRow_l {K : PySem.W.Frag} {cs : Cells} {α : Type} {r : α → Hp → V → Prop} {xs : List α} {G : Hp} {v : V} (h : rdL K cs r xs G v) : rRow K cs r xs G v := by
  obtain ⟨a, vs, e, h1, h2⟩ := h
  refine ⟨a, vs, e, fun H d => .inl ?_, h2⟩
  rcases h1 with h1 | h1
  · exact d.same.seq h1
  · exact SqL.of (d.at_ h1)
theorem rRow_t {K : PySem.W.Frag} {cs : Cells} {α : Type} {r : α → Hp → V → Prop} {xs : List α} {G : Hp} {v : V} (h : rU K r xs G v) : rRow K cs r xs G v := by
  obtain ⟨a, vs, e, h1, h2⟩ := h
  exact ⟨a, vs, e, fun H d => .inr (seqT d.same h1), h2⟩
section
/-- x among xs -/
def inB {α : Type} [DecidableEq α] (x : α) (xs : List α) : Bool := decide (x ∈ xs)
theorem inB_iff {α : Type} [DecidableEq α] {x : α} {xs : List α} : inB x xs = true ↔ x ∈ xs := decide_eq_true_iff
variable {α : Type} [DecidableEq α] {r : α → Hp → V → Prop} [q0 : InR r] [∀ x, Mono (r x)] {x : α} {xs : List α}
theorem d_in (ha : D X a σ G cs (r x)) (hb : D X b σ G cs (rRow X.K cs r xs)) (hm : behindInMarks .In b = false := by rfl) : D X (.Compare a [.In] [b] pos) σ G cs (rB (inB x xs)) :=
  d_cmp op_in_seq hm ha hb fun G1 H u w s d hu hw Q q => by
    obtain ⟨l, vs, rfl, h1, h2⟩ := hw
    rw [h2.eqMap] at h1
    rw [q0.is hu]
    refine ⟨l, _, rfl, h1 H d, q0.fl x, allFlat xs, ?_⟩
    rw [if_neg (by simp), q0.iv]
    exact q
theorem d_nin (ha : D X a σ G cs (r x)) (hb : D X b σ G cs (rRow X.K cs r xs)) (hm : behindInMarks .NotIn b = false := by rfl) : D X (.Compare a [.NotIn] [b] pos) σ G cs (rB (!inB x xs)) :=
  d_cmp op_notIn_seq hm ha hb fun G1 H u w s d hu hw Q q => by
    obtain ⟨l, vs, rfl, h1, h2⟩ := hw
    rw [h2.eqMap] at h1
    rw [q0.is hu]
    refine ⟨l, _, rfl, h1 H d, q0.fl x, allFlat xs, ?_⟩
    rw [if_pos rfl, q0.iv]
    exact q
theorem t_in (ha : D X a σ G cs (r x)) (hb : D X b σ G cs (rRow X.K cs r xs)) (hm : behindInMarks .In b = false := by rfl) : T X (.Compare a [.In] [b] pos) σ G cs (inB x xs) :=
  t_cmp op_in_seq hm ha hb fun G1 H u w s d hu hw Q q => by
    obtain ⟨l, vs, rfl, h1, h2⟩ := hw
    rw [h2.eqMap] at h1
    rw [q0.is hu]
    refine ⟨l, _, rfl, h1 H d, q0.fl x, allFlat xs, ?_⟩
    rw [if_neg (by simp), q0.iv]
    exact q
theorem t_nin (ha : D X a σ G cs (r x)) (hb : D X b σ G cs (rRow X.K cs r xs)) (hm : behindInMarks .NotIn b = false := by rfl) : T X (.Compare a [.NotIn] [b] pos) σ G cs (!inB x xs) :=
  t_cmp op_notIn_seq hm ha hb fun G1 H u w s d hu hw Q q => by
    obtain ⟨l, vs, rfl, h1, h2⟩ := hw
    rw [h2.eqMap] at h1
    rw [q0.is hu]
    refine ⟨l, _, rfl, h1 H d, q0.fl x, allFlat xs, ?_⟩
    rw [if_pos rfl, q0.iv]
    exact q
end

/-! ### isinstance(x, T), T built in -/
class HasTy {α : Type} (K : PySem.W.Frag) (r : α → Hp → V → Prop) (t : outParam String) : Prop where
  ty : ∀ {x G H v cs}, r x G v → Desc G cs H → TyX K H v (.type t)
instance (K : PySem.W.Frag) : HasTy K rI "int" := ⟨fun h _ => by cases h; exact .base (.int _)⟩
instance (K : PySem.W.Frag) : HasTy K rB "bool" := ⟨fun h _ => by cases h; exact .base (.bl _)⟩
instance (K : PySem.W.Frag) : HasTy K rS "str" := ⟨fun h _ => by cases h; exact .base (.str _)⟩
theorem ty_list {K : PySem.W.Frag} {H : Hp} {a : Addr} {vs : List V} (h : SqL K H a vs) : TyX K H (.ref a) (.type "list") := by
  rcases h with (h | ⟨o, h⟩) | ⟨o, _, _, h1, h2, _⟩
  · exact .base (.lst h)
  · exact .base (.frz h)
  · exact .kList h1 h2
theorem ty_tuple {K : PySem.W.Frag} {H : Hp} {a : Addr} {vs : List V} (h : SqT K H a vs) : TyX K H (.ref a) (.type "tuple") := by
  rcases h with (h | ⟨o, h⟩) | ⟨o, _, _, h1, h2, _⟩
  · exact .base (.tup h)
  · exact .fTuple h
  · exact .kTuple h1 h2
instance (K : PySem.W.Frag) {α : Type} (r : α → Hp → V → Prop) : HasTy K (rL K r) "list" := ⟨fun h d => by
  obtain ⟨a, vs, rfl, h1, h2⟩ := h
  exact ty_list (d.same.seq h1)⟩
instance (K : PySem.W.Frag) {α : Type} (r : α → Hp → List V → Prop) : HasTy K (rT K r) "tuple" := ⟨fun h d => by
  obtain ⟨a, vs, rfl, h1, h2⟩ := h
  exact ty_tuple (seqT d.same h1)⟩
theorem d_isi {α : Type} {r : α → Hp → V → Prop} {x : α} {t u : String} {y : Str} {k : Bool} {py : Pos} [h : HasTy X.K r t] [∀ x, Mono (r x)] (hm : X.mg "isinstance" = none) (hmy : X.mg y = none) (ha : D X a σ G cs (r x)) (hk : kitB t u = some k := by decide +kernel)
    (hy : bootBuiltins y = some (.type u) := by decide +kernel) (hg : Gl X "isinstance" := by rfl) (hgy : Gl X y := by rfl) (hny : y ≠ "__name__" := by decide) (hdy : (y == ("__debug__" : Str)) = false := by decide)
    (hst : starEach [a, .Name y py] X.env = (false, eval a X.env) :: starEach [.Name y py] X.env := by rfl) (hst2 : starEach [.Name y py] X.env = (false, eval (.Name y py) X.env) :: starEach [] X.env := by rfl)
    (hpl : (backTo pos (starEach [.Name y py] X.env)).any (·.1) = false := by rfl) : D X (.Call (.Name "isinstance" p) [a, .Name y py] [] pos) σ G cs (rB k) := by
  refine d_callB (Ps := aC (r x) (aC (rV (.ty u)) aN)) call_isi hm (a_cons ha (a_cons (P := rV (.ty u)) ?_ a_nil hst2) hst) (fun G1 H vs s d h1 Q q => ?_) hg (he := hst) (hpl := hpl)
  · exact d_by (pe_bltn hgy hmy hy (v := .ty u) rfl hny hdy) fun G1 H s d Q q => q G1 H _ (Same.refl _) d rfl
  · obtain ⟨v, w, rfl, hv, v2, w2, rfl, hv2, hw⟩ := h1
    cases (show w2 = [] from hw)
    cases (show v2 = V.ty u from hv2)
    exact ⟨_, _, _, _, k, rfl, .ty u, h.ty hv d, kit_ty hk, q G1 H _ (Same.refl _) d rfl⟩

/-! ### slices -/
def cutL {α : Type} (xs : List α) (lo hi : Option Int) : List α := (xs.drop (HT.sIx xs.length 0 lo)).take (HT.sIx xs.length xs.length hi - HT.sIx xs.length 0 lo)
theorem cutL_map {α β : Type} (f : α → β) (xs : List α) (lo hi : Option Int) : cutL (xs.map f) lo hi = (cutL xs lo hi).map f := by
  unfold cutL
  rw [List.length_map, List.map_take, List.map_drop]
theorem cutL_le {α : Type} (xs : List α) (lo hi : Option Int) : (cutL xs lo hi).length ≤ xs.length := by
  unfold cutL
  rw [List.length_take, List.length_drop]
  omega
theorem cutL_up {α : Type} (xs : List α) {n : Int} (h : 0 ≤ n) : cutL xs none (some n) = xs.take n.toNat := by
  unfold cutL
  rw [HT.sIx_none]
  show List.take (HT.sIx xs.length xs.length (some n) - 0) (List.drop 0 xs) = _
  have e : n = (n.toNat : Int) := by omega
  rw [e, HT.sIx_nat, Nat.sub_zero, List.drop_zero]
  show List.take (min n.toNat xs.length) xs = List.take n.toNat xs
  rw [List.take_eq_take_iff]
  omega
theorem cutL_from {α : Type} (xs : List α) {n : Int} (h : 0 ≤ n) : cutL xs (some n) none = xs.drop n.toNat := by
  unfold cutL
  rw [HT.sIx_none]
  have e : n = (n.toNat : Int) := by omega
  rw [e, HT.sIx_nat]
  show List.take (xs.length - min n.toNat xs.length) (List.drop (min n.toNat xs.length) xs) = List.drop n.toNat xs
  by_cases hl : n.toNat ≤ xs.length
  · rw [Nat.min_eq_left hl, List.take_of_length_le (by rw [List.length_drop]; omega)]
  · rw [Nat.min_eq_right (by omega), List.drop_of_length_le (Nat.le_refl _), List.drop_of_length_le (by omega), List.take_nil]
structure wO (X : Cx) (eo : Option Expr) (σ : L2.St) (H : Hp) (Q : Option Int → Hp → Prop) : Prop where
  run : ∀ pins s, Inv X pins σ H s → wpAny (model X.prog X.w) X.A (evalPart eo X.env) (fun u s' => ∃ o H', Inv X pins σ H' s' ∧ IsPart u o ∧ Q o H') X.xe s
/-- a slice's part -/
def DO (X : Cx) (eo : Option Expr) (σ : L2.St) (G : Hp) (cs : Cells) (o : Option Int) : Prop :=
  ∀ G1 H, Same G G1 → Desc G1 cs H → ∀ Q : Option Int → Hp → Prop, (∀ G2 H2, Same G1 G2 → Desc G2 cs H2 → Q o H2) → wO X eo σ H Q
theorem do_none : DO X none σ G cs none := fun G1 H s d Q q => ⟨fun pins s0 Iv => po_none.run pins s0 σ H Q Iv (q G1 H (Same.refl _) d)⟩
theorem do_some (h : D X e σ G cs (rI i)) : DO X (some e) σ G cs (some i) := fun G1 H s d Q q => ⟨fun pins s0 Iv => (po_some (sE X e)).run pins s0 σ H Q Iv (h G1 H s d _ fun G2 H2 v s2 d2 hv => ⟨i, hv, q G2 H2 s2 d2⟩)⟩
theorem sO (eo : Option Expr) : PO X eo (wO X eo) := ⟨fun pins s _ _ _ Iv h => h.run pins s Iv⟩
section
variable {lo hi : Option Expr} {l u : Option Int} {p2 : Pos}
theorem d_slS {z : List Nat} (ha : D X a σ G cs (rS z)) (hl : DO X lo σ G cs l) (hu : DO X hi σ G cs u) (hz : z.length ≤ sizeLine) : D X (.Subscript a (.Slice lo hi none p2) pos) σ G cs (rS (cutL z l u)) :=
  d_by (pe_slice sl_str (sE X a) (sO lo) (sO hi)) fun G1 H s d Q q => ha G1 H s d _ fun G2 H2 v s2 d2 hv => hl G2 H2 (s.trans s2) d2 _ fun G3 H3 s3 d3 => hu G3 H3 ((s.trans s2).trans s3) d3 _ fun G4 H4 s4 d4 => by
    refine ⟨SX.S z, hv, by rw [SX.S_len]; exact hz, ?_⟩
    have e : cutS (SX.S z) l u = SX.S (cutL z l u) := by
      unfold cutS cutL
      rw [SX.S_len]
    rw [e]
    exact q G4 H4 _ ((s2.trans s3).trans s4) d4 rfl
theorem rs_cut {α : Type} {r : α → Hp → V → Prop} {G : Hp} {xs : List α} {vs : List V} (h : Rs r G xs vs) (l u : Option Int) : Rs r G (cutL xs l u) (cutV vs l u) := by
  unfold cutL cutV
  rw [h.length]
  exact (h.drop _).take _
theorem n_slL {α : Type} {r : α → Hp → V → Prop} [∀ x, Mono (r x)] {xs : List α} (ha : D X a σ G cs (rdL X.K cs r xs)) (hl : DO X lo σ G cs l) (hu : DO X hi σ G cs u) : N X (.Subscript a (.Slice lo hi none p2) pos) σ G cs r (cutL xs l u) := fun G1 H s d Q q =>
  uE (pe_slice sl_list (sE X a) (sO lo) (sO hi)) (ha G1 H s d _ fun G2 H2 v s2 d2 hv => hl G2 H2 (s.trans s2) d2 _ fun G3 H3 s3 d3 => hu G3 H3 ((s.trans s2).trans s3) d3 _ fun G4 H4 s4 d4 => by
    obtain ⟨x, vs, e1, h1, h2⟩ := (Mono.mono (s3.trans s4) hv).sq d4
    exact ⟨x, vs, e1, h1, fun p hp => q G4 _ p _ ((s2.trans s3).trans s4) (d4.newCell hp _) (rs_cut h2 l u)⟩)
end
theorem d_upper {z : List Nat} {apos : Pos} (ha : D X a σ G cs (rS z)) (h : z.all (· < 128) = true) (hz : z.length ≤ 5592405) (hbase : attributeBase a "upper" X.env (eval a X.env) = eval a X.env := by rfl) (hline : (apos.endLine == pos.line) = true := by rfl) :
    D X (.Call (.Attribute a "upper" apos) [] [] pos) σ G cs (rS (z.map PyProof.Rows.up1)) :=
  d_by (pe_upper (sE X a) hbase hline) fun G1 H s d Q q => ha G1 H s d _ fun G2 H2 v s2 d2 hv => ⟨⟨SX.S z, hv⟩, SX.S z, hv, rfl, by rw [SX.S_len]; exact hz, by rw [SX.upper_S h]; exact q G2 H2 _ s2 d2 rfl⟩

/-! ### tuples of the module -/
theorem d_ixU {α : Type} {r : α → Hp → V → Prop} [∀ x, Mono (r x)] {xs : List α} {x : α} (ha : D X a σ G cs (rU X.K r xs)) (hb : D X b σ G cs (rI i)) (hx : atI xs i = some x) (hs : PlainIx b := by exact fun _ _ => rfl) : D X (.Subscript a b pos) σ G cs (r x) :=
  d_by (pe_ix ix_tup (sE X a) (sE X b) hs) fun G1 H s d Q q => ha G1 H s d _ fun G2 H2 u s2 d2 hu => hb G2 H2 (s.trans s2) d2 _ fun G3 H3 y s3 d3 hy => by
    obtain ⟨l, vs, e, hl, hr⟩ := Mono.mono s3 hu
    obtain ⟨v, hv, hp⟩ := atI_rs hr hx
    exact ⟨l, vs, i, v, e, hy, seqT d3.same hl, hv, q G3 H3 v (s2.trans s3) d3 hp⟩
/-- a name of the module that tells data -/
def GlobR (mg : Str → Option Value) (x : Str) (P : Hp → V → Prop) : Prop := ∃ v u, mg x = some u ∧ RelV v u ∧ ∀ G, P G v
theorem d_globR {x : Str} {P : Hp → V → Prop} (h : GlobR X.mg x P) (hg : Gl X x := by rfl) (hd : (x == ("__debug__" : Str)) = false := by decide) : D X (.Name x pos) σ G cs P := by
  obtain ⟨v, u, hm, hr, hp⟩ := h
  exact d_by (pe_glob hg hm hr hd) fun G1 H s d Q q => q G1 H v (Same.refl _) d (hp G1)
theorem globT {K : PySem.W.Frag} {mg : Str → Option Value} {x : Str} {α : Type} {r : α → Hp → V → Prop} {xs : List α} {vs : List V} {a : Addr} {dd : Option Addr} {us : List Value} {n : Nat} {sl : Array (Option Value)} (hm : mg x = some (.ref a)) (hk : K.lookup a = some ⟨.type "tuple", dd, .seq us.toArray n, sl⟩)
    (hv : Vals vs us) (hl : us.length ≤ sizeLine) (hr : ∀ G, Rs r G xs vs) : GlobR mg x (rU K r xs) :=
  ⟨.ref a, _, hm, rfl, fun G => ⟨a, vs, rfl, .inr ⟨_, us.toArray, n, hk, rfl, rfl, by rw [List.size_toArray]; exact hl, by simpa using hv⟩, hr G⟩⟩
end
end J

namespace J
/-! the numbers that a law draws of a cell: every law's own mirror of them is this one, by rfl -/
def numStep (c : Int) (z : Int × List Int) (x : Int) : Out Empty (Int × List Int) (Int × List Int) (List Int) :=
  if (decide (0 < z.1)) = true then (letV (z.2 ++ [(z.1 % 10000000000000)]) fun ns => letV (z.1 / 10000000000000) fun r => .nx (r, ns))
  else (letV ((((c * 48271) + (x * 69621)) + 1013) % 2147483647) fun m => letV ((((m * m) + (8191 * x)) + 77) % 2147483629) fun m2 =>
    letV (z.2 ++ [(((((m2 * m2) + m2) % 2147483587) * 4001) + x)]) fun ns => .nx (z.1, ns))
def numsOf (c : Int) (n : Int) : List Int :=
  Out.val (letV 0 fun r => (if (decide (1000000000000000000 ≤ c)) = true then (letV (c / 1000000000000000000) fun r => .nx (r)) else (.nx (r)) : Out Empty (Int) Empty (List Int)).bind fun z =>
    letV ([] : (List Int)) fun ns => (forL (numStep c) (z, ns) (rng 0 n)).bind fun z => .rt z.2)
theorem numsOf_is (c n : Int) : ∃ r s, numsOf c n = s.2 ∧ (forL (numStep c) (r, []) (rng 0 n) : Out Empty _ Empty (List Int)) = .nx s ∧ (∀ (P : Nat → Int × List Int → Prop), (∀ r, P 0 (r, [])) → (∀ k s x, x ∈ rng 0 n → P k s → ∃ s', numStep c s x = .nx s' ∧ P (k + 1) s') → P (rng 0 n).length s) := by
  have key : ∀ r : Int, ∃ s, (forL (numStep c) (r, []) (rng 0 n) : Out Empty _ Empty (List Int)) = .nx s ∧ (∀ (P : Nat → Int × List Int → Prop), (∀ r, P 0 (r, [])) → (∀ k s x, x ∈ rng 0 n → P k s → ∃ s', numStep c s x = .nx s' ∧ P (k + 1) s') → P (rng 0 n).length s) := fun r => by
    obtain ⟨s, e, _⟩ := forL_inv (ε := Empty) (L := Empty) (f := numStep c) (xs := rng 0 n) (s := (r, [])) (n := 0) (fun _ _ => True) trivial fun k s x hx _ => by
      unfold numStep letV
      by_cases hc : 0 < s.1
      · exact ⟨_, by rw [decide_eq_true hc]; rfl, trivial⟩
      · exact ⟨_, by rw [decide_eq_false hc]; rfl, trivial⟩
    refine ⟨s, e, fun P h0 hs => ?_⟩
    obtain ⟨s2, e2, h2⟩ := forL_inv (ε := Empty) (L := Empty) (f := numStep c) (xs := rng 0 n) (s := (r, [])) (n := 0) P (h0 r) hs
    rw [e] at e2
    cases e2
    rw [Nat.zero_add] at h2
    exact h2
  unfold numsOf letV
  by_cases hc : 1000000000000000000 ≤ c
  · rw [decide_eq_true hc]
    obtain ⟨s, e, hl⟩ := key (c / 1000000000000000000)
    refine ⟨_, s, ?_, e, hl⟩
    show Out.val (Out.bind (forL (numStep c) (c / 1000000000000000000, []) (rng 0 n)) fun z => .rt z.2) = _
    rw [e]
    rfl
  · rw [decide_eq_false hc]
    obtain ⟨s, e, hl⟩ := key 0
    refine ⟨_, s, ?_, e, hl⟩
    show Out.val (Out.bind (forL (numStep c) (0, []) (rng 0 n)) fun z => .rt z.2) = _
    rw [e]
    rfl
theorem numsOf_length (c : Int) {n : Int} (h : 0 ≤ n) : (numsOf c n).length = n.toNat := by
  obtain ⟨r, s, e, _, hp⟩ := numsOf_is c n
  rw [e, hp (fun k s => s.2.length = k) (fun _ => rfl) (fun k s x hx hk => by
    unfold numStep letV
    by_cases hc : 0 < s.1
    · exact ⟨_, by rw [decide_eq_true hc]; rfl, by simp [hk]⟩
    · exact ⟨_, by rw [decide_eq_false hc]; rfl, by simp [hk]⟩), rng_length]
  omega
theorem numsOf_bd (c : Int) {n : Int} (h : n ≤ 1000) : ∀ x ∈ numsOf c n, 0 ≤ x ∧ x < 10000000000000 := by
  obtain ⟨r, s, e, _, hp⟩ := numsOf_is c n
  rw [e]
  refine hp (fun _ s => ∀ x ∈ s.2, 0 ≤ x ∧ x < 10000000000000) (fun _ x hx => by simp at hx) (fun k s x hx hk => ?_)
  unfold numStep letV
  have hk0 := rng_mem.mp hx
  by_cases hc : 0 < s.1
  · refine ⟨_, by rw [decide_eq_true hc]; rfl, fun y hy => ?_⟩
    rcases List.mem_append.mp hy with hy | hy
    · exact hk y hy
    · have e := List.mem_singleton.mp hy
      rw [e]
      omega
  · refine ⟨_, by rw [decide_eq_false hc]; rfl, fun y hy => ?_⟩
    rcases List.mem_append.mp hy with hy | hy
    · exact hk y hy
    · have e := List.mem_singleton.mp hy
      rw [e]
      generalize ((c * 48271 + x * 69621 + 1013) % 2147483647 * ((c * 48271 + x * 69621 + 1013) % 2147483647) + 8191 * x + 77) % 2147483629 = m
      generalize m * m + m = q
      omega
/-- what a law may count on of its numbers -/
structure Nums (n : Nat) (xs : List Int) : Prop where
  len : xs.length = n
  mem : ∀ x ∈ xs, 0 ≤ x ∧ x < 10000000000000
theorem nums (c : Int) (n : Nat) (h : n ≤ 1000 := by decide) : Nums n (numsOf c (n : Int)) := ⟨by rw [numsOf_length c (by omega)]; omega, numsOf_bd c (by omega)⟩
theorem Nums.bd {n : Nat} {xs : List Int} (h : Nums n xs) (i : Int) : 0 ≤ ixg xs i ∧ ixg xs i < 10000000000000 := by
  unfold ixg
  cases e : L2.atI xs i with
  | none => exact ⟨by decide, by decide⟩
  | some x =>
    refine h.mem x ?_
    have e2 : ((L2.ixN xs.length i).bind fun j => xs[j]?) = some x := e
    obtain ⟨j, _, hj⟩ := Option.bind_eq_some_iff.mp e2
    exact List.mem_of_getElem? hj
end J

namespace J
open PySem L2
/-- the turns n are enough -/
def Ends {ε S R : Type} (c : S → Bool) (f : S → Out ε S S R) : Nat → S → Prop
  | 0, s => c s = false
  | n + 1, s => c s = true → ∀ s', (f s = .nx s' ∨ f s = .ct s') → Ends c f n s'
theorem whileN_false {ε S L R : Type} {c : S → Bool} {f : S → Out ε S S R} {n : Nat} {s : S} (h : c s = false) : (whileN c f n s : Out ε S L R) = .nx s := by
  cases n with
  | zero => rfl
  | succ n =>
    unfold whileN
    rw [h]
    rfl
theorem whileN_true {ε S L R : Type} {c : S → Bool} {f : S → Out ε S S R} {n : Nat} {s : S} (h : c s = true) : (whileN c f (n + 1) s : Out ε S L R) = (match f s with
    | .nx s' => whileN c f n s'
    | .ct s' => whileN c f n s'
    | .bk s' => .nx s'
    | .rt r => .rt r
    | .er e => .er e) := by
  conv => lhs; unfold whileN
  rw [h]
  rfl
theorem while_out {ε S L R : Type} {c : S → Bool} {f : S → Out ε S S R} {z : S} (hb : ∀ s s', f s ≠ .bk s') : ∀ {n : Nat} {s : S}, Ends c f n s → (whileN c f n s : Out ε S L R) = .nx z → c z = false
  | 0, s, he, h => by
    have e : s = z := Out.nx.inj h
    rw [← e]
    exact he
  | n + 1, s, he, h => by
    cases hc : c s with
    | false =>
      rw [whileN_false hc] at h
      have e : s = z := Out.nx.inj h
      rw [← e]
      exact hc
    | true =>
      rw [whileN_true hc] at h
      cases hm : f s with
      | nx s' =>
        rw [hm] at h
        exact while_out hb (he hc s' (.inl hm)) h
      | ct s' =>
        rw [hm] at h
        exact while_out hb (he hc s' (.inr hm)) h
      | bk s' => exact absurd hm (hb s s')
      | rt r =>
        rw [hm] at h
        cases h
      | er e =>
        rw [hm] at h
        cases h
theorem while_run {ε S L R : Type} {c : S → Bool} {f : S → Out ε S S R} (I : S → Prop) (hs : ∀ s, I s → c s = true → ∃ s', f s = .nx s' ∧ I s') : ∀ {n : Nat} {s : S}, Ends c f n s → I s → ∃ z, (whileN c f n s : Out ε S L R) = .nx z ∧ I z ∧ c z = false
  | 0, s, he, hi => ⟨s, rfl, hi, he⟩
  | n + 1, s, he, hi => by
    cases hc : c s with
    | false => exact ⟨s, whileN_false hc, hi, hc⟩
    | true =>
      obtain ⟨s', h1, h2⟩ := hs s hi hc
      obtain ⟨z, h3, h4⟩ := while_run (L := L) I hs (he hc s' (.inl h1)) h2
      exact ⟨z, by rw [whileN_true hc, h1]; exact h3, h4⟩
theorem ends_by {ε S R : Type} {c : S → Bool} {f : S → Out ε S S R} (I : S → Prop) (μ : S → Nat) (hs : ∀ s, I s → c s = true → 0 < μ s ∧ ∀ s', (f s = .nx s' ∨ f s = .ct s') → I s' ∧ μ s' < μ s) : ∀ {n : Nat} {s : S}, I s → μ s ≤ n → Ends c f n s
  | 0, s, hi, hm => by
    show c s = false
    cases hc : c s with
    | false => rfl
    | true =>
      have := (hs s hi hc).1
      omega
  | n + 1, s, hi, hm => fun hc s' h => by
    obtain ⟨h1, h2⟩ := (hs s hi hc).2 s' h
    exact ends_by I μ hs h1 (by omega)
section
variable {ε S L R S1 : Type} {X : Cx} {W : ε → L2.St → Hp → Prop} {σ : L2.St} {G : Hp} {cs : Cells} {Φ : Po ε S L R} {rest body : List Stmt} {c : Expr} {pos : Pos}
theorem b_while {cond : S1 → Bool} {f : S1 → Out ε S1 S1 R} {g : S1 → Out ε S L R} {n : Nat} {s0 : S1} (N : S1 → L2.St → Hp → Cells → Prop) (hp : PassesOwn (model X.prog X.w) X.A X.env X.xe)
    (h0 : ∀ G1, Same G G1 → N s0 σ G1 cs) (hc : ∀ s σ1 G1 cs1, Same G G1 → N s σ1 G1 cs1 → T X c σ1 G1 cs1 (cond s))
    (hb : ∀ s σ1 G0 G1 cs1, Same G G0 → N s σ1 G0 cs1 → Same G0 G1 → cond s = true → B X W body σ1 G1 cs1 { nx := N, lp := N, rt := Φ.rt, er := Φ.er } (f s))
    (he : Ends cond f n s0)
    (hr : ∀ s σ1 G0 G1 cs1, Same G G0 → N s σ1 G0 cs1 → Same G0 G1 → (whileN cond f n s0 : Out ε S1 L R) = .nx s → B X W rest σ1 G1 cs1 Φ (g s)) : B X W (.While c body [] pos :: rest) σ G cs Φ ((whileN cond f n s0).bind g) := by
  refine b_cons (ps_while hp (sT X c) (sSs X body)) fun H d E w => ?_
  refine ⟨fun k σ1 H1 => ∃ s G1 cs1, Same G G1 ∧ Desc G1 cs1 H1 ∧ N s σ1 G1 cs1 ∧ Ends cond f k s ∧ (whileN cond f k s : Out ε S1 L R) = whileN cond f n s0, ⟨n, s0, G, cs, Same.refl _, d, h0 G (Same.refl _), he, rfl⟩, ?_⟩
  rintro k σ1 H1 ⟨s, G1, cs1, s1, d1, hN, en, eq⟩
  refine hc s σ1 G1 cs1 s1 hN G1 H1 (Same.refl _) d1 _ fun G2 H2 s2 d2 => ?_
  have sG : Same G G2 := s1.trans s2
  cases hk : cond s with
  | false =>
    rw [whileN_false hk] at eq
    rw [if_neg Bool.false_ne_true]
    rw [← eq] at w
    exact hr s σ1 G1 G2 cs1 s1 hN s2 eq.symm H2 d2 E (Wish.up (show Wish W G Φ E (g s) from w) sG)
  | true =>
    rw [if_pos rfl]
    cases k with
    | zero =>
      have : cond s = false := en
      rw [hk] at this
      cases this
    | succ k =>
      rw [whileN_true hk] at eq
      refine ⟨fun σ' H' => ∃ m', m' < k + 1 ∧ ∃ s G1 cs1, Same G G1 ∧ Desc G1 cs1 H' ∧ N s σ' G1 cs1 ∧ Ends cond f m' s ∧ (whileN cond f m' s : Out ε S1 L R) = whileN cond f n s0, fun σ' H' h => h, ?_⟩
      refine hb s σ1 G1 G2 cs1 s1 hN s2 hk H2 d2 _ ?_
      cases hm : f s with
      | nx s' => exact fun σ4 G4 cs4 H4 s4 d4 p4 => ⟨k, Nat.lt_succ_self k, s', G4, cs4, sG.trans s4, d4, p4, en hk s' (.inl hm), by rw [hm] at eq; exact eq⟩
      | ct s' => exact fun σ4 G4 cs4 H4 s4 d4 p4 => ⟨k, Nat.lt_succ_self k, s', G4, cs4, sG.trans s4, d4, p4, en hk s' (.inr hm), by rw [hm] at eq; exact eq⟩
      | bk s' =>
        rw [hm] at eq
        rw [← eq] at w
        exact fun σ4 G4 cs4 H4 s4 d4 p4 => hr s' σ4 G4 G4 cs4 (sG.trans s4) p4 (Same.refl _) eq.symm H4 d4 E (Wish.up (show Wish W G Φ E (g s') from w) (sG.trans s4))
      | rt r =>
        rw [hm] at eq
        rw [← eq] at w
        exact fun v4 G4 cs4 H4 s4 d4 p4 => w v4 G4 cs4 H4 (sG.trans s4) d4 p4
      | er e =>
        rw [hm] at eq
        rw [← eq] at w
        exact fun σ4 G4 cs4 H4 s4 d4 p4 => w σ4 G4 cs4 H4 (sG.trans s4) d4 p4
end
/-! ### tuples of one kind of items -/
class HomT {α : Type} {β : outParam Type} (r : α → Hp → List V → Prop) (q : outParam (β → Hp → V → Prop)) where
  toL : α → List β
  rs : ∀ {x G vs}, r x G vs → Rs q G (toL x) vs
instance {β : Type} (q : β → Hp → V → Prop) : HomT (c0 q) q where
  toL x := [x]
  rs := fun ⟨_, e, h⟩ => by
    rw [e]
    exact .cons h .nil
instance {α β : Type} (q : β → Hp → V → Prop) (r : α → Hp → List V → Prop) [h : HomT r q] : HomT (cc q r) q where
  toL x := x.1 :: h.toL x.2
  rs := fun ⟨_, _, e, h1, h2⟩ => by
    rw [e]
    exact .cons h1 (h.rs h2)
class LenT {α : Type} (r : α → Hp → List V → Prop) (n : outParam Nat) : Prop where
  len : ∀ {x G vs}, r x G vs → vs.length = n
instance {β : Type} (q : β → Hp → V → Prop) : LenT (c0 q) 1 := ⟨fun ⟨_, e, _⟩ => by rw [e]; rfl⟩
instance {α β : Type} (q : β → Hp → V → Prop) (r : α → Hp → List V → Prop) {n : Nat} [h : LenT r n] : LenT (cc q r) (n + 1) := ⟨fun ⟨_, _, e, _, h2⟩ => by rw [e, List.length_cons, h.len h2]⟩
section
variable {X : Cx} {σ : L2.St} {G : Hp} {cs : Cells} {a : Expr} {pos p : Pos}
theorem d_homT {α β : Type} {r : α → Hp → List V → Prop} {q : β → Hp → V → Prop} [h : HomT r q] {x : α} (ha : D X a σ G cs (rT X.K r x)) : D X a σ G cs (rU X.K q (h.toL x)) := ha.imp fun G v ⟨l, vs, e, hl, hr⟩ => ⟨l, vs, e, hl, h.rs hr⟩
theorem d_lenT {α : Type} {r : α → Hp → List V → Prop} {n : Nat} [h : LenT r n] [∀ x, MonoA (r x)] {y : α} {x : Str} (hm : X.mg x = none) (ha : D X a σ G cs (rT X.K r y)) (hg : Gl X x := by rfl) (hv : bootBuiltins x = some (.builtin "len") := by first | exact PySem.boot_len | decide +kernel) (hn : x ≠ "__name__" := by decide) (hd : (x == ("__debug__" : Str)) = false := by decide)
    (he : starEach [a] X.env = (false, eval a X.env) :: starEach [] X.env := by rfl) (hpl : (backTo pos (starEach [] X.env)).any (·.1) = false := by rfl) : D X (.Call (.Name x p) [a] [] pos) σ G cs (rI (n : Int)) :=
  d_callB call_len hm (a_cons ha a_nil he) (fun G1 H vs s d hvs Q q => by
    obtain ⟨v, ws, e1, h1, h2⟩ := hvs
    cases h2
    obtain ⟨l, us, e, hl, hr⟩ := h1
    subst e
    exact ⟨_, n, e1, .inr ⟨us, seqT d.same hl, (h.len hr).symm⟩, q G1 H _ (Same.refl _) d rfl⟩) hg hv hn hd he hpl
end
end J

namespace J
open PySem L2 PyProof.Rows
section
variable {X : Cx} {σ : L2.St} {G : Hp} {cs : Cells} {a b e : Expr} {pos p : Pos}
theorem d_intB {x : Str} {k : Bool} (hm : X.mg x = none) (ha : D X a σ G cs (rB k)) (hg : Gl X x := by rfl) (hv : bootBuiltins x = some (.type "int") := by decide +kernel) (hn : x ≠ "__name__" := by decide) (hd : (x == ("__debug__" : Str)) = false := by decide)
    (he : starEach [a] X.env = (false, eval a X.env) :: starEach [] X.env := by rfl) (hpl : (backTo pos (starEach [] X.env)).any (·.1) = false := by rfl) : D X (.Call (.Name x p) [a] [] pos) σ G cs (rI (if k then 1 else 0)) :=
  d_callTy call_int1 hm (a_cons ha a_nil he) (fun G1 H vs s d hvs Q q => by
    obtain ⟨v, ws, e1, h1, h2⟩ := hvs
    cases h2
    cases h1
    exact .inr ⟨k, e1, q G1 H _ (Same.refl _) d rfl⟩) hg hv hn hd he hpl
/-! ### isinstance of one of two kinds -/
def kSum {α β : Type} (k k' : Bool) : α ⊕ β → Bool
  | .inl _ => k
  | .inr _ => k'
theorem d_isiS {α β : Type} {r : α → Hp → V → Prop} {r' : β → Hp → V → Prop} {x : α ⊕ β} {t t' u : String} {y : Str} {k k' : Bool} {py : Pos} [h : HasTy X.K r t] [h' : HasTy X.K r' t'] [∀ x, Mono (r x)] [∀ x, Mono (r' x)] (hm : X.mg "isinstance" = none) (hmy : X.mg y = none) (ha : D X a σ G cs (rSum r r' x)) (hk : kitB t u = some k := by decide +kernel) (hk' : kitB t' u = some k' := by decide +kernel)
    (hy : bootBuiltins y = some (.type u) := by decide +kernel) (hg : Gl X "isinstance" := by rfl) (hgy : Gl X y := by rfl) (hny : y ≠ "__name__" := by decide) (hdy : (y == ("__debug__" : Str)) = false := by decide)
    (hst : starEach [a, .Name y py] X.env = (false, eval a X.env) :: starEach [.Name y py] X.env := by rfl) (hst2 : starEach [.Name y py] X.env = (false, eval (.Name y py) X.env) :: starEach [] X.env := by rfl)
    (hpl : (backTo pos (starEach [.Name y py] X.env)).any (·.1) = false := by rfl) : D X (.Call (.Name "isinstance" p) [a, .Name y py] [] pos) σ G cs (rB (kSum k k' x)) := by
  cases x with
  | inl x => exact d_isi (r := r) (x := x) hm hmy ha hk hy hg hgy hny hdy hst hst2 hpl
  | inr x => exact d_isi (r := r') (x := x) hm hmy ha hk' hy hg hgy hny hdy hst hst2 hpl
/-! ### two kinds that are never equal -/
class NeR {α β : Type} (K : PySem.W.Frag) (r : α → Hp → V → Prop) (r' : β → Hp → V → Prop) [q : EqR K r] [q' : EqR K r'] : Prop where
  ne : ∀ x y, PyData.eqv (q.toD x) (q'.toD y) = false ∧ PyData.eqv (q'.toD y) (q.toD x) = false
instance (K : PySem.W.Frag) : NeR K rB rS := ⟨fun x y => by constructor <;> (show PyData.eqv _ _ = false; unfold PyData.eqv; rfl)⟩
instance (K : PySem.W.Frag) {α : Type} (r : α → Hp → V → Prop) [EqR K r] : NeR K rB (rL K r) := ⟨fun x y => by constructor <;> (show PyData.eqv _ _ = false; unfold PyData.eqv; rfl)⟩
instance (K : PySem.W.Frag) {α : Type} (r : α → Hp → V → Prop) [EqR K r] : NeR K rI (rL K r) := ⟨fun x y => by constructor <;> (show PyData.eqv _ _ = false; unfold PyData.eqv; rfl)⟩
instance (K : PySem.W.Frag) {α : Type} (r : α → Hp → V → Prop) [EqR K r] : NeR K rS (rL K r) := ⟨fun x y => by constructor <;> (show PyData.eqv _ _ = false; unfold PyData.eqv; rfl)⟩
instance (K : PySem.W.Frag) {α β : Type} (r : α → Hp → V → Prop) (r' : β → Hp → V → Prop) [q : EqR K r] [q' : EqR K r'] [n : NeR K r r'] : EqR K (rSum r r') where
  toD x := match x with
    | .inl i => q.toD i
    | .inr l => q'.toD l
  ok x := match x with
    | .inl i => q.ok i
    | .inr l => q'.ok l
  dep := max q.dep q'.dep
  dp {x} _ _ _ h s := by
    cases x with
    | inl i => exact q.dp h s
    | inr l => exact q'.dp h s
  lay {x} h := by
    cases x with
    | inl i => exact q.lay h
    | inr l => exact q'.lay h
  deep x := by
    cases x with
    | inl i => exact Nat.le_trans (q.deep i) (Nat.le_max_left _ _)
    | inr l => exact Nat.le_trans (q'.deep l) (Nat.le_max_right _ _)
  eqv x y := by
    cases x with
    | inl x =>
      cases y with
      | inl y => exact (q.eqv x y).trans ⟨fun h => by rw [h], fun h => by cases h; rfl⟩
      | inr y => exact ⟨fun h => (by rw [(n.ne x y).1] at h; cases h), fun h => nomatch h⟩
    | inr x =>
      cases y with
      | inl y => exact ⟨fun h => (by rw [(n.ne y x).2] at h; cases h), fun h => nomatch h⟩
      | inr y => exact (q'.eqv x y).trans ⟨fun h => by rw [h], fun h => by cases h; rfl⟩
/-! ### order of data -/
def rCmpD (K : PySem.W.Frag) (f : PyData → PyData → Bool) : R2 := fun x y H Q => ∃ d e, Dp K H x d ∧ Dp K H y e ∧ PySem.W.alike d e = true ∧ d ≠ .none ∧ d.depth ≤ 64 ∧ Q (.bl (f d e)) H
theorem op_ltD (hu : X.A.units + 64 < cLine) : OpR X (compareOp .Lt) (rCmpD X.K fun d e => PySem.W.dataLt d e) := by
  intro pins s σ H x y v u Q I rx ry h
  obtain ⟨d, e, hd, he, ha, hn, hz, q⟩ := h
  obtain ⟨as, r1⟩ := Dp.reads I d x v hd rx
  obtain ⟨bs, r2⟩ := Dp.reads I e y u he ry
  exact PySem.W.lt_data r1 r2 ha hn (by omega) ⟨.bl _, H, I, rfl, q⟩
theorem op_gtD (hu : X.A.units + 64 < cLine) : OpR X (compareOp .Gt) (rCmpD X.K fun d e => PySem.W.dataLt e d) := by
  intro pins s σ H x y v u Q I rx ry h
  obtain ⟨d, e, hd, he, ha, hn, hz, q⟩ := h
  obtain ⟨as, r1⟩ := Dp.reads I d x v hd rx
  obtain ⟨bs, r2⟩ := Dp.reads I e y u he ry
  exact PySem.W.gt_data r1 r2 ha hn (by omega) ⟨.bl _, H, I, rfl, q⟩
theorem op_leD (hu : X.A.units + 64 < cLine) : OpR X (compareOp .LtE) (rCmpD X.K fun d e => !PySem.W.dataLt e d) := by
  intro pins s σ H x y v u Q I rx ry h
  obtain ⟨d, e, hd, he, ha, hn, hz, q⟩ := h
  obtain ⟨as, r1⟩ := Dp.reads I d x v hd rx
  obtain ⟨bs, r2⟩ := Dp.reads I e y u he ry
  exact PySem.W.le_data r1 r2 ha hn (by omega) ⟨.bl _, H, I, rfl, q⟩
theorem op_geD (hu : X.A.units + 64 < cLine) : OpR X (compareOp .GtE) (rCmpD X.K fun d e => !PySem.W.dataLt d e) := by
  intro pins s σ H x y v u Q I rx ry h
  obtain ⟨d, e, hd, he, ha, hn, hz, q⟩ := h
  obtain ⟨as, r1⟩ := Dp.reads I d x v hd rx
  obtain ⟨bs, r2⟩ := Dp.reads I e y u he ry
  exact PySem.W.ge_data r1 r2 ha hn (by omega) ⟨.bl _, H, I, rfl, q⟩
end
theorem rm64 {k : Nat} {A : Around} (hr : Room k A) : A.units + 64 < cLine := Nat.lt_of_le_of_lt (by omega) hr.un
/-- order of plain data: any two of a kind are alike -/
class OrdR {α : Type} (K : PySem.W.Frag) (r : α → Hp → V → Prop) where
  toD : α → PyData
  dep : Nat
  dp : ∀ {x G H v}, r x G v → Same G H → Dp K H v (toD x)
  alike : ∀ x y, PySem.W.alike (toD x) (toD y) = true
  nn : ∀ x, toD x ≠ .none
  deep : ∀ x, (toD x).depth ≤ dep
instance (K : PySem.W.Frag) : OrdR K rI where
  toD := .int
  dep := 1
  dp h _ := by cases h; exact .int _
  alike _ _ := by unfold PySem.W.alike; rfl
  nn _ h := nomatch h
  deep x := by unfold PyData.depth; omega
/-- of lists of whole numbers: the first one that differs, or the shorter one -/
def ltI (xs ys : List Int) : Bool := PySem.W.dataLt (.list (xs.map .int)) (.list (ys.map .int))
theorem alikeInts : ∀ xs ys : List Int, PySem.W.alikeAll (xs.map .int) (ys.map .int) = true
  | [], ys => by rw [List.map_nil]; unfold PySem.W.alikeAll; rfl
  | x :: xs, [] => by rw [List.map_nil, List.map_cons]; unfold PySem.W.alikeAll; rfl
  | x :: xs, y :: ys => by
    rw [List.map_cons, List.map_cons]
    unfold PySem.W.alikeAll PySem.W.alike
    rw [alikeInts xs ys]
    rfl
section
variable {X : Cx} {σ : L2.St} {G : Hp} {cs : Cells} {a b e : Expr} {pos p : Pos} {xs ys : List Int} {G1 H : Hp} {x y : V} {Q : VK}
theorem c_ints {f : PyData → PyData → Bool} (hx : rL X.K rI xs G1 x) (hy : rL X.K rI ys G1 y) (s : Same G1 H) (q : Q (.bl (f (.list (xs.map .int)) (.list (ys.map .int)))) H) : rCmpD X.K f x y H Q := by
  have d1 := (inferInstance : EqR X.K (rL X.K rI)).dp hx s
  have d2 := (inferInstance : EqR X.K (rL X.K rI)).dp hy s
  refine ⟨.list (xs.map .int), .list (ys.map .int), d1, d2, ?_, fun z => (by cases z), ?_, q⟩
  · unfold PySem.W.alike
    exact alikeInts xs ys
  · have := (inferInstance : EqR X.K (rL X.K rI)).deep xs
    exact Nat.le_trans this (by exact Nat.le_of_ble_eq_true rfl)
/-- a list all of whose items are of the first kind -/
def unL {α β : Type} [Inhabited α] (x : α ⊕ β) : α := match x with
  | .inl y => y
  | .inr _ => default
def isL {α β : Type} (x : α ⊕ β) : Bool := match x with
  | .inl _ => true
  | .inr _ => false
theorem rs_unL {α β : Type} [Inhabited α] {r : α → Hp → V → Prop} {r' : β → Hp → V → Prop} : ∀ {xs : List (α ⊕ β)} {vs : List V}, xs.all isL = true → Rs (rSum r r') G xs vs → Rs r G (xs.map unL) vs
  | _, _, _, .nil => .nil
  | x :: _, _, ha, .cons h t => by
    rw [List.all_cons, Bool.and_eq_true] at ha
    cases x with
    | inl x => exact .cons h (rs_unL ha.2 t)
    | inr x => cases ha.1
theorem d_unL {α β : Type} [Inhabited α] {r : α → Hp → V → Prop} {r' : β → Hp → V → Prop} {xs : List (α ⊕ β)} (ha : D X a σ G cs (rL X.K (rSum r r') xs)) (h : xs.all isL = true) : D X a σ G cs (rL X.K r (xs.map unL)) :=
  ha.imp fun G v ⟨l, vs, e, hl, hr⟩ => ⟨l, vs, e, hl, rs_unL h hr⟩
def unR {α β : Type} [Inhabited β] (x : α ⊕ β) : β := match x with
  | .inl _ => default
  | .inr y => y
def isR {α β : Type} (x : α ⊕ β) : Bool := match x with
  | .inl _ => false
  | .inr _ => true
theorem d_unl {α β : Type} [Inhabited α] {r : α → Hp → V → Prop} {r' : β → Hp → V → Prop} {x : α ⊕ β} (ha : D X a σ G cs (rSum r r' x)) (h : isL x = true) : D X a σ G cs (r (unL x)) := by
  cases x with
  | inl x => exact ha
  | inr x => cases h
theorem d_unr {α β : Type} [Inhabited β] {r : α → Hp → V → Prop} {r' : β → Hp → V → Prop} {x : α ⊕ β} (ha : D X a σ G cs (rSum r r' x)) (h : isR x = true) : D X a σ G cs (r' (unR x)) := by
  cases x with
  | inl x => cases h
  | inr x => exact ha
/-! ### slices of tuples: the first n places -/
def Tk (R : Hp → List V → Prop) (n m : Nat) (P : Hp → List V → Prop) : Prop := ∀ G vs, R G vs → vs.length = m ∧ P G (vs.take n)
theorem tk_1 {α β : Type} {r : α → Hp → V → Prop} {r' : β → Hp → List V → Prop} {m : Nat} [h : LenT r' m] {x : α × β} : Tk (cc r r' x) 1 (m + 1) (c0 r x.1) := fun G vs ⟨v, ws, e, h1, h2⟩ => by
  rw [e]
  exact ⟨by rw [List.length_cons, h.len h2], v, rfl, h1⟩
theorem tk_c {α β γ : Type} {r : α → Hp → V → Prop} {r' : β → Hp → List V → Prop} {r2 : γ → Hp → List V → Prop} {n m : Nat} {x : α × β} {y : γ} (h : Tk (r' x.2) n m (r2 y)) : Tk (cc r r' x) (n + 1) (m + 1) (cc r r2 (x.1, y)) := fun G vs ⟨v, ws, e, h1, h2⟩ => by
  obtain ⟨k1, k2⟩ := h G ws h2
  rw [e]
  exact ⟨by rw [List.length_cons, k1], v, ws.take n, rfl, h1, k2⟩
theorem d_slT {α γ : Type} {r : α → Hp → List V → Prop} {r2 : γ → Hp → List V → Prop} [∀ x, MonoA (r x)] [∀ x, MonoA (r2 x)] {x : α} {y : γ} {n m : Nat} {hi : Option Expr} {p2 : Pos} (ha : D X a σ G cs (rT X.K r x)) (hu : DO X hi σ G cs (some (n : Int))) (ht : Tk (r x) n m (r2 y)) (hn : n < m := by decide) : D X (.Subscript a (.Slice none hi none p2) pos) σ G cs (rT X.K r2 y) :=
  d_by (pe_slice sl_tup (sE X a) (sO none) (sO hi)) fun G1 H s d Q q => ha G1 H s d _ fun G2 H2 v s2 d2 hv => do_none (X := X) (σ := σ) (cs := cs) G2 H2 (s.trans s2) d2 _ fun G3 H3 s3 d3 => hu G3 H3 ((s.trans s2).trans s3) d3 _ fun G4 H4 s4 d4 => by
    obtain ⟨l, vs, e, hl, hr⟩ := Mono.mono (s3.trans s4) hv
    obtain ⟨k1, k2⟩ := ht G4 vs hr
    have e0 : HT.sIx vs.length 0 none = 0 := HT.sIx_none _ _
    have e1 : HT.sIx vs.length vs.length (some (n : Int)) = n := by rw [HT.sIx_nat]; omega
    refine ⟨l, vs, e, seqT d4.same hl, by rw [e0, e1]; omega, fun p hp => ?_⟩
    have ec : cutV vs none (some (n : Int)) = vs.take n := by
      unfold cutV
      rw [e0, e1]
      rfl
    rw [ec]
    have sf : Same G4 (upd G4 p (.tup (vs.take n))) := Same.fresh d4.same hp _
    exact q _ _ _ (((s2.trans s3).trans s4).trans sf) (d4.new hp _) ⟨p, vs.take n, rfl, SqT.of upd_same, MonoA.mono sf k2⟩
end
section
variable {n : Nat} {adr : Fin n → Addr} {S L R : Type} {X : Cx} {Wx : WX} {σ : L2.St} {G : Hp} {cs : Cells} {rest : List Stmt} {e tg : Expr} {pos p : Pos} {Φ : Po (Fin n) S L R} {O : Type} {P : O → Hp → V → Prop} {m : Except (Fin n) O}
/-- a, b = f(..) that may raise -/
theorem b_asgE {g : O → Out (Fin n) S L R} {Sx : O → Hp → L2.St → L2.St → Prop} (he : DE X adr Wx e σ G cs P m) (ht : Tg X tg P Sx) (kr : ∀ k, m = .error k → ∀ G1, Same G G1 → Φ.er k σ G1 cs)
    (k : ∀ o, m = .ok o → ∀ σ' G1, Same G G1 → Sx o G1 σ σ' → B X (wE2 adr Wx) rest σ' G1 cs Φ (g o))
    (hs : swapsWithSole [tg] e pos.line X.env = pure false := by rfl) (hw : swappedStores [tg] e X.env = pure none := by rfl) (h1 : (assignEach [tg] X.env).map (·.2) = [assign tg X.env] := by rfl) : B X (wE2 adr Wx) (.Assign [tg] e pos :: rest) σ G cs Φ (callE m g) := by
  obtain ⟨gt, hg, h2⟩ := ht
  refine b_cons (ps_asg (sE X e) hg hs hw (h1 := h1)) fun H d E w => he G H (Same.refl _) d _ ?_
  cases hm : m with
  | ok o =>
    rw [hm] at w
    exact fun G2 H2 v s2 d2 hv => h2 o v G2 cs H2 σ hv d2 _ fun σ' hS => k o hm σ' G2 s2 hS H2 d2 E (Wish.up (m := g o) w s2)
  | error c =>
    rw [hm] at w
    exact fun G2 H2 s2 d2 => w σ G2 cs H2 s2 d2 (kr c hm G2 s2)
end
section
variable {n : Nat} {adr : Fin n → Addr} {X : Cx} {Wx : WX} {σ : L2.St} {G : Hp} {cs : Cells} {a b : Expr} {rest : List Expr} {pos : Pos} {O : Type} {m : Except (Fin n) O}
theorem de_callQ {I O : Type} {pre : I → Hp → List V → Prop} {r : I → O → Hp → V → Prop} {m : I → Except (Fin n) O} {P : O → Hp → V → Prop} {e : Expr} {es : List Expr} {p : Pos} {k j a : Nat} {x : Str} {Ps : Hp → List V → Prop} (i : I) (F : Fn0 X.prog X.w X.K X.mg X.base (L2.CX X.prog X.w) k x a (SpE (cE adr) pre r m)) (tk : Takes X Wx) (hr : Room j X.A) (hk : k ≤ j)
    (ha : A X (e :: es) σ G cs Ps) (hp : ∀ G1 vs, Same G G1 → Ps G1 vs → pre i G1 vs) (hP : ∀ o G v, r i o G v → P o G v) {mm : Except (Fin n) O} (hmm : m i = mm := by rfl) (hg : Gl X x := by rfl) (hd : (x == ("__debug__" : Str)) = false := by decide)
    (he : starEach (e :: es) X.env = (false, eval e X.env) :: starEach es X.env := by exact star_plain rfl) (hpl : (backTo pos (starEach es X.env)).any (·.1) = false := by rfl) : DE X adr Wx (.Call (.Name x p) (e :: es) [] pos) σ G cs P mm := by
  subst hmm
  exact (de_call i F tk hr hk ha hp hg hd he hpl).imp hP
/-- a call that may raise, ahead in a comparison, in an and -/
theorem de_cmp {op : CmpOp} {r : R2} {Pa : O → Hp → V → Prop} {Pb : Hp → V → Prop} {k : O → Bool} [∀ o, Mono (Pa o)] (ho : OpR X (compareOp op) r) (hm : behindInMarks op b = false) (ha : DE X adr Wx a σ G cs Pa m) (hb : D X b σ G cs Pb)
    (hr : ∀ o G1 H x y, Same G G1 → Desc G1 cs H → Pa o G1 x → Pb G1 y → ∀ Q : VK, Q (.bl (k o)) H → r x y H Q) : DE X adr Wx (.Compare a [op] [b] pos) σ G cs (fun o => rB (k o)) m := fun G1 H s d Q q =>
  uE (pe_cmpR ho (sE X a) (sE X b) hm) (ha G1 H s d _ (by
    cases hk : m with
    | ok o =>
      rw [hk] at q
      exact fun G2 H2 x s2 d2 hx => hb G2 H2 (s.trans s2) d2 _ fun G3 H3 y s3 d3 hy => hr o G3 H3 x y ((s.trans s2).trans s3) d3 (Mono.mono s3 hx) hy Q (q G3 H3 _ (s2.trans s3) d3 rfl)
    | error c =>
      rw [hk] at q
      exact q))
theorem de_and {k k' : O → Bool} (h : DE X adr Wx a σ G cs (fun o => rB (k o)) m) (h' : ∀ o, k o = true → D X (.BoolOp .And (b :: rest) pos) σ G cs (rB (k' o))) : DE X adr Wx (.BoolOp .And (a :: b :: rest) pos) σ G cs (fun o => rB (k o && k' o)) m := fun G1 H s d Q q =>
  uE (pe_and (sE X a) (sE X _)) (h G1 H s d _ (by
    cases hk : m with
    | ok o =>
      rw [hk] at q
      refine fun G2 H2 v s2 d2 hv => ⟨k o, hv, ?_⟩
      cases hko : k o with
      | false => exact iteF (q G2 H2 _ s2 d2 (by show _ = V.bl (k o && k' o); rw [hko]; rfl))
      | true => exact iteT (h' o hko G2 H2 (s.trans s2) d2 Q fun G3 H3 w s3 d3 hw => q G3 H3 w (s2.trans s3) d3 (by show _ = V.bl (k o && k' o); rw [hko]; exact hw))
    | error c =>
      rw [hk] at q
      exact q))
end
section
variable {ε S L R : Type} {X : Cx} {W : ε → L2.St → Hp → Prop} {σ : L2.St} {G : Hp} {cs : Cells} {Φ : Po ε S L R} {m : Out ε S L R} {rest : List Stmt} {e o i : Expr} {P : Hp → V → Prop} {pos p : Pos}
/-- xs[i] = e, xs the cell at k -/
theorem b_put (k : Nat) {l : Addr} {vs : List V} {z : Int} {j : Nat} (hk : cs[k]? = some (l, .lst vs)) (he : D X e σ G cs P) (ho : D X o σ G cs (rV (.ref l))) (hi : D X i σ G cs (rI z)) (hj : ixN vs.length z = some j)
    (q : ∀ v G1, Same G G1 → P G1 v → B X W rest σ G1 (cs.set k (l, .lst (vs.set j v))) Φ m) [Mono P]
    (ha : ∀ v, assign (.Subscript o i p) X.env v = (do
      let ov ← holding [v] (eval o X.env)
      let iv ← holding [v, ov] (eval i X.env)
      standAt p
      holding [v, ov, iv] (setItem ov iv v)
      release [v, ov, iv] []) := by intro _; rfl)
    (hs : swapsWithSole [.Subscript o i p] e pos.line X.env = pure false := by rfl) (hw : swappedStores [.Subscript o i p] e X.env = pure none := by rfl) (h1 : (assignEach [.Subscript o i p] X.env).map (·.2) = [assign (.Subscript o i p) X.env] := by rfl) :
    B X W (.Assign [.Subscript o i p] e pos :: rest) σ G cs Φ m :=
  b_cons (ps_asg (sE X e) (pg_sub (sE X o) (sE X i) set_list ha) hs hw (h1 := h1)) fun H d E w => he G H (Same.refl _) d _ fun G2 H2 v s2 d2 hv =>
    ho G2 H2 s2 d2 _ fun G3 H3 u s3 d3 hu => hi G3 H3 (s2.trans s3) d3 _ fun G4 H4 y s4 d4 hy => by
      have eu : u = .ref l := hu
      have ey : y = .int z := hy
      subst eu ey
      exact ⟨l, vs, z, j, rfl, rfl, d4.at_ (List.mem_of_getElem? hk), hj, q v G4 ((s2.trans s3).trans s4) (Mono.mono (s3.trans s4) hv) _ (d4.write hk _) E (w.up ((s2.trans s3).trans s4))⟩
end
/-- xs with its place i changed -/
def putL {α : Type} (xs : List α) (i : Int) (x : α) : List α := xs.set ((ixN xs.length i).getD 0) x
theorem putL_len {α : Type} (xs : List α) (i : Int) (x : α) : (putL xs i x).length = xs.length := by
  unfold putL
  rw [List.length_set]
theorem ixN_ok {n : Nat} {i : Int} (h : -(n : Int) ≤ i ∧ i < (n : Int)) : ixN n i = some ((ixN n i).getD 0) := by
  unfold ixN
  by_cases h0 : 0 ≤ i
  · rw [if_pos h0, if_pos h.2]
    rfl
  · rw [if_neg h0, if_pos h.1]
    rfl
theorem Rs.put {α : Type} {r : α → Hp → V → Prop} {G : Hp} {xs : List α} {vs : List V} {x : α} {v : V} (hx : r x G v) (h : Rs r G xs vs) (i : Int) : Rs r G (putL xs i x) (vs.set ((ixN vs.length i).getD 0) v) := by
  unfold putL
  rw [h.length]
  exact Rs.set hx _ h
end J

namespace J
open PySem L2 PyProof.Rows
/-- a text's signs -/
def tlS (x : Str) : List Nat := x.cps.toList
theorem S_tlS (x : Str) : SX.S (tlS x) = x := SX.S_tl x
def zfL (z : List Nat) (n : Int) : List Nat := tlS (Txt.zfill (SX.S z) n)
def ljL (z : List Nat) (n : Int) (w : List Nat) : List Nat := tlS (Txt.ljustF (SX.S z) n ((SX.S w).cps.getD 0 0))
def digB (z : List Nat) : Bool := Txt.isdigit (SX.S z)
def findL (z w : List Nat) : Int := Txt.find (SX.S z) (SX.S w)
def partL (z w : List Nat) : List Nat × List Nat × List Nat := (tlS (Txt.partition (SX.S z) (SX.S w)).1, tlS (Txt.partition (SX.S z) (SX.S w)).2.1, tlS (Txt.partition (SX.S z) (SX.S w)).2.2)
def splL (z w : List Nat) : List (List Nat) := (Txt.split (SX.S z) (SX.S w)).map tlS
def joiL (z : List Nat) (ws : List (List Nat)) : List Nat := tlS (Txt.join (SX.S z) (ws.map SX.S))
def numT (z : List Nat) : Int := (PySem.intText? (SX.S z)).getD 0
/-- a number that is not negative, written -/
def decL (i : Int) : List Nat := TL.numL i.toNat
theorem rs_str {G : Hp} {xs : List (List Nat)} {vs : List V} (h : Rs rS G xs vs) : vs = (xs.map SX.S).map V.str := by
  rw [List.map_map]
  exact h.map fun _ _ e => e
theorem rs_tlS {G : Hp} (ys : List Str) : Rs rS G (ys.map tlS) (ys.map V.str) := by
  induction ys with
  | nil => exact .nil
  | cons y ys ih => exact .cons (show V.str y = V.str (SX.S (tlS y)) by rw [S_tlS]) ih
section
variable {X : Cx} {σ : L2.St} {G : Hp} {cs : Cells} {o a b e : Expr} {es : List Expr} {pos p : Pos} {z w : List Nat} {n : Int} {apos : Pos}
theorem d_zfill (ho : D X o σ G cs (rS z)) (he : D X e σ G cs (rI n)) (hp : PadOk n = true) (hs : starEach [e] X.env = [(false, eval e X.env)] := by rfl) (hbase : attributeBase o "zfill" X.env (eval o X.env) = eval o X.env := by rfl) (hline : (apos.endLine == pos.line) = true := by rfl) :
    D X (.Call (.Attribute o "zfill" apos) [e] [] pos) σ G cs (rS (zfL z n)) :=
  d_by (pe_m1 PySem.F.slot_str_zfill PySem.F.type_str_zfill mt_zfill (sE X o) (sE X e) hs hbase hline) fun G1 H s d Q q => ho G1 H s d _ fun G2 H2 u s2 d2 hu => ⟨⟨_, hu⟩, he G2 H2 (s.trans s2) d2 _ fun G3 H3 v s3 d3 hv => by
    refine ⟨SX.S z, n, hu, by rw [show v = .int n from hv], hp, q G3 H3 _ (s2.trans s3) d3 ?_⟩
    show _ = V.str (SX.S (zfL z n))
    unfold zfL
    rw [S_tlS]⟩
theorem d_isdigit (ho : D X o σ G cs (rS z)) (hbase : attributeBase o "isdigit" X.env (eval o X.env) = eval o X.env := by rfl) (hline : (apos.endLine == pos.line) = true := by rfl) : D X (.Call (.Attribute o "isdigit" apos) [] [] pos) σ G cs (rB (digB z)) :=
  d_by (pe_m0 PySem.F.slot_str_isdigit PySem.F.type_str_isdigit mt_isdigit (sE X o) hbase hline) fun G1 H s d Q q => ho G1 H s d _ fun G2 H2 u s2 d2 hu => ⟨⟨_, hu⟩, SX.S z, hu, rfl, trivial, q G2 H2 _ s2 d2 rfl⟩
theorem d_find (ho : D X o σ G cs (rS z)) (he : D X e σ G cs (rS w)) (hs : starEach [e] X.env = [(false, eval e X.env)] := by rfl) (hbase : attributeBase o "find" X.env (eval o X.env) = eval o X.env := by rfl) (hline : (apos.endLine == pos.line) = true := by rfl) :
    D X (.Call (.Attribute o "find" apos) [e] [] pos) σ G cs (rI (findL z w)) :=
  d_by (pe_m1 PySem.F.slot_str_find PySem.F.type_str_find mt_find (sE X o) (sE X e) hs hbase hline) fun G1 H s d Q q => ho G1 H s d _ fun G2 H2 u s2 d2 hu => ⟨⟨_, hu⟩, he G2 H2 (s.trans s2) d2 _ fun G3 H3 v s3 d3 hv =>
    ⟨SX.S z, SX.S w, hu, by rw [show v = .str (SX.S w) from hv], q G3 H3 _ (s2.trans s3) d3 rfl⟩⟩
theorem d_part (ho : D X o σ G cs (rS z)) (he : D X e σ G cs (rS w)) (hw : (w.length == 0) = false) (hz : z.length ≤ sizeLine) (hs : starEach [e] X.env = [(false, eval e X.env)] := by rfl) (hbase : attributeBase o "partition" X.env (eval o X.env) = eval o X.env := by rfl) (hline : (apos.endLine == pos.line) = true := by rfl) :
    D X (.Call (.Attribute o "partition" apos) [e] [] pos) σ G cs (rT X.K (cc rS (cc rS (c0 rS))) (partL z w)) :=
  d_by (pe_partition (sE X o) (sE X e) hs hbase hline) fun G1 H s d Q q => ho G1 H s d _ fun G2 H2 u s2 d2 hu => ⟨⟨_, hu⟩, he G2 H2 (s.trans s2) d2 _ fun G3 H3 v s3 d3 hv => by
    refine ⟨SX.S z, SX.S w, hu, by rw [show v = .str (SX.S w) from hv], by rw [SX.S_len]; exact hw, by rw [SX.S_len]; exact hz, fun l hl => ?_⟩
    have sf : Same G3 (upd G3 l (.tup [.str (Txt.partition (SX.S z) (SX.S w)).1, .str (Txt.partition (SX.S z) (SX.S w)).2.1, .str (Txt.partition (SX.S z) (SX.S w)).2.2])) := Same.fresh d3.same hl _
    refine q _ _ _ ((s2.trans s3).trans sf) (d3.new hl _) ⟨l, _, rfl, SqT.of upd_same, _, _, rfl, ?_, _, _, rfl, ?_, _, rfl, ?_⟩
    · show _ = V.str (SX.S (partL z w).1)
      unfold partL
      rw [S_tlS]
    · show _ = V.str (SX.S (partL z w).2.1)
      unfold partL
      rw [S_tlS]
    · show _ = V.str (SX.S (partL z w).2.2)
      unfold partL
      rw [S_tlS]⟩
theorem n_split (ho : D X o σ G cs (rS z)) (he : D X e σ G cs (rS w)) (hw : (w.length == 0) = false) (hz : z.length + 2 ≤ sizeLine) (hs : starEach [e] X.env = [(false, eval e X.env)] := by rfl) (hbase : attributeBase o "split" X.env (eval o X.env) = eval o X.env := by rfl) (hline : (apos.endLine == pos.line) = true := by rfl) :
    N X (.Call (.Attribute o "split" apos) [e] [] pos) σ G cs rS (splL z w) := fun G1 H s d Q q =>
  uE (pe_split (sE X o) (sE X e) hs hbase hline) (ho G1 H s d _ fun G2 H2 u s2 d2 hu => ⟨⟨_, hu⟩, he G2 H2 (s.trans s2) d2 _ fun G3 H3 v s3 d3 hv =>
    ⟨SX.S z, SX.S w, hu, by rw [show v = .str (SX.S w) from hv], by rw [SX.S_len]; exact hw, by rw [SX.S_len]; exact hz, fun l hl => q G3 _ l _ (s2.trans s3) (d3.newCell hl _) (rs_tlS _)⟩⟩)
theorem d_join {ws : List (List Nat)} (ho : D X o σ G cs (rS z)) (he : D X e σ G cs (rdL X.K cs rS ws)) (hz : (ws.map List.length).sum + ws.length * z.length ≤ 16777216) (hs : starEach [e] X.env = [(false, eval e X.env)] := by rfl) (hbase : attributeBase o "join" X.env (eval o X.env) = eval o X.env := by rfl) (hline : (apos.endLine == pos.line) = true := by rfl) :
    D X (.Call (.Attribute o "join" apos) [e] [] pos) σ G cs (rS (joiL z ws)) :=
  d_by (pe_join (sE X o) (sE X e) hs hbase hline) fun G1 H s d Q q => ho G1 H s d _ fun G2 H2 u s2 d2 hu => ⟨⟨_, hu⟩, he G2 H2 (s.trans s2) d2 _ fun G3 H3 v s3 d3 hv => by
    obtain ⟨l, vs, e1, hl, hr⟩ := hv.sq d3
    have ev := rs_str hr
    subst ev
    refine ⟨SX.S z, l, ws.map SX.S, hu, by rw [e1], .inl hl, ?_, q G3 H3 _ (s2.trans s3) d3 ?_⟩
    · rw [SX.lens, List.length_map, SX.S_len]
      exact hz
    · show _ = V.str (SX.S (joiL z ws))
      unfold joiL
      rw [S_tlS]⟩
theorem d_strI {x : Str} (hm : X.mg x = none) (ha : D X a σ G cs (rI n)) (h0 : 0 ≤ n) (hb : n < 2 ^ 1000) (hg : Gl X x := by rfl) (hv : bootBuiltins x = some (.type "str") := by decide +kernel) (hn : x ≠ "__name__" := by decide) (hd : (x == ("__debug__" : Str)) = false := by decide)
    (he : starEach [a] X.env = (false, eval a X.env) :: starEach [] X.env := by rfl) (hpl : (backTo pos (starEach [] X.env)).any (·.1) = false := by rfl) : D X (.Call (.Name x p) [a] [] pos) σ G cs (rS (decL n)) :=
  d_callTy call_str_int hm (a_cons ha a_nil he) (fun G1 H vs s d hvs Q q => by
    obtain ⟨v, ws, e1, h1, h2⟩ := hvs
    cases h2
    cases h1
    refine ⟨n, e1, ?_, q G1 H _ (Same.refl _) d ?_⟩
    · by_cases z : n.natAbs = 0
      · rw [z]
        decide
      · exact Nat.lt_trans ((Nat.log2_lt z).mpr (show n.natAbs < 2 ^ 1000 by omega)) (by decide)
    · show _ = V.str (SX.S (decL n))
      unfold decL
      obtain ⟨k, rfl⟩ := Int.eq_ofNat_of_zero_le h0
      exact congrArg V.str (SX.num_S k)) hg hv hn hd he hpl
theorem d_intS {x : Str} (hm : X.mg x = none) (ha : D X a σ G cs (rS z)) (h0 : (PySem.intText? (SX.S z)).isSome = true) (hb : z.length ≤ 640) (hg : Gl X x := by rfl) (hv : bootBuiltins x = some (.type "int") := by decide +kernel) (hn : x ≠ "__name__" := by decide) (hd : (x == ("__debug__" : Str)) = false := by decide)
    (he : starEach [a] X.env = (false, eval a X.env) :: starEach [] X.env := by rfl) (hpl : (backTo pos (starEach [] X.env)).any (·.1) = false := by rfl) : D X (.Call (.Name x p) [a] [] pos) σ G cs (rI (numT z)) :=
  d_callTy call_int_str hm (a_cons ha a_nil he) (fun G1 H vs s d hvs Q q => by
    obtain ⟨v, ws, e1, h1, h2⟩ := hvs
    cases h2
    cases h1
    refine ⟨SX.S z, numT z, e1, ?_, by rw [SX.S_len]; exact hb, q G1 H _ (Same.refl _) d rfl⟩
    unfold numT
    cases hc : PySem.intText? (SX.S z) with
    | none => rw [hc] at h0; cases h0
    | some k => rfl) hg hv hn hd he hpl
theorem d_ord {x : Str} {c : Nat} (hm : X.mg x = none) (ha : D X a σ G cs (rS [c])) (hg : Gl X x := by rfl) (hv : bootBuiltins x = some (.builtin "ord") := by decide +kernel) (hn : x ≠ "__name__" := by decide) (hd : (x == ("__debug__" : Str)) = false := by decide)
    (he : starEach [a] X.env = (false, eval a X.env) :: starEach [] X.env := by rfl) (hpl : (backTo pos (starEach [] X.env)).any (·.1) = false := by rfl) : D X (.Call (.Name x p) [a] [] pos) σ G cs (rI (c : Int)) :=
  d_callB call_ord hm (a_cons ha a_nil he) (fun G1 H vs s d hvs Q q => by
    obtain ⟨v, ws, e1, h1, h2⟩ := hvs
    cases h2
    cases h1
    exact ⟨SX.S [c], e1, rfl, q G1 H _ (Same.refl _) d rfl⟩) hg hv hn hd he hpl
/-! ### texts in texts -/
def inT (z w : List Nat) : Bool := !(Builtin.Str.occurrences (SX.S w) (SX.S z) 0 (SX.S w).length 1).isEmpty
theorem inT_one (c : Nat) (w : List Nat) : inT [c] w = decide (c ∈ w) := SX.in_one w c
theorem d_inT (ha : D X a σ G cs (rS z)) (hb : D X b σ G cs (rS w)) (hm : behindInMarks .In b = false := by rfl) : D X (.Compare a [.In] [b] pos) σ G cs (rB (inT z w)) :=
  d_cmp op_in_str hm ha hb fun G1 H u v s d hu hv Q q => ⟨SX.S z, SX.S w, hu, hv, q⟩
theorem d_ninT (ha : D X a σ G cs (rS z)) (hb : D X b σ G cs (rS w)) (hm : behindInMarks .NotIn b = false := by rfl) : D X (.Compare a [.NotIn] [b] pos) σ G cs (rB (!inT z w)) :=
  d_cmp op_notIn_str hm ha hb fun G1 H u v s d hu hv Q q => ⟨SX.S z, SX.S w, hu, hv, q⟩
theorem t_inT (ha : D X a σ G cs (rS z)) (hb : D X b σ G cs (rS w)) (hm : behindInMarks .In b = false := by rfl) : T X (.Compare a [.In] [b] pos) σ G cs (inT z w) :=
  t_cmp op_in_str hm ha hb fun G1 H u v s d hu hv Q q => ⟨SX.S z, SX.S w, hu, hv, q⟩
theorem t_ninT (ha : D X a σ G cs (rS z)) (hb : D X b σ G cs (rS w)) (hm : behindInMarks .NotIn b = false := by rfl) : T X (.Compare a [.NotIn] [b] pos) σ G cs (!inT z w) :=
  t_cmp op_notIn_str hm ha hb fun G1 H u v s d hu hv Q q => ⟨SX.S z, SX.S w, hu, hv, q⟩
/-! ### order of texts -/
theorem c_leS {H : Hp} {Q : VK} {x y : V} {G1 : Hp} (hx : rS z G1 x) (hy : rS w G1 y) (q : Q (.bl (!decide (w < z))) H) : ∃ i j, x = .str i ∧ y = .str j ∧ Q (.bl (!decide (j.cps.toList < i.cps.toList))) H := ⟨SX.S z, SX.S w, hx, hy, q⟩
/-! ### text times number -/
def repS (z : List Nat) (n : Int) : List Nat := (List.replicate n.toNat z).flatten
theorem foldl_cps : ∀ (k : Nat) (z : List Nat) (acc : Array Nat), ((List.replicate k z.toArray).foldl (· ++ ·) acc) = acc ++ ((List.replicate k z).flatten).toArray
  | 0, z, acc => by simp
  | k + 1, z, acc => by
    rw [List.replicate_succ, List.foldl_cons, foldl_cps k z, List.replicate_succ, List.flatten_cons]
    simp [Array.append_assoc]
theorem repS_len (z : List Nat) (n : Int) : (repS z n).length = n.toNat * z.length := by
  unfold repS
  rw [List.length_flatten, List.map_replicate, List.sum_replicate_nat]
theorem op_repS : OpR X (binaryOp .Mult) (fun x y H Q => ∃ (z : List Nat) (n : Int), x = .str (SX.S z) ∧ y = .int n ∧ -(2 ^ 31) < n ∧ n < 2 ^ 31 ∧ n.toNat * z.length ≤ 16777216 ∧ Q (.str (SX.S (repS z n))) H) := by
  intro pins s σ H x y v u Q I rx ry h
  obtain ⟨z, n, rfl, rfl, h1, h2, h3, q⟩ := h
  obtain ⟨t, rfl⟩ := rx
  obtain ⟨t', rfl⟩ := ry
  have el := SX.S_len z
  have es : ¬ n < 1 → (⟨(List.replicate n.toNat (SX.S z).cps).foldl (· ++ ·) #[]⟩ : Str) = SX.S (repS z n) := fun _ => by
    have e := foldl_cps n.toNat z #[]
    show (⟨(List.replicate n.toNat z.toArray).foldl (· ++ ·) #[]⟩ : Str) = ⟨(repS z n).toArray⟩
    rw [e]
    simp [repS]
  have hl : (SX.S (repS z n)).length ≤ sizeLine := by
    rw [SX.S_len, repS_len, sizeLine_eq]
    exact h3
  refine PySem.P.mul_str (by rw [decide_eq_false (by omega), decide_eq_false (by omega)]; rfl) (fun a _ => ?_) (fun a _ => ?_) ?_
  · rw [el]
    have hz : (z.length : Int) ≤ 16777216 := by
      have : z.length ≤ n.toNat * z.length := Nat.le_mul_of_pos_left _ (by omega)
      omega
    have hd : (4294967296 : Int) ≤ (2 ^ 63 - 1) / n := (Int.le_ediv_iff_mul_le (by omega)).mpr (by omega)
    omega
  · unfold Builtin.Str.tooLong
    rw [el]
    have := sizeLine_eq
    rw [Nat.mul_comm]
    simp
    omega
  · by_cases a : n < 1
    · rw [if_pos a]
      have e : repS z n = [] := by
        unfold repS
        rw [show n.toNat = 0 by omega]
        rfl
      rw [e] at q
      exact ⟨by decide, .str (SX.S []), H, I.tok _, ⟨_, rfl⟩, q⟩
    · rw [if_neg a]
      by_cases b : (n == 1 || (SX.S z).length == 0) = true
      · rw [if_pos b]
        have e : repS z n = z := by
          unfold repS
          rw [Bool.or_eq_true, beq_iff_eq, beq_iff_eq, el] at b
          rcases b with b | b
          · rw [b]
            simp
          · have e0 : z = [] := List.eq_nil_of_length_eq_zero b
            rw [e0]
            simp
        rw [e] at q
        exact ⟨.str (SX.S z), H, I, ⟨_, rfl⟩, q⟩
      · rw [if_neg b]
        rw [es a]
        exact ⟨hl, .str (SX.S (repS z n)), H, I.tok _, ⟨_, rfl⟩, q⟩
theorem d_repS (ha : D X a σ G cs (rS z)) (hb : D X b σ G cs (rI n)) (h1 : -(2 ^ 31) < n ∧ n < 2 ^ 31) (h3 : n.toNat * z.length ≤ 16777216) : D X (.BinOp a .Mult b pos) σ G cs (rS (repS z n)) :=
  d_bin op_repS ha hb fun G1 H u v s d hu hv Q q => ⟨z, n, hu, hv, h1.1, h1.2, h3, q G1 H _ (Same.refl _) d rfl⟩
theorem rs_rep {α : Type} {r : α → Hp → V → Prop} {xs : List α} {vs : List V} (h : Rs r G xs vs) : ∀ k : Nat, Rs r G (List.replicate k xs).flatten (List.replicate k vs).flatten
  | 0 => .nil
  | k + 1 => by
    rw [List.replicate_succ, List.replicate_succ, List.flatten_cons, List.flatten_cons]
    exact Rs.append (rs_rep h k) h
theorem n_rep {α : Type} {r : α → Hp → V → Prop} [∀ x, Mono (r x)] {xs : List α} (ha : N X a σ G cs r xs) (hb : D X b σ G cs (rI n)) (h1 : -(2 ^ 31) < n ∧ n < 2 ^ 31) (h3 : xs.length * n.toNat ≤ 16777216) : N X (.BinOp a .Mult b pos) σ G cs r (List.replicate n.toNat xs).flatten := fun G1 H s d Q q =>
  uE (pe_op op_rep (sE X a) (sE X b)) (ha G1 H s d _ fun G2 H2 l vs s2 d2 hr => by
    obtain ⟨f1, f2⟩ := d2.freeze
    refine hb _ H2 (s.trans (s2.trans f1)) f2 _ fun G3 H3 v s3 d3 hv => ?_
    refine ⟨l, n, vs, rfl, hv, d3.same _ _ (s3 _ _ upd_same), by omega, by omega, by rw [← hr.length]; exact sl_small h3, fun p hp => ?_⟩
    exact q G3 _ p _ ((s2.trans f1).trans s3) (d3.newCell hp _) (rs_rep (hr.mono (f1.trans s3)) _))
theorem mt_ljF : MtR X "str.ljust" (fun x xs H Q => ∃ (z : Str) (n : Int) (w : Str), x = .str z ∧ xs = [.int n, .str w] ∧ PadOk n = true ∧ w.length = 1 ∧ Q (.str (Txt.ljustF z n (w.cps.getD 0 0))) H) := by
  intro pins s σ H x xs v us Q I rx rs h
  obtain ⟨z, n, w, rfl, rfl, h1, h2, q⟩ := h
  obtain ⟨t, rfl⟩ := rx
  cases rs with
  | cons r1 rs =>
    cases rs with
    | cons r2 rs =>
      cases rs
      obtain ⟨u1, rfl⟩ := r1
      obtain ⟨u2, rfl⟩ := r2
      exact PyProof.Rows.ljust_fill h1 h2 fun t' k => ⟨.str (Txt.ljustF z n (w.cps.getD 0 0)), H, I.tok k, ⟨_, rfl⟩, q⟩
theorem d_ljust {cpos : Pos} (ho : D X o σ G cs (rS z)) (ha : D X a σ G cs (rI n)) (hb : D X b σ G cs (rS w)) (hp : PadOk n = true) (hw : w.length = 1) (hbase : attributeBase o "ljust" X.env (eval o X.env) = eval o X.env := by rfl)
    (hfew : ((backTo cpos (starEach [a, b] X.env)).all (fun x => !x.1) && (backToKw cpos (keywordEach [] X.env)).all (fun x => x.1.isSome)
      && decide ([a, b].length + ([] : List Keyword).length + (if ([] : List Keyword).isEmpty then 0 else 1) < 30)) = true := by rfl)
    (hline : (apos.endLine == cpos.line) = true := by rfl) (hs : starEach [a, b] X.env = (false, eval a X.env) :: starEach [b] X.env := by rfl) (hs2 : starEach [b] X.env = (false, eval b X.env) :: starEach [] X.env := by rfl) (hplain : (backTo cpos (starEach [b] X.env)).any (·.1) = false := by rfl) :
    D X (.Call (.Attribute o "ljust" apos) [a, b] [] cpos) σ G cs (rS (ljL z n w)) :=
  d_by (pe_bm PySem.F.plainAttrs_str PySem.F.slot_str_ljust PySem.F.type_str_ljust mt_ljF (sE X o) (sA X [a, b]) hbase hfew hline hs hplain) fun G1 H s d Q q => ho G1 H s d _ fun G2 H2 u s2 d2 hu => ⟨by rw [show u = .str (SX.S z) from hu]; rfl, a_cons ha (a_cons hb a_nil hs2) hs G2 H2 (s.trans s2) d2 _ fun G3 H3 vs s3 d3 hv => by
    obtain ⟨v1, ws, rfl, hv1, v2, ws2, rfl, hv2, h3⟩ := hv
    cases h3
    refine ⟨SX.S z, n, SX.S w, hu, by rw [show v1 = .int n from hv1, show v2 = .str (SX.S w) from hv2], hp, by rw [SX.S_len]; exact hw, q G3 H3 _ (s2.trans s3) d3 ?_⟩
    show _ = V.str (SX.S (ljL z n w))
    unfold ljL
    rw [S_tlS]⟩
theorem d_all {bs : List Bool} {x : Str} (hc : X.calm = true) (hm : X.mg x = none) (ha : D X a σ G cs (rdL X.K cs rB bs)) (hg : Gl X x := by rfl) (hv : bootBuiltins x = some (.builtin "all") := by decide +kernel) (hn : x ≠ "__name__" := by decide) (hd : (x == ("__debug__" : Str)) = false := by decide)
    (he : starEach [a] X.env = (false, eval a X.env) :: starEach [] X.env := by rfl) (hpl : (backTo pos (starEach [] X.env)).any (·.1) = false := by rfl) : D X (.Call (.Name x p) [a] [] pos) σ G cs (rB (bs.all id)) :=
  d_callB (cr_all hc) hm (a_cons ha a_nil he) (fun G1 H vs s d hvs Q q => by
    obtain ⟨v, ws, e1, h1, h2⟩ := hvs
    cases h2
    obtain ⟨l, us, e, hl, hr⟩ := h1.sq d
    subst e
    have hu := rs_bl hr
    subst hu
    exact ⟨l, bs, e1, hl, q G1 H _ (Same.refl _) d rfl⟩) hg hv hn hd he hpl
theorem d_any {bs : List Bool} {x : Str} (hc : X.calm = true) (hm : X.mg x = none) (ha : D X a σ G cs (rdL X.K cs rB bs)) (hg : Gl X x := by rfl) (hv : bootBuiltins x = some (.builtin "any") := by decide +kernel) (hn : x ≠ "__name__" := by decide) (hd : (x == ("__debug__" : Str)) = false := by decide)
    (he : starEach [a] X.env = (false, eval a X.env) :: starEach [] X.env := by rfl) (hpl : (backTo pos (starEach [] X.env)).any (·.1) = false := by rfl) : D X (.Call (.Name x p) [a] [] pos) σ G cs (rB (bs.any id)) :=
  d_callB (cr_any hc) hm (a_cons ha a_nil he) (fun G1 H vs s d hvs Q q => by
    obtain ⟨v, ws, e1, h1, h2⟩ := hvs
    cases h2
    obtain ⟨l, us, e, hl, hr⟩ := h1.sq d
    subst e
    have hu := rs_bl hr
    subst hu
    exact ⟨l, bs, e1, hl, q G1 H _ (Same.refl _) d rfl⟩) hg hv hn hd he hpl
end
end J

namespace J
open PySem L2 PyProof.Rows NumText
theorem rng_at {a b x : Int} {pre post : List Int} (h : rng a b = pre ++ x :: post) : x = a + (pre.length : Int) := by
  have e : (rng a b)[pre.length]? = some x := by rw [h]; simp
  have l : pre.length < (b - a).toNat := by
    have := congrArg List.length h
    rw [rng_length, List.length_append, List.length_cons] at this
    omega
  rw [rng_get l] at e
  exact (Option.some.inj e).symm
theorem isDig : ∀ c : Nat, c < 128 → Unicode.isDigit c = (decide (48 ≤ c) && decide (c ≤ 57)) := by decide +kernel
theorem digB_is {z : List Nat} (h : ∀ c ∈ z, c < 128) : digB z = (decide (z ≠ []) && z.all fun c => decide (48 ≤ c) && decide (c ≤ 57)) := by
  unfold digB Txt.isdigit
  rw [SX.S_len]
  have e : (SX.S z).cps.all Unicode.isDigit = z.all Unicode.isDigit := by
    show z.toArray.all _ = _
    simp
  rw [e]
  have e2 : z.all Unicode.isDigit = z.all fun c => decide (48 ≤ c) && decide (c ≤ 57) := by
    rw [Bool.eq_iff_iff, List.all_eq_true, List.all_eq_true]
    exact ⟨fun q c hc => by rw [← isDig c (h c hc)]; exact q c hc, fun q c hc => by rw [isDig c (h c hc)]; exact q c hc⟩
  rw [e2]
  cases z with
  | nil => rfl
  | cons c z => simp
theorem digB_of {z : List Nat} (h : AllDigits z) (hn : z ≠ []) : digB z = true := by
  rw [digB_is fun c hc => by have := h c hc; omega, Bool.and_eq_true]
  exact ⟨by simpa using hn, List.all_eq_true.mpr fun c hc => by have := h c hc; simp; omega⟩
theorem digits_of {z : List Nat} (ha : ∀ c ∈ z, c < 128) (h : digB z = true) : AllDigits z ∧ z ≠ [] := by
  rw [digB_is ha, Bool.and_eq_true] at h
  refine ⟨fun c hc => ?_, by simpa using h.1⟩
  have := List.all_eq_true.mp h.2 c hc
  simp at this
  omega
theorem part_at {p q : List Nat} {c : Nat} (h : c ∉ p) : partL (p ++ c :: q) [c] = (p, [c], q) := by
  have e := SX.partition_some (a := p ++ c :: q) (b := [c]) (by simp) (SX.par_head (sep := []) q h)
  unfold partL
  rw [e]
  rfl
theorem part_no {p : List Nat} {c : Nat} (h : c ∉ p) : partL p [c] = (p, [], []) := by
  unfold partL
  rw [SX.partition_none (by simp) (SX.par_head_none (sep := []) h)]
  rfl
theorem lj_is {z : List Nat} {n : Int} {c : Nat} : ljL z n [c] = z ++ List.replicate (n.toNat - z.length) c := by
  unfold ljL Txt.ljustF
  rw [SX.S_len]
  split
  · rw [show n.toNat - z.length = 0 by omega]
    simp [tlS, SX.S]
  · show tlS (Builtin.Str.padded _ _ _ _) = _
    unfold Builtin.Str.padded
    simp [tlS, SX.S]
/-- k digits -/
def pad : Nat → Nat → List Nat
  | 0, _ => []
  | k + 1, r => pad k (r / 10) ++ [48 + r % 10]
theorem pad_len : ∀ k r, (pad k r).length = k
  | 0, _ => rfl
  | k + 1, r => by
    unfold pad
    rw [List.length_append, pad_len k]
    rfl
theorem pad_dig : ∀ k r, AllDigits (pad k r)
  | 0, _ => fun c hc => nomatch hc
  | k + 1, r => fun c hc => by
    unfold pad at hc
    rcases List.mem_append.mp hc with hc | hc
    · exact pad_dig k _ c hc
    · rw [List.mem_singleton.mp hc]
      omega
theorem val_snoc (l : List Nat) (d : Nat) : digitsVal (l ++ [48 + d]) = digitsVal l * 10 + d := by
  rw [digitsVal_snoc]
  omega
theorem pad_val (l : List Nat) : ∀ k r, r < 10 ^ k → digitsVal (l ++ pad k r) = digitsVal l * 10 ^ k + r
  | 0, r, h => by
    unfold pad
    rw [List.append_nil]
    simp at h
    omega
  | k + 1, r, h => by
    unfold pad
    rw [← List.append_assoc, val_snoc, pad_val l k (r / 10) (by rw [Nat.pow_succ] at h; omega), Nat.pow_succ, Nat.add_mul, Nat.mul_assoc]
    omega
theorem num_pad : ∀ k n, 10 ^ k ≤ n → TL.numL n = TL.numL (n / 10 ^ k) ++ pad k (n % 10 ^ k)
  | 0, n, h => by
    unfold pad
    rw [Nat.pow_zero, Nat.div_one, List.append_nil]
  | k + 1, n, h => by
    have hp : 0 < 10 ^ k := Nat.pow_pos (by decide)
    have h10 : 10 ≤ n := by
      rw [Nat.pow_succ] at h
      have : 1 * 10 ≤ 10 ^ k * 10 := Nat.mul_le_mul_right 10 hp
      omega
    have hk : 10 ^ k ≤ n / 10 := by
      rw [Nat.pow_succ] at h
      omega
    rw [TL.numL_step h10, num_pad k (n / 10) hk, show pad (k + 1) (n % 10 ^ (k + 1)) = pad k (n % 10 ^ (k + 1) / 10) ++ [48 + n % 10 ^ (k + 1) % 10] from rfl]
    rw [List.append_assoc, Nat.pow_succ, Nat.div_div_eq_div_mul, Nat.mul_comm 10 (10 ^ k)]
    have e1 : n % (10 ^ k * 10) / 10 = n / 10 % 10 ^ k := by
      rw [Nat.mul_comm (10 ^ k) 10, Nat.mod_mul_right_div_self]
    have e2 : n % (10 ^ k * 10) % 10 = n % 10 := Nat.mod_mul_left_mod n (10 ^ k) 10
    rw [e1, e2]
/-- zeros ahead -/
theorem pad_small : ∀ k n, n < 10 ^ k → List.replicate (k - (TL.numL n).length) 48 ++ TL.numL n = (if k = 0 then TL.numL n else pad k n)
  | 0, n, _ => by simp
  | 1, n, h => by
    rw [TL.numL_lt (by simpa using h)]
    unfold pad pad
    simp at h ⊢
    omega
  | k + 2, n, h => by
    rw [if_neg (by omega)]
    by_cases c : n < 10
    · have q := pad_small (k + 1) 0 (Nat.pow_pos (by decide))
      rw [if_neg (by omega), TL.numL_lt (by decide : 0 < 10)] at q
      rw [TL.numL_lt c]
      show List.replicate (k + 2 - 1) 48 ++ [48 + n] = pad (k + 1) (n / 10) ++ [48 + n % 10]
      rw [Nat.div_eq_of_lt c, Nat.mod_eq_of_lt c, ← q]
      show _ = (List.replicate (k + 1 - 1) 48 ++ [48]) ++ [48 + n]
      rw [show k + 2 - 1 = (k + 1 - 1) + 1 by omega, List.replicate_succ']
    · have q := pad_small (k + 1) (n / 10) (by rw [Nat.pow_succ] at h; omega)
      rw [if_neg (by omega)] at q
      rw [TL.numL_step (by omega), List.length_append]
      show _ = pad (k + 1) (n / 10) ++ [48 + n % 10]
      rw [← q, ← List.append_assoc]
      show List.replicate (k + 2 - ((TL.numL (n / 10)).length + 1)) 48 ++ _ ++ _ = _
      rw [show k + 2 - ((TL.numL (n / 10)).length + 1) = k + 1 - (TL.numL (n / 10)).length by omega]
theorem zf_is {n : Nat} {k : Int} : zfL (TL.numL n) k = List.replicate (k.toNat - (TL.numL n).length) 48 ++ TL.numL n := by
  unfold zfL Txt.zfill
  rw [SX.S_len]
  split
  · rw [show k.toNat - (TL.numL n).length = 0 by omega]
    simp [tlS, SX.S]
  · unfold zfilled
    have hn := TL.numL_ne n
    have hd := TL.numL_digits n
    cases hc : TL.numL n with
    | nil => exact absurd hc hn
    | cons c l =>
      rw [hc] at hd
      have h0 := hd c List.mem_cons_self
      have e : (SX.S (c :: l)).cps[0]? = some c := by simp [SX.S]
      rw [e]
      split
      · rename_i q
        have := Option.some.inj q
        omega
      · rename_i q
        have := Option.some.inj q
        omega
      · unfold Builtin.Str.padded
        simp [tlS, SX.S]
theorem int_dig {z : List Nat} (h : AllDigits z) (hn : z ≠ []) (hl : z.length ≤ 640) : PySem.intText? (SX.S z) = some ((digitsVal z : Nat) : Int) :=
  SX.int_S (List.all_eq_true.mpr fun c hc => by have := h c hc; simp; omega) hn (by omega)
theorem numT_dig {z : List Nat} (h : AllDigits z) (hn : z ≠ []) (hl : z.length ≤ 640) : numT z = ((digitsVal z : Nat) : Int) := by
  unfold numT
  rw [int_dig h hn hl]
  rfl
theorem decL_len {n : Int} (h0 : 0 ≤ n) (h : n < 10000000000000) : (decL n).length ≤ 13 := TL.numL_len (by decide) (by omega)
theorem decL_dig (n : Int) : AllDigits (decL n) := TL.numL_digits _
theorem zf_len {n D : Int} (h0 : 0 ≤ n) (h : n < 10000000000000) (hD : D ≤ 3) : (zfL (decL n) D).length ≤ 16 := by
  have l := decL_len h0 h
  unfold decL at *
  rw [zf_is, List.length_append, List.length_replicate]
  omega
theorem lj_len (z : List Nat) (n : Int) (c : Nat) : (ljL z n [c]).length ≤ z.length + n.toNat := by
  rw [lj_is, List.length_append, List.length_replicate]
  omega
theorem pad_ok {i : Int} (h : 0 ≤ i ∧ i ≤ 1000) : PadOk i = true := by
  unfold PadOk fitsSsize Builtin.Str.tooLong
  have := sizeLine_eq
  simp
  omega
theorem cutL_mem {α : Type} {xs : List α} {l u : Option Int} {x : α} (h : x ∈ cutL xs l u) : x ∈ xs := List.mem_of_mem_drop (List.mem_of_mem_take h)
theorem part_or (z : List Nat) (c : Nat) : (c ∉ z ∧ partL z [c] = (z, [], [])) ∨ ∃ p q, z = p ++ c :: q ∧ c ∉ p ∧ partL z [c] = (p, [c], q) := by
  by_cases h : c ∈ z
  · right
    obtain ⟨p, q, e, hp⟩ : ∃ p q, z = p ++ c :: q ∧ c ∉ p := by
      induction z with
      | nil => cases h
      | cons a z ih =>
        by_cases ha : a = c
        · exact ⟨[], z, by rw [ha]; rfl, by simp⟩
        · rcases List.mem_cons.mp h with e | h
          · exact absurd e.symm ha
          · obtain ⟨p, q, e, hp⟩ := ih h
            exact ⟨a :: p, q, by rw [e]; rfl, fun m => by
              rcases List.mem_cons.mp m with e | m
              · exact ha e.symm
              · exact hp m⟩
    exact ⟨p, q, e, hp, by rw [e]; exact part_at hp⟩
  · exact .inl ⟨h, part_no h⟩
theorem part_le (z : List Nat) (c : Nat) : ((partL z [c]).1.length ≤ z.length ∧ ∀ x ∈ (partL z [c]).1, x ∈ z) ∧ (partL z [c]).2.2.length ≤ z.length ∧ ∀ x ∈ (partL z [c]).2.2, x ∈ z := by
  rcases part_or z c with ⟨_, e⟩ | ⟨p, q, ez, _, e⟩
  · rw [e]
    exact ⟨⟨Nat.le_refl _, fun _ h => h⟩, Nat.zero_le _, fun _ h => nomatch h⟩
  · rw [e, ez]
    refine ⟨⟨?_, fun x h => List.mem_append_left _ h⟩, ?_, fun x h => List.mem_append_right _ (List.mem_cons_of_mem _ h)⟩ <;> simp
    omega
theorem all_cat {P : Nat → Prop} {a b : List Nat} (h : ∀ c ∈ a, P c) (k : ∀ c ∈ b, P c) : ∀ c ∈ a ++ b, P c := fun c hc => (List.mem_append.mp hc).elim (h c) (k c)
theorem dig_asc {z : List Nat} (h : AllDigits z) : ∀ c ∈ z, c < 128 := fun c hc => by
  have := h c hc
  omega
end J

/-! what an expression does that may change cells: k tells what is known of the value, the frozen part and the cells behind it -/
namespace J
open PySem L2 PyProof.Rows
def EC (X : Cx) (e : Expr) (σ : L2.St) (G : Hp) (cs : Cells) (k : V → Hp → Cells → Prop) : Prop :=
  ∀ G1 H, Same G G1 → Desc G1 cs H → ∀ Q : VK, (∀ G2 H2 cs2 v, Same G1 G2 → Desc G2 cs2 H2 → k v G2 cs2 → Q v H2) → wE X e σ H Q
def TC (X : Cx) (e : Expr) (σ : L2.St) (G : Hp) (cs : Cells) (k : Bool → Hp → Cells → Prop) : Prop :=
  ∀ G1 H, Same G G1 → Desc G1 cs H → ∀ Q : Bool → Hp → Prop, (∀ G2 H2 cs2 b, Same G1 G2 → Desc G2 cs2 H2 → k b G2 cs2 → Q b H2) → wT X e σ H Q
def WC (X : Cx) (e : Expr) (σ : L2.St) (G : Hp) (cs : Cells) (k : Bool → Hp → Cells → Prop) : Prop :=
  ∀ G1 H, Same G G1 → Desc G1 cs H → ∀ Q : Bool → Hp → Prop, (∀ G2 H2 cs2 b, Same G1 G2 → Desc G2 cs2 H2 → k b G2 cs2 → Q b H2) → wW X e σ H Q
def AC (X : Cx) (es : List Expr) (σ : L2.St) (G : Hp) (cs : Cells) (k : List V → Hp → Cells → Prop) : Prop :=
  ∀ G1 H, Same G G1 → Desc G1 cs H → ∀ Q : List V → Hp → Prop, (∀ G2 H2 cs2 vs, Same G1 G2 → Desc G2 cs2 H2 → k vs G2 cs2 → Q vs H2) → wA X es σ H Q
/-- an operator's reading -/
def RC (r : R2) (x y : V) (G : Hp) (cs : Cells) (k : V → Hp → Cells → Prop) : Prop :=
  ∀ G1 H, Same G G1 → Desc G1 cs H → ∀ Q : VK, (∀ G2 H2 cs2 v, Same G1 G2 → Desc G2 cs2 H2 → k v G2 cs2 → Q v H2) → r x y H Q
section
variable {X : Cx} {σ : L2.St} {G : Hp} {cs cs' : Cells} {e a b c : Expr} {es : List Expr} {pos p : Pos} {P : Hp → V → Prop} {k : V → Hp → Cells → Prop} {kb : Bool → Hp → Cells → Prop} {ka : List V → Hp → Cells → Prop}
theorem EC.perm (p : cs.Perm cs') (h : EC X e σ G cs' k) : EC X e σ G cs k := fun G1 H s d Q q => h G1 H s (d.perm p) Q q
theorem ec_D (h : D X e σ G cs P) (c : ∀ v G1, Same G G1 → P G1 v → k v G1 cs) : EC X e σ G cs k := fun G1 H s d Q q => h G1 H s d Q fun G2 H2 v s2 d2 hv => q G2 H2 cs v s2 d2 (c v G2 (s.trans s2) hv)
theorem ec_N {α : Type} {r : α → Hp → V → Prop} {xs : List α} (h : N X e σ G cs r xs) (c : ∀ l vs G1, Same G G1 → Rs r G1 xs vs → k (.ref l) G1 ((l, .lst vs) :: cs)) : EC X e σ G cs k := fun G1 H s d Q q =>
  h G1 H s d Q fun G2 H2 l vs s2 d2 hr => q G2 H2 _ _ s2 d2 (c l vs G2 (s.trans s2) hr)
theorem tc_T {v : Bool} (h : T X e σ G cs v) (c : ∀ G1, Same G G1 → kb v G1 cs) : TC X e σ G cs kb := fun G1 H s d Q q => h G1 H s d Q fun G2 H2 s2 d2 => q G2 H2 cs v s2 d2 (c G2 (s.trans s2))
theorem tc_k {kb' : Bool → Hp → Cells → Prop} (h : TC X e σ G cs kb') (c : ∀ b G1 cs1, Same G G1 → kb' b G1 cs1 → ∃ cs2, cs1.Perm cs2 ∧ kb b G1 cs2) : TC X e σ G cs kb := fun G1 H s d Q q => h G1 H s d Q fun G2 H2 cs2 b s2 d2 hk => by
  obtain ⟨cs3, pm, h3⟩ := c b G2 cs2 (s.trans s2) hk
  exact q G2 H2 cs3 b s2 (d2.perm pm) h3
theorem ec_k {k' : V → Hp → Cells → Prop} (h : EC X e σ G cs k') (c : ∀ v G1 cs1, Same G G1 → k' v G1 cs1 → ∃ cs2, cs1.Perm cs2 ∧ k v G1 cs2) : EC X e σ G cs k := fun G1 H s d Q q => h G1 H s d Q fun G2 H2 cs2 v s2 d2 hk => by
  obtain ⟨cs3, pm, h3⟩ := c v G2 cs2 (s.trans s2) hk
  exact q G2 H2 cs3 v s2 (d2.perm pm) h3
theorem tc_E (h : EC X e σ G cs fun v G1 cs1 => ∃ z, v = .bl z ∧ kb z G1 cs1) (he : ∀ whole, isTrue e X.env whole = (do let v ← whole; standAt e.pos; holding [v] (truthy v)) := by intro _; rfl) : TC X e σ G cs kb := fun G1 H s d Q q =>
  uT (pt_val (sE X e) he) (h G1 H s d _ fun G2 H2 cs2 v s2 d2 ⟨z, e1, hk⟩ => ⟨z, e1, q G2 H2 cs2 z s2 d2 hk⟩)
theorem tc_not (h : TC X a σ G cs fun z G1 cs1 => kb (!z) G1 cs1) : TC X (.UnaryOp .Not a pos) σ G cs kb := fun G1 H s d Q q => uT (pt_not (sT X a)) (h G1 H s d _ fun G2 H2 cs2 z s2 d2 hk => q G2 H2 cs2 (!z) s2 d2 hk)
theorem tc_w (h : WC X e σ G cs kb) : TC X e σ G cs kb := fun G1 H s d Q q => uT (PW.pt (sW X e)) (h G1 H s d Q q)
theorem wc_and1 (h : TC X a σ G cs kb) : WC X (.BoolOp .And [a] pos) σ G cs kb := fun G1 H s d Q q => uW (pw_and1 (sT X a)) (h G1 H s d Q q)
theorem wc_or1 (h : TC X a σ G cs kb) : WC X (.BoolOp .Or [a] pos) σ G cs kb := fun G1 H s d Q q => uW (pw_or1 (sT X a)) (h G1 H s d Q q)
theorem wc_and {rest : List Expr} (h : TC X a σ G cs fun z G1 cs1 => (z = true → WC X (.BoolOp .And (b :: rest) pos) σ G1 cs1 kb) ∧ (z = false → kb false G1 cs1)) : WC X (.BoolOp .And (a :: b :: rest) pos) σ G cs kb := fun G1 H s d Q q =>
  uW (pw_and (sT X a) (sW X _)) (h G1 H s d _ fun G2 H2 cs2 z s2 d2 hk => by
    cases z with
    | false => exact iteF (q G2 H2 cs2 false s2 d2 (hk.2 rfl))
    | true => exact iteT (hk.1 rfl G2 H2 (Same.refl _) d2 Q fun G3 H3 cs3 w s3 d3 hw => q G3 H3 cs3 w (s2.trans s3) d3 hw))
theorem wc_or {rest : List Expr} (h : TC X a σ G cs fun z G1 cs1 => (z = false → WC X (.BoolOp .Or (b :: rest) pos) σ G1 cs1 kb) ∧ (z = true → kb true G1 cs1)) : WC X (.BoolOp .Or (a :: b :: rest) pos) σ G cs kb := fun G1 H s d Q q =>
  uW (pw_or (sT X a) (sW X _)) (h G1 H s d _ fun G2 H2 cs2 z s2 d2 hk => by
    cases z with
    | true => exact iteT (q G2 H2 cs2 true s2 d2 (hk.2 rfl))
    | false => exact iteF (hk.1 rfl G2 H2 (Same.refl _) d2 Q fun G3 H3 cs3 w s3 d3 hw => q G3 H3 cs3 w (s2.trans s3) d3 hw))
theorem ec_bin {op : Operator} {r : R2} (ho : OpR X (binaryOp op) r) (h : EC X a σ G cs fun x G1 cs1 => EC X b σ G1 cs1 fun y G2 cs2 => RC r x y G2 cs2 k) : EC X (.BinOp a op b pos) σ G cs k := fun G1 H s d Q q =>
  uE (pe_op ho (sE X a) (sE X b)) (h G1 H s d _ fun G2 H2 cs2 x s2 d2 hx => hx G2 H2 (Same.refl _) d2 _ fun G3 H3 cs3 y s3 d3 hy => hy G3 H3 (Same.refl _) d3 Q fun G4 H4 cs4 v s4 d4 hv => q G4 H4 cs4 v ((s2.trans s3).trans s4) d4 hv)
theorem ec_cmp {op : CmpOp} {r : R2} (ho : OpR X (compareOp op) r) (hm : behindInMarks op b = false) (h : EC X a σ G cs fun x G1 cs1 => EC X b σ G1 cs1 fun y G2 cs2 => RC r x y G2 cs2 k) : EC X (.Compare a [op] [b] pos) σ G cs k := fun G1 H s d Q q =>
  uE (pe_cmpR ho (sE X a) (sE X b) hm) (h G1 H s d _ fun G2 H2 cs2 x s2 d2 hx => hx G2 H2 (Same.refl _) d2 _ fun G3 H3 cs3 y s3 d3 hy => hy G3 H3 (Same.refl _) d3 Q fun G4 H4 cs4 v s4 d4 hv => q G4 H4 cs4 v ((s2.trans s3).trans s4) d4 hv)
theorem tc_cmp {op : CmpOp} {r : R2} (ho : OpR X (compareOp op) r) (hm : behindInMarks op b = false) (h : EC X a σ G cs fun x G1 cs1 => EC X b σ G1 cs1 fun y G2 cs2 => RC r x y G2 cs2 fun v G3 cs3 => ∃ z, v = .bl z ∧ kb z G3 cs3) : TC X (.Compare a [op] [b] pos) σ G cs kb := fun G1 H s d Q q =>
  uT (pt_cmpR ho (sE X a) (sE X b) hm) (h G1 H s d _ fun G2 H2 cs2 x s2 d2 hx => hx G2 H2 (Same.refl _) d2 _ fun G3 H3 cs3 y s3 d3 hy => hy G3 H3 (Same.refl _) d3 _ fun G4 H4 cs4 v s4 d4 ⟨z, e1, hk⟩ => ⟨z, e1, q G4 H4 cs4 z ((s2.trans s3).trans s4) d4 hk⟩)
theorem ec_ix {r : R2} (hr : IxR X r) (h : EC X a σ G cs fun x G1 cs1 => EC X b σ G1 cs1 fun y G2 cs2 => RC r x y G2 cs2 k) (hs : PlainIx b := by exact fun _ _ => rfl) : EC X (.Subscript a b pos) σ G cs k := fun G1 H s d Q q =>
  uE (pe_ix hr (sE X a) (sE X b) hs) (h G1 H s d _ fun G2 H2 cs2 x s2 d2 hx => hx G2 H2 (Same.refl _) d2 _ fun G3 H3 cs3 y s3 d3 hy => hy G3 H3 (Same.refl _) d3 Q fun G4 H4 cs4 v s4 d4 hv => q G4 H4 cs4 v ((s2.trans s3).trans s4) d4 hv)
theorem ac_nil (h : ka [] G cs) (mono : ∀ G1, Same G G1 → ka [] G cs → ka [] G1 cs := by intro _ _ h; exact h) : AC X [] σ G cs ka := fun G1 H s d Q q => uA pa_nil (q G1 H cs [] (Same.refl _) d (mono G1 s h))
theorem ac_nil' (h : ∀ G1, Same G G1 → ka [] G1 cs) : AC X [] σ G cs ka := fun G1 H s d Q q => uA pa_nil (q G1 H cs [] (Same.refl _) d (h G1 s))
theorem ac_cons (h : EC X e σ G cs fun v G1 cs1 => AC X es σ G1 cs1 fun vs G2 cs2 => ka (v :: vs) G2 cs2) (hst : starEach (e :: es) X.env = (false, eval e X.env) :: starEach es X.env := by exact star_plain rfl) : AC X (e :: es) σ G cs ka := fun G1 H s d Q q =>
  uA (pa_cons (sE X e) (sA X es) hst) (h G1 H s d _ fun G2 H2 cs2 v s2 d2 hv => hv G2 H2 (Same.refl _) d2 _ fun G3 H3 cs3 ws s3 d3 hw => q G3 H3 cs3 _ (s2.trans s3) d3 hw)
/-- all arguments plain -/
theorem ac_A {Ps : Hp → List V → Prop} (h : A X es σ G cs Ps) (c : ∀ vs G1, Same G G1 → Ps G1 vs → ka vs G1 cs) : AC X es σ G cs ka := fun G1 H s d Q q => h G1 H s d Q fun G2 H2 vs s2 d2 hv => q G2 H2 cs vs s2 d2 (c vs G2 (s.trans s2) hv)
theorem ec_tup {kk : Nat} (h : AC X es σ G cs fun vs G1 cs1 => vs.length ≤ 16777216 ∧ ∀ l G2, Same G1 G2 → SqT X.K G2 l vs → k (.ref l) G2 cs1) : EC X (.Tuple es kk pos) σ G cs k := fun G1 H s d Q q =>
  uE (pe_tup (sA X es)) (h G1 H s d _ fun G2 H2 cs2 vs s2 d2 hv => ⟨sl_small hv.1, fun l hl => by
    have sf : Same G2 (upd G2 l (.tup vs)) := Same.fresh d2.same hl _
    exact q _ _ cs2 _ (s2.trans sf) (d2.new hl _) (hv.2 l _ sf (SqT.of upd_same))⟩)
theorem ec_lst (h : AC X es σ G cs fun vs G1 cs1 => vs.length ≤ 16777216 ∧ ∀ l G2, Same G1 G2 → SqL X.K G2 l vs → k (.ref l) G2 cs1) : EC X (.List es pos) σ G cs k := fun G1 H s d Q q =>
  uE (pe_lst (sA X es)) (h G1 H s d _ fun G2 H2 cs2 vs s2 d2 hv => ⟨sl_small hv.1, fun l hl => by
    have sf : Same G2 (upd G2 l (.lst vs)) := Same.fresh d2.same hl _
    exact q _ _ cs2 _ (s2.trans sf) (d2.new hl _) (hv.2 l _ sf (SqL.of upd_same))⟩)
theorem ec_lstN (h : AC X es σ G cs fun vs G1 cs1 => vs.length ≤ 16777216 ∧ ∀ l, k (.ref l) G1 ((l, .lst vs) :: cs1)) : EC X (.List es pos) σ G cs k := fun G1 H s d Q q =>
  uE (pe_lst (sA X es)) (h G1 H s d _ fun G2 H2 cs2 vs s2 d2 hv => ⟨sl_small hv.1, fun l hl => q _ _ _ _ s2 (d2.newCell hl _) (hv.2 l)⟩)
/-! operators, by what is known of the operands -/
section
variable {i j : Int} {x y : V} {z w : List Nat}
theorem rc_int {f : Int → Int → V} (hx : rI i G x) (hy : rI j G y) (c : ∀ G1, Same G G1 → k (f i j) G1 cs) : RC (rI0 f) x y G cs k := fun G1 H s d Q q => ⟨i, j, hx, hy, q G1 H cs _ (Same.refl _) d (c G1 s)⟩
theorem rc_intC {C : Int → Int → Prop} {f : Int → Int → V} (hx : rI i G x) (hy : rI j G y) (h : C i j) (c : ∀ G1, Same G G1 → k (f i j) G1 cs) : RC (L2.rI C f) x y G cs k := fun G1 H s d Q q => ⟨i, j, hx, hy, h, q G1 H cs _ (Same.refl _) d (c G1 s)⟩
theorem rc_eqI (hx : rI i G x) (hy : rI j G y) (c : ∀ G1, Same G G1 → k (.bl (decide (i = j))) G1 cs) : RC rEq x y G cs k := fun G1 H s d Q q => c_eqI (G1 := G) hx hy (q G1 H cs _ (Same.refl _) d (c G1 s))
theorem rc_neI (hx : rI i G x) (hy : rI j G y) (c : ∀ G1, Same G G1 → k (.bl (!decide (i = j))) G1 cs) : RC rNe x y G cs k := fun G1 H s d Q q => c_neI (G1 := G) hx hy (q G1 H cs _ (Same.refl _) d (c G1 s))
theorem rc_eqS (hx : rS z G x) (hy : rS w G y) (c : ∀ G1, Same G G1 → k (.bl (decide (z = w))) G1 cs) : RC rEq x y G cs k := fun G1 H s d Q q => c_eqS (G1 := G) hx hy (q G1 H cs _ (Same.refl _) d (c G1 s))
theorem rc_neS (hx : rS z G x) (hy : rS w G y) (c : ∀ G1, Same G G1 → k (.bl (!decide (z = w))) G1 cs) : RC rNe x y G cs k := fun G1 H s d Q q => c_neS (G1 := G) hx hy (q G1 H cs _ (Same.refl _) d (c G1 s))
theorem rc_cat (hx : rS z G x) (hy : rS w G y) (h : z.length + w.length ≤ sizeLine) (c : ∀ G1, Same G G1 → k (.str (SX.S (z ++ w))) G1 cs) : RC (fun x y H Q => ∃ i j, x = .str i ∧ y = .str j ∧ i.length + j.length ≤ sizeLine ∧ Q (.str (i ++ j)) H) x y G cs k := fun G1 H s d Q q =>
  ⟨SX.S z, SX.S w, hx, hy, by rw [SX.S_len, SX.S_len]; exact h, by rw [SX.S_cat]; exact q G1 H cs _ (Same.refl _) d (c G1 s)⟩
theorem rc_ixS {n : Nat} (hx : rS z G x) (hy : rI i G y) (hl : z.length ≤ sizeLine) (h : atI z i = some n) (c : ∀ G1, Same G G1 → k (.str (SX.S [n])) G1 cs) : RC rIxS x y G cs k := fun G1 H s d Q q =>
  ⟨SX.S z, i, n, hx, hy, by rw [SX.S_len]; exact hl, h, q G1 H cs _ (Same.refl _) d (c G1 s)⟩
theorem rc_ixL {α : Type} {r : α → Hp → V → Prop} [∀ x, Mono (r x)] {xs : List α} {u : α} (hx : rdL X.K cs r xs G x) (hy : rI i G y) (h : atI xs i = some u) (c : ∀ v G1, Same G G1 → r u G1 v → k v G1 cs) : RC (rIxL X.K) x y G cs k := fun G1 H s d Q q => by
  obtain ⟨l, vs, e, hl, hr⟩ := (Mono.mono s hx).sq d
  obtain ⟨v, hv, hp⟩ := atI_rs hr h
  exact ⟨l, vs, i, v, e, hy, hl, hv, q G1 H cs v (Same.refl _) d (c v G1 s hp)⟩
theorem rc_ixT {α : Type} {r : α → Hp → List V → Prop} [∀ x, MonoA (r x)] {u : α} {n : Nat} (hx : rT X.K r u G x) (hy : rI (n : Int) G y) (hat : At (r u) n P) (c : ∀ v G1, Same G G1 → P G1 v → k v G1 cs) : RC (rIxT X.K) x y G cs k := fun G1 H s d Q q => by
  obtain ⟨l, vs, e, hl, hr⟩ := Mono.mono s hx
  obtain ⟨v, hv, hp⟩ := hat G1 vs hr
  exact ⟨l, vs, (n : Int), v, e, hy, seqT d.same hl, atI_nat hv, q G1 H cs v (Same.refl _) d (c v G1 s hp)⟩
theorem rc_eqD {K : PySem.W.Frag} {α : Type} {r : α → Hp → V → Prop} {u v : α} [DecidableEq α] [∀ z, Mono (r z)] [q : EqR K r] (hK : X.K = K) (hx : r u G x) (hy : r v G y) (h1 : q.ok u) (h2 : q.ok v) (hd : q.dep ≤ 64) (c : ∀ G1, Same G G1 → k (.bl (decide (u = v))) G1 cs) : RC (rEqD X.K) x y G cs k := by
  subst hK
  exact fun G1 H s d Q qq => ⟨_, _, q.dp (Mono.mono s hx) d.same, q.dp (Mono.mono s hy) d.same, shp h1 hd, shp h2 hd, by rw [eqv_dec]; exact qq G1 H cs _ (Same.refl _) d (c G1 s)⟩
theorem rc_neD {K : PySem.W.Frag} {α : Type} {r : α → Hp → V → Prop} {u v : α} [DecidableEq α] [∀ z, Mono (r z)] [q : EqR K r] (hK : X.K = K) (hx : r u G x) (hy : r v G y) (h1 : q.ok u) (h2 : q.ok v) (hd : q.dep ≤ 64) (c : ∀ G1, Same G G1 → k (.bl (!decide (u = v))) G1 cs) : RC (rNeD X.K) x y G cs k := by
  subst hK
  exact fun G1 H s d Q qq => ⟨_, _, q.dp (Mono.mono s hx) d.same, q.dp (Mono.mono s hy) d.same, shp h1 hd, shp h2 hd, by rw [eqv_dec]; exact qq G1 H cs _ (Same.refl _) d (c G1 s)⟩
end
end
/-! ### defs that change what they are given -/
/-- i what is given, pre how it lies and which cells mc are its own, post what is behind: the value, the cells -/
def SpM {I O : Type} (pre : I → Hp → Cells → List V → Prop) (post : I → List V → O → Hp → Cells → V → Prop) (m : I → O) : Sp := fun vs H Q _ => ∃ (i : I) (G : Hp) (mc cs : Cells), Desc G (mc ++ cs) H ∧ pre i G mc vs ∧ ∀ v G2 mc2 H2, Same G G2 → Desc G2 (mc2 ++ cs) H2 → post i vs (m i) G2 mc2 v → Q v H2
/-- .. and may raise: an error comes with what is given as it is then -/
def SpME {n : Nat} {I O S : Type} (adr : Fin n → Addr) (pre : I → Hp → Cells → List V → Prop) (post : I → List V → O → Hp → Cells → V → Prop) (perr : I → List V → S → Hp → Cells → Prop) (m : I → Except (Fin n × S) O) : Sp := fun vs H Q E => ∃ (i : I) (G : Hp) (mc cs : Cells), Desc G (mc ++ cs) H ∧ pre i G mc vs ∧
  (match m i with
    | .ok o => ∀ v G2 mc2 H2, Same G G2 → Desc G2 (mc2 ++ cs) H2 → post i vs o G2 mc2 v → Q v H2
    | .error (k, s) => ∀ G2 mc2 H2, Same G G2 → Desc G2 (mc2 ++ cs) H2 → perr i vs s G2 mc2 → E (.ref (adr k)) none H2)
/-- what is wanted at the end of such a def -/
def PoM {ε O : Type} (cs : Cells) (post : O → Hp → Cells → V → Prop) (perr : ε → Hp → Cells → Prop) : Po ε O Empty O :=
  { nx := fun o _ G2 cs2 => ∃ loc mc2, cs2.Perm (loc ++ (mc2 ++ cs)) ∧ post o G2 mc2 .non, lp := fun l => l.elim, rt := fun o G2 cs2 v => ∃ loc mc2, cs2.Perm (loc ++ (mc2 ++ cs)) ∧ post o G2 mc2 v, er := fun k _ G2 cs2 => ∃ loc mc2, cs2.Perm (loc ++ (mc2 ++ cs)) ∧ perr k G2 mc2 }
def Out.valM {R : Type} (m : Out Empty R Empty R) : R := match m with
  | .nx r => r
  | .bk l => l.elim
  | .ct l => l.elim
  | .rt r => r
  | .er e => e.elim
def Out.resM {ε R : Type} (m : Out ε R Empty R) : Except ε R := match m with
  | .nx r => .ok r
  | .bk l => l.elim
  | .ct l => l.elim
  | .rt r => .ok r
  | .er e => .error e
@[simp] theorem valM_rt {R : Type} (r : R) : (Out.rt r : Out Empty R Empty R).valM = r := rfl
@[simp] theorem valM_nx {R : Type} (r : R) : (Out.nx r : Out Empty R Empty R).valM = r := rfl
@[simp] theorem resM_rt {ε R : Type} (r : R) : (Out.rt r : Out ε R Empty R).resM = .ok r := rfl
@[simp] theorem resM_nx {ε R : Type} (r : R) : (Out.nx r : Out ε R Empty R).resM = .ok r := rfl
@[simp] theorem resM_er {ε R : Type} (k : ε) : (Out.er k : Out ε R Empty R).resM = .error k := rfl
section
variable {P : Program} {w : World} {K : PySem.W.Frag} {mg : Str → Option Value} {base : Heap}
theorem fn_mkM {I O : Type} {x : Str} {st : Stmt} {f : Addr} {fd : FuncData} {N ps : List Str} {k : Nat} {pre : I → Hp → Cells → List V → Prop} {post : I → List V → O → Hp → Cells → V → Prop} (F : Fun K x x st f fd) (S : FnScope N ps (defScope st)) (b : Binds K fd ps []) (hmg : mg x = some (.ref f))
    (body : I → Out Empty O Empty O) (len : ∀ i G mc vs, pre i G mc vs → vs.length = ps.length)
    (h : ∀ (cdv : Value) (A : Around) (outer : List Env) (s : Shared) (H : Hp) (E : XK) (i : I) (G : Hp) (mc cs : Cells) (vs : List V), Room k (A.deeper (envOfC x (defScope st) s.heap.objs.size f cdv)) → pre i G mc vs →
      B (cxOf CX0 P w K mg base N x (defScope st) f cdv A outer s H E).nox (fun e _ _ => e.elim) (defBody st) (start N vs) G (mc ++ cs) (PoM cs (post i vs) (fun e _ _ => e.elim)) (body i)) :
    Fn0 P w K mg base CX0 (k + 1) x ps.length (SpM pre post fun i => (body i).valM) := by
  refine ⟨f, fd, ps, F.ok S (fun vs H Q E hs => ?_) (fun cdv A outer s H vs Q E hr hs => ?_), hmg, F.kp, b, rfl⟩
  · obtain ⟨i, G, mc, cs, _, hp, _⟩ := hs
    exact len i G mc vs hp
  · obtain ⟨i, G, mc, cs, d, hp, q⟩ := hs
    refine ⟨_, sSs _ (defBody st), h cdv A outer s H E i G mc cs vs hr hp H d _ ?_⟩
    cases hb : body i with
    | nx u =>
      rintro σ2 G2 cs2 H2 s2 d2 ⟨loc, mc2, pm, hr2⟩
      refine q _ G2 mc2 H2 s2 (d2.perm pm).drop ?_
      dsimp only
      rw [hb]
      exact hr2
    | bk l => exact l.elim
    | ct l => exact l.elim
    | rt o =>
      rintro v G2 cs2 H2 s2 d2 ⟨loc, mc2, pm, hr2⟩
      refine q _ G2 mc2 H2 s2 (d2.perm pm).drop ?_
      dsimp only
      rw [hb]
      exact hr2
    | er e => exact e.elim
theorem fn_mkME {n : Nat} {I O S : Type} {adr : Fin n → Addr} {x : Str} {st : Stmt} {f : Addr} {fd : FuncData} {N ps : List Str} {k : Nat} {pre : I → Hp → Cells → List V → Prop} {post : I → List V → O → Hp → Cells → V → Prop} {perr : I → List V → S → Hp → Cells → Prop} (F : Fun K x x st f fd) (Sc : FnScope N ps (defScope st)) (b : Binds K fd ps []) (hmg : mg x = some (.ref f))
    (body : I → Out (Fin n × S) O Empty O) (len : ∀ i G mc vs, pre i G mc vs → vs.length = ps.length)
    (h : ∀ (cdv : Value) (A : Around) (outer : List Env) (s : Shared) (H : Hp) (E : XK) (i : I) (G : Hp) (mc cs : Cells) (vs : List V), Room k (A.deeper (envOfC x (defScope st) s.heap.objs.size f cdv)) → pre i G mc vs →
      B (cxOf (L2.CX P w) P w K mg base N x (defScope st) f cdv A outer s H E) (fun e _ H => E (.ref (adr e.1)) none H) (defBody st) (start N vs) G (mc ++ cs) (PoM cs (post i vs) (fun e => perr i vs e.2)) (body i)) :
    Fn0 P w K mg base (L2.CX P w) (k + 1) x ps.length (SpME adr pre post perr fun i => (body i).resM) := by
  refine ⟨f, fd, ps, F.okX Sc (fun vs H Q E hs => ?_) (fun cdv A outer s H vs Q E hr hs => ?_), hmg, F.kp, b, rfl⟩
  · obtain ⟨i, G, mc, cs, _, hp, _⟩ := hs
    exact len i G mc vs hp
  · obtain ⟨i, G, mc, cs, d, hp, q⟩ := hs
    refine ⟨_, sSs _ (defBody st), h cdv A outer s H E i G mc cs vs hr hp H d _ ?_⟩
    dsimp only at q
    cases hb : body i with
    | nx u =>
      rw [hb] at q
      rintro σ2 G2 cs2 H2 s2 d2 ⟨loc, mc2, pm, hr2⟩
      exact q _ G2 mc2 H2 s2 (d2.perm pm).drop hr2
    | bk l => exact l.elim
    | ct l => exact l.elim
    | rt o =>
      rw [hb] at q
      rintro v G2 cs2 H2 s2 d2 ⟨loc, mc2, pm, hr2⟩
      exact q _ G2 mc2 H2 s2 (d2.perm pm).drop hr2
    | er e =>
      rw [hb] at q
      rintro σ2 G2 cs2 H2 s2 d2 ⟨loc, mc2, pm, hr2⟩
      exact q G2 mc2 H2 s2 (d2.perm pm).drop hr2
end
section
variable {X : Cx} {σ : L2.St} {G : Hp} {cs : Cells} {e : Expr} {es : List Expr} {pos p : Pos} {k : V → Hp → Cells → Prop}
theorem ec_callM {I O : Type} {pre : I → Hp → Cells → List V → Prop} {post : I → List V → O → Hp → Cells → V → Prop} {m : I → O} {j l n : Nat} {x : Str} (F : Fn0 X.prog X.w X.K X.mg X.base CX0 j x n (SpM pre post m)) (hr : Room l X.A) (hk : j ≤ l)
    (ha : AC X (e :: es) σ G cs fun vs G1 cs1 => ∃ i mc rest, cs1.Perm (mc ++ rest) ∧ pre i G1 mc vs ∧ ∀ v G2 mc2, Same G1 G2 → post i vs (m i) G2 mc2 v → ∃ cs2, (mc2 ++ rest).Perm cs2 ∧ k v G2 cs2) (hg : Gl X x := by rfl) (hd : (x == ("__debug__" : Str)) = false := by decide)
    (he : starEach (e :: es) X.env = (false, eval e X.env) :: starEach es X.env := by exact star_plain rfl) (hpl : (backTo pos (starEach es X.env)).any (·.1) = false := by rfl) : EC X (.Call (.Name x p) (e :: es) [] pos) σ G cs k := by
  obtain ⟨f, fd, ps, F, hm, kp, b, _⟩ := F.ex
  intro G1 H s d Q q
  refine uE (pe_call F (hr.mono hk) hg hm kp b .nil pass0 (sA X _) (hdb := hd) (he := he) (hpl := hpl)) (ha G1 H s d _ fun G2 H2 cs2 vs s2 d2 hvs => ?_)
  obtain ⟨i, mc, rest, pm, hp, hq⟩ := hvs
  refine ⟨i, G2, mc, rest, d2.perm pm, ?_, fun v G3 mc2 H3 s3 d3 hv => ?_⟩
  · rw [List.append_nil]
    exact hp
  · rw [List.append_nil] at hv
    obtain ⟨cs3, pm3, hk3⟩ := hq v G3 mc2 s3 hv
    exact q G3 H3 cs3 v (s2.trans s3) (d3.perm pm3) hk3
/-- a def that changes nothing, its arguments may -/
theorem ec_callP {I O : Type} {pre : I → Hp → List V → Prop} {r : I → O → Hp → V → Prop} {m : I → O} {j l n : Nat} {x : Str} (F : Fn0 X.prog X.w X.K X.mg X.base CX0 j x n (SpP pre r m)) (hr : Room l X.A) (hk : j ≤ l)
    (ha : AC X (e :: es) σ G cs fun vs G1 cs1 => ∃ i, pre i G1 vs ∧ ∀ v G2, Same G1 G2 → r i (m i) G2 v → k v G2 cs1) (hg : Gl X x := by rfl) (hd : (x == ("__debug__" : Str)) = false := by decide)
    (he : starEach (e :: es) X.env = (false, eval e X.env) :: starEach es X.env := by exact star_plain rfl) (hpl : (backTo pos (starEach es X.env)).any (·.1) = false := by rfl) : EC X (.Call (.Name x p) (e :: es) [] pos) σ G cs k := by
  obtain ⟨f, fd, ps, F, hm, kp, b, _⟩ := F.ex
  intro G1 H s d Q q
  refine uE (pe_call F (hr.mono hk) hg hm kp b .nil pass0 (sA X _) (hdb := hd) (he := he) (hpl := hpl)) (ha G1 H s d _ fun G2 H2 cs2 vs s2 d2 hvs => ?_)
  obtain ⟨i, hp, hq⟩ := hvs
  refine ⟨i, G2, cs2, d2, ?_, fun v G3 H3 s3 d3 hv => q G3 H3 _ v (s2.trans s3) d3 (hq v G3 s3 hv)⟩
  rw [List.append_nil]
  exact hp
/-- what a builtin's reading wants -/
def RA (r : List V → Hp → VK → Prop) (vs : List V) (G : Hp) (cs : Cells) (k : V → Hp → Cells → Prop) : Prop :=
  ∀ G1 H, Same G G1 → Desc G1 cs H → ∀ Q : VK, (∀ G2 H2 cs2 v, Same G1 G2 → Desc G2 cs2 H2 → k v G2 cs2 → Q v H2) → r vs H Q
theorem ec_B {x : Str} {id : String} {r : List V → Hp → VK → Prop} (hc : CallR X (.builtin id) r) (hm : X.mg x = none) (ha : AC X (e :: es) σ G cs fun vs G1 cs1 => RA r vs G1 cs1 k)
    (hg : Gl X x := by rfl) (hv : bootBuiltins x = some (.builtin id) := by decide +kernel) (hn : x ≠ "__name__" := by decide) (hd : (x == ("__debug__" : Str)) = false := by decide)
    (he : starEach (e :: es) X.env = (false, eval e X.env) :: starEach es X.env := by exact star_plain rfl) (hpl : (backTo pos (starEach es X.env)).any (·.1) = false := by rfl) : EC X (.Call (.Name x p) (e :: es) [] pos) σ G cs k := fun G1 H s d Q q =>
  uE (pe_callB hc hg hm hv (sA X _) (hn := hn) (hdb := hd) (he := he) (hpl := hpl)) (ha G1 H s d _ fun G2 H2 cs2 vs s2 d2 hv => hv G2 H2 (Same.refl _) d2 Q fun G3 H3 cs3 v s3 d3 h3 => q G3 H3 cs3 v (s2.trans s3) d3 h3)
theorem ec_Ty {x : Str} {id : String} {r : List V → Hp → VK → Prop} (hc : CallR X (.type id) r) (hm : X.mg x = none) (ha : AC X (e :: es) σ G cs fun vs G1 cs1 => RA r vs G1 cs1 k)
    (hg : Gl X x := by rfl) (hv : bootBuiltins x = some (.type id) := by decide +kernel) (hn : x ≠ "__name__" := by decide) (hd : (x == ("__debug__" : Str)) = false := by decide)
    (he : starEach (e :: es) X.env = (false, eval e X.env) :: starEach es X.env := by exact star_plain rfl) (hpl : (backTo pos (starEach es X.env)).any (·.1) = false := by rfl) : EC X (.Call (.Name x p) (e :: es) [] pos) σ G cs k := fun G1 H s d Q q =>
  uE (pe_callTy hc hg hm hv (sA X _) (hn := hn) (hdb := hd) (he := he) (hpl := hpl)) (ha G1 H s d _ fun G2 H2 cs2 vs s2 d2 hv => hv G2 H2 (Same.refl _) d2 Q fun G3 H3 cs3 v s3 d3 h3 => q G3 H3 cs3 v (s2.trans s3) d3 h3)
/-- a list that is given to be changed -/
def mL {α : Type} (r : α → Hp → V → Prop) (xs : List α) (v : V) : Hp → Cells → Prop := fun G mc => ∃ a us, v = .ref a ∧ mc = [(a, .lst us)] ∧ Rs r G xs us
/-- the cell at k ahead of the others -/
theorem perm_to {cs : Cells} {k : Nat} {c : Addr × HO} {ds : Cells} (h : cs[k]? = some c) (p : (cs.eraseIdx k).Perm ds) : cs.Perm (c :: ds) := (perm_at h).trans (p.cons c)
end
section
variable {ε S L R : Type} {X : Cx} {W : ε → L2.St → Hp → Prop} {σ : L2.St} {G : Hp} {cs cs' : Cells} {Φ : Po ε S L R} {m : Out ε S L R} {rest body : List Stmt} {e c o i : Expr} {pos p : Pos}
theorem b_perm (p : cs.Perm cs') (h : B X W rest σ G cs' Φ m) : B X W rest σ G cs Φ m := fun H d E w => h H (d.perm p) E w
theorem b_setC (i : Nat) {x : Str} (hN : X.N.Nodup) (he : EC X e σ G cs fun v G1 cs1 => Same G G1 → B X W rest (σ.set i (some v)) G1 cs1 Φ m) (hi : X.N[i]? = some x := by rfl) (hx : Loc X.env.scope x := by first | exact Or.inl rfl | exact Or.inr rfl)
    (hs : swapsWith e (some (.Name x p)) pos.line X.env = pure false := by rfl) (hf : X.fn x = true ∨ X.env.scope.names.lookup x = some .local := by first | exact .inl rfl | exact .inr rfl) : B X W (.Assign [.Name x p] e pos :: rest) σ G cs Φ m :=
  b_cons (ps_set hN hi hx (sE X e) hs hf) fun H d E w => he G H (Same.refl _) d _ fun G2 H2 cs2 v s2 d2 hv => hv s2 H2 d2 E (w.up s2)
theorem b_exprC (he : EC X e σ G cs fun v G1 cs1 => Same G G1 → B X W rest σ G1 cs1 Φ m) (hs : swapsWith e none pos.line X.env = pure false := by rfl) : B X W (.Expr e pos :: rest) σ G cs Φ m :=
  b_cons (ps_expr (sE X e) hs) fun H d E w => he G H (Same.refl _) d _ fun G2 H2 cs2 v s2 d2 hv => hv s2 H2 d2 E (w.up s2)
theorem b_retC {r : R} (he : EC X e σ G cs fun v G1 cs1 => Same G G1 → Φ.rt r G1 cs1 v) : B X W (.Return (some e) pos :: rest) σ G cs Φ (.rt r) :=
  b_cons (ps_ret (sE X e)) fun H d E w => he G H (Same.refl _) d _ fun G2 H2 cs2 v s2 d2 hv => w v G2 cs2 H2 s2 d2 (hv s2)
theorem b_asgC {α : Type} {tg : Expr} {r : α → Hp → V → Prop} {Sx : α → Hp → L2.St → L2.St → Prop} (ht : Tg X tg r Sx) (he : EC X e σ G cs fun v G1 cs1 => ∃ x, r x G1 v ∧ ∀ σ', Sx x G1 σ σ' → Same G G1 → B X W rest σ' G1 cs1 Φ m)
    (hs : swapsWithSole [tg] e pos.line X.env = pure false := by rfl) (hw : swappedStores [tg] e X.env = pure none := by rfl) (h1 : (assignEach [tg] X.env).map (·.2) = [assign tg X.env] := by rfl) : B X W (.Assign [tg] e pos :: rest) σ G cs Φ m := by
  obtain ⟨g, hg, h2⟩ := ht
  exact b_cons (ps_asg (sE X e) hg hs hw (h1 := h1)) fun H d E w => he G H (Same.refl _) d _ fun G2 H2 cs2 v s2 d2 ⟨x, hx, hv⟩ => h2 x v G2 cs2 H2 σ hx d2 _ fun σ' hS => hv σ' hS s2 H2 d2 E (w.up s2)
/-- ifs whose test may change cells; Nx tells the cells behind the test -/
theorem b_ifxC {a : List Stmt} {k : Bool} {ma mr : Out ε S L R} (Nx : Hp → Cells → Prop) (hc : TC X c σ G cs fun z G1 cs1 => z = k ∧ Nx G1 cs1)
    (ha : k = true → ∀ G1 cs1, Same G G1 → Nx G1 cs1 → B X W a σ G1 cs1 { nx := fun _ _ _ _ => False, lp := Φ.lp, rt := Φ.rt, er := Φ.er } ma)
    (hr : k = false → ∀ G1 cs1, Same G G1 → Nx G1 cs1 → B X W rest σ G1 cs1 Φ mr) : B X W (.If c a [] pos :: rest) σ G cs Φ (if k = true then ma else mr) :=
  b_cons (ps_if (sT X c) (sSs X a) pss_nil) fun H d E w => hc G H (Same.refl _) d _ fun G2 H2 cs2 z s2 d2 ⟨ez, hn⟩ => by
    subst ez
    cases z with
    | true =>
      have w' : Wish W G Φ E ma := w
      refine iteT (ha rfl G2 cs2 s2 hn H2 d2 _ ?_)
      cases ma with
      | nx s => exact fun σ3 G3 cs3 H3 s3 d3 p => p.elim
      | bk l => exact fun σ3 G3 cs3 H3 s3 d3 p => w' σ3 G3 cs3 H3 (s2.trans s3) d3 p
      | ct l => exact fun σ3 G3 cs3 H3 s3 d3 p => w' σ3 G3 cs3 H3 (s2.trans s3) d3 p
      | rt r => exact fun v G3 cs3 H3 s3 d3 p => w' v G3 cs3 H3 (s2.trans s3) d3 p
      | er x => exact fun σ3 G3 cs3 H3 s3 d3 p => w' σ3 G3 cs3 H3 (s2.trans s3) d3 p
    | false => exact iteF (hr rfl G2 cs2 s2 hn H2 d2 E (Wish.up (show Wish W G Φ E mr from w) s2))
theorem b_iflC {a b : List Stmt} {k : Bool} {ma mb : Out ε S L R} (Nx : Hp → Cells → Prop) (hc : TC X c σ G cs fun z G1 cs1 => z = k ∧ Nx G1 cs1)
    (ha : k = true → ∀ G1 cs1, Same G G1 → Nx G1 cs1 → B X W a σ G1 cs1 Φ ma) (hb : k = false → ∀ G1 cs1, Same G G1 → Nx G1 cs1 → B X W b σ G1 cs1 Φ mb) : B X W [.If c a b pos] σ G cs Φ (if k = true then ma else mb) := fun H d E w =>
  uSs (pss_one (ps_if (sT X c) (sSs X a) (sSs X b))) (hc G H (Same.refl _) d _ fun G2 H2 cs2 z s2 d2 ⟨ez, hn⟩ => by
    subst ez
    cases z with
    | true => exact iteT (ha rfl G2 cs2 s2 hn H2 d2 E (Wish.up (show Wish W G Φ E ma from w) s2))
    | false => exact iteF (hb rfl G2 cs2 s2 hn H2 d2 E (Wish.up (show Wish W G Φ E mb from w) s2)))
theorem b_ifC {S' : Type} {a b : List Stmt} {k : Bool} (Nx : Hp → Cells → Prop) (Mid : S' → L2.St → Hp → Cells → Prop) {ma mb : Out ε S' L R} {g : S' → Out ε S L R} (hc : TC X c σ G cs fun z G1 cs1 => z = k ∧ Nx G1 cs1)
    (ha : k = true → ∀ G1 cs1, Same G G1 → Nx G1 cs1 → B X W a σ G1 cs1 { nx := Mid, lp := Φ.lp, rt := Φ.rt, er := Φ.er } ma) (hb : k = false → ∀ G1 cs1, Same G G1 → Nx G1 cs1 → B X W b σ G1 cs1 { nx := Mid, lp := Φ.lp, rt := Φ.rt, er := Φ.er } mb)
    (hr : ∀ s σ2 G2 cs2, Same G G2 → Mid s σ2 G2 cs2 → (if k = true then ma else mb) = .nx s → B X W rest σ2 G2 cs2 Φ (g s)) : B X W (.If c a b pos :: rest) σ G cs Φ ((if k = true then ma else mb).bind g) :=
  b_cons (ps_if (sT X c) (sSs X a) (sSs X b)) fun H d E w => hc G H (Same.refl _) d _ fun G2 H2 cs2 z s2 d2 ⟨ez, hn⟩ => by
    subst ez
    have go : ∀ {sts : List Stmt} {mm : Out ε S' L R}, B X W sts σ G2 cs2 { nx := Mid, lp := Φ.lp, rt := Φ.rt, er := Φ.er } mm → Wish W G Φ E (mm.bind g) → (∀ s σ2 G3 cs2, Same G G3 → Mid s σ2 G3 cs2 → mm = .nx s → B X W rest σ2 G3 cs2 Φ (g s)) → wSs X sts { E with nx := wSs X rest E } σ H2 := fun {sts mm} hB w hr => by
      refine hB H2 d2 _ ?_
      cases mm with
      | nx s => exact fun σ3 G3 cs3 H3 s3 d3 p => hr s σ3 G3 cs3 (s2.trans s3) p rfl H3 d3 E (Wish.up (G := G) (show Wish W G Φ E (g s) from w) (s2.trans s3))
      | bk l => exact fun σ3 G3 cs3 H3 s3 d3 p => w σ3 G3 cs3 H3 (s2.trans s3) d3 p
      | ct l => exact fun σ3 G3 cs3 H3 s3 d3 p => w σ3 G3 cs3 H3 (s2.trans s3) d3 p
      | rt r => exact fun v G3 cs3 H3 s3 d3 p => w v G3 cs3 H3 (s2.trans s3) d3 p
      | er x => exact fun σ3 G3 cs3 H3 s3 d3 p => w σ3 G3 cs3 H3 (s2.trans s3) d3 p
    cases z with
    | true => exact iteT (go (ha rfl G2 cs2 s2 hn) w hr)
    | false => exact iteF (go (hb rfl G2 cs2 s2 hn) w hr)
end
/-! ### statements with what changes cells within -/
section
variable {ε S L R : Type} {X : Cx} {W : ε → L2.St → Hp → Prop} {σ : L2.St} {G : Hp} {cs cs' : Cells} {Φ : Po ε S L R} {m : Out ε S L R} {rest body : List Stmt} {e c o i : Expr} {pos p : Pos}
/-- xs.append(e) -/
theorem b_appC {l : Addr} {apos cpos : Pos} (ho : D X o σ G cs (rV (.ref l))) (hl : ∃ us, (l, HO.lst us) ∈ cs) (he : EC X e σ G cs fun v G1 cs1 => ∃ k vs, cs1[k]? = some (l, .lst vs) ∧ vs.length < sizeLine ∧ (Same G G1 → B X W rest σ G1 (cs1.set k (l, .lst (vs ++ [v]))) Φ m))
    (hs : swapsWith (.Call (.Attribute o "append" apos) [e] [] cpos) none pos.line X.env = pure false := by rfl)
    (hbase : attributeBase o "append" X.env (eval o X.env) = eval o X.env := by rfl)
    (hfew : ((backTo cpos (starEach [e] X.env)).all (fun x => !x.1) && (backToKw cpos (keywordEach [] X.env)).all (fun x => x.1.isSome) && decide ([e].length + ([] : List Keyword).length + (if ([] : List Keyword).isEmpty then 0 else 1) < 30)) = true := by rfl)
    (hline : (apos.endLine == cpos.line) = true := by rfl) (hst : starEach [e] X.env = (false, eval e X.env) :: starEach [] X.env := by rfl) (hplain : (backTo cpos (starEach [] X.env)).any (·.1) = false := by rfl) :
    B X W (.Expr (.Call (.Attribute o "append" apos) [e] [] cpos) pos :: rest) σ G cs Φ m :=
  b_cons (ps_expr (pe_bm PySem.F.plainAttrs_list PySem.F.slot_list_append PySem.F.type_list_append mt_append (sE X o) (pa_cons (sE X e) pa_nil hst) hbase hfew hline hst hplain) hs) fun H d E w =>
    ho G H (Same.refl _) d _ fun G2 H2 u s2 d2 hu => by
      have eu : u = .ref l := hu
      subst eu
      obtain ⟨us, hm⟩ := hl
      refine ⟨.inl ⟨rfl, us, SqL.of (d2.at_ hm)⟩, he G2 H2 s2 d2 _ fun G3 H3 cs3 v s3 d3 hv => ?_⟩
      obtain ⟨k, vs, hk, hz, q⟩ := hv
      exact ⟨l, vs, v, rfl, rfl, d3.at_ (List.mem_of_getElem? hk), hz, q (s2.trans s3) _ (d3.write hk _) E (w.up (s2.trans s3))⟩
/-- xs[i] = e -/
theorem b_putC {l : Addr} (he : EC X e σ G cs fun v G1 cs1 => D X o σ G1 cs1 (rV (.ref l)) ∧ EC X i σ G1 cs1 fun y G2 cs2 => ∃ k vs z j, y = .int z ∧ cs2[k]? = some (l, .lst vs) ∧ ixN vs.length z = some j ∧ (Same G G2 → B X W rest σ G2 (cs2.set k (l, .lst (vs.set j v))) Φ m))
    (ha : ∀ v, assign (.Subscript o i p) X.env v = (do
      let ov ← holding [v] (eval o X.env)
      let iv ← holding [v, ov] (eval i X.env)
      standAt p
      holding [v, ov, iv] (setItem ov iv v)
      release [v, ov, iv] []) := by intro _; rfl)
    (hs : swapsWithSole [.Subscript o i p] e pos.line X.env = pure false := by rfl) (hw : swappedStores [.Subscript o i p] e X.env = pure none := by rfl) (h1 : (assignEach [.Subscript o i p] X.env).map (·.2) = [assign (.Subscript o i p) X.env] := by rfl) :
    B X W (.Assign [.Subscript o i p] e pos :: rest) σ G cs Φ m :=
  b_cons (ps_asg (sE X e) (pg_sub (sE X o) (sE X i) set_list ha) hs hw (h1 := h1)) fun H d E w => he G H (Same.refl _) d _ fun G2 H2 cs2 v s2 d2 hv =>
    hv.1 G2 H2 (Same.refl _) d2 _ fun G3 H3 u s3 d3 hu => hv.2 G3 H3 s3 d3 _ fun G4 H4 cs4 y s4 d4 hy => by
      obtain ⟨k, vs, z, j, ey, hk, hj, q⟩ := hy
      have eu : u = .ref l := hu
      subst eu ey
      exact ⟨l, vs, z, j, rfl, rfl, d4.at_ (List.mem_of_getElem? hk), hj, q ((s2.trans s3).trans s4) _ (d4.write hk _) E (w.up ((s2.trans s3).trans s4))⟩
/-- what stands behind the making of a walk -/
def Lb {α : Type} (X : Cx) (W : ε → L2.St → Hp → Prop) (tg : Expr) (body rest : List Stmt) (σ : L2.St) (G : Hp) (cs : Cells) (Φ : Po ε S L R) (m : Out ε S L R) (xs : List α) (Pi : α → Hp → V → Prop) (C : Cells → Prop) (g : TG) : Prop :=
  ∀ J H E, Desc G cs H → WalkD J xs G C Pi → Wish W G Φ E m → ∃ Wv : Nat → Nat → L2.St → Hp → Prop, (∃ n, Wv 0 n σ H) ∧ ∀ i n σ1 H1, Wv i n σ1 H1 →
    (J.stop i H1 ∧ wSs X rest E σ1 H1) ∨ (J.go i H1 ∧ ∃ N : L2.St → Hp → Prop, (∀ σ' H', N σ' H' → ∃ n', n' < n ∧ Wv (i + 1) n' σ' H') ∧ ∀ x H', J.yld i H1 x H' → g x σ1 H' fun σ2 H2 => wSs X body { E with nx := N, ct := N, bk := wSs X rest E } σ2 H2)
def IC {α : Type} (X : Cx) (tg iter : Expr) (σ : L2.St) (G : Hp) (cs : Cells) (C : Cells → Prop) (xs : List α) (P : α → Hp → V → Prop) (k : Hp → Cells → Prop) : Prop :=
  ∃ wi, PI X tg iter wi ∧ ∀ G1 H, Same G G1 → Desc G1 cs H → ∀ Rr : It → Hp → Prop, (∀ J G2 H2 cs2, Same G1 G2 → Desc G2 cs2 H2 → WalkD J xs G2 C P → k G2 cs2 → Rr J H2) → wi σ H Rr
theorem ic_rng1 {k : Hp → Cells → Prop} {tg a : Expr} {xs : List Int} (hm : X.mg "range" = none) (ha : EC X a σ G cs fun v G1 cs1 => ∃ j, v = .int j ∧ -(2 ^ 62) ≤ j ∧ j < 2 ^ 62 ∧ xs = rng 0 j ∧ k G1 cs1) (hg : Gl X "range" := by rfl) (hs : starEach [a] X.env = [(false, eval a X.env)] := by rfl) (hst : starEach [a] X.env = (false, eval a X.env) :: starEach [] X.env := by rfl) :
    IC X tg (.Call (.Name "range" p) [a] [] pos) σ G cs (fun _ => True) xs rI k :=
  ⟨_, pi_range1 hg hm (sA X [a]) hs, fun G1 H s d Rr kk => uA (pa_cons (sE X a) pa_nil hst) (ha G1 H s d _ fun G2 H2 cs2 v s2 d2 hv => by
    obtain ⟨j, e1, h1, h2, ex, hk⟩ := hv
    subst e1 ex
    refine ⟨j, rfl, h1, h2, kk _ G2 H2 cs2 s2 d2 ?_ hk⟩
    have q := wd_rng (G := G2) (lo := 0) (hi := j) (C := fun _ => True)
    rw [Int.sub_zero] at q
    exact q)⟩
theorem b_forC {α : Type} {tg iter : Expr} {C : Cells → Prop} {xs : List α} {Pi : α → Hp → V → Prop} {Sx : α → Hp → L2.St → L2.St → Prop} (ht : Tg X tg Pi Sx) (hcalm : X.calm = true) (hp : PassesOwn (model X.prog X.w) X.A X.env X.xe)
    (hi : ∀ g, PG X tg g → (∀ x v G cs H σ, Pi x G v → Desc G cs H → ∀ Q : L2.St → Hp → Prop, (∀ σ', Sx x G σ σ' → Q σ' H) → g v σ H Q) → IC X tg iter σ G cs C xs Pi fun G1 cs1 => Same G G1 → Lb X W tg body rest σ G1 cs1 Φ m xs Pi C g)
    (hs : ∀ x, foldedSetIterable iter X.env x = pure x := by intro _; rfl) : B X W (.For tg iter body [] pos :: rest) σ G cs Φ m := by
  obtain ⟨gt, hpg, hgt⟩ := ht
  obtain ⟨wi, hpi, hw⟩ := hi gt hpg hgt
  refine b_cons (ps_for hp hcalm hpi hpg (sSs X body) hs) fun H d E w => ?_
  exact hw G H (Same.refl _) d _ fun J G2 H2 cs2 s2 d2 wk hk => hk s2 J H2 E d2 wk (w.up s2)
theorem lb_core {α S1 : Type} {tg : Expr} {C : Cells → Prop} {xs : List α} {Pi : α → Hp → V → Prop} {Sx : α → Hp → L2.St → L2.St → Prop} {s0 : S1} {f : S1 → α → Out ε S1 S1 R} {g : S1 → Out ε S L R} {gt : TG}
    (N : Nat → S1 → L2.St → Hp → Cells → Prop) (hgt : ∀ x v G cs H σ, Pi x G v → Desc G cs H → ∀ Q : L2.St → Hp → Prop, (∀ σ', Sx x G σ σ' → Q σ' H) → gt v σ H Q)
    (h0 : ∀ G1, Same G G1 → N 0 s0 σ G1 cs) (hC : ∀ n s σ1 G1 cs1, N n s σ1 G1 cs1 → C cs1)
    (hb : ∀ pre x post s σ1 G0 G1 cs1 σ2, xs = pre ++ x :: post → Reach f s0 pre s → Same G G0 → N pre.length s σ1 G0 cs1 → Same G0 G1 → Sx x G1 σ1 σ2 →
      B X W body σ2 G1 cs1 { nx := N (pre.length + 1), lp := N (pre.length + 1), rt := Φ.rt, er := Φ.er } (f s x))
    (hr : ∀ n s σ1 G1 cs1, n ≤ xs.length → Same G G1 → N n s σ1 G1 cs1 → (forL f s0 xs : Out ε S1 L R) = .nx s → B X W rest σ1 G1 cs1 Φ (g s)) : Lb X W tg body rest σ G cs Φ ((forL f s0 xs).bind g) xs Pi C gt := by
  intro J H2 E d2 wk w
  let Pv : Nat → L2.St → Hp → Prop := fun i σ1 H1 => ∃ s G1 cs1, i ≤ xs.length ∧ Reach f s0 (xs.take i) s ∧ Same G G1 ∧ Desc G1 cs1 H1 ∧ N i s σ1 G1 cs1
  refine ⟨fun i n σ1 H1 => n = xs.length - i ∧ Pv i σ1 H1, ⟨xs.length, rfl, s0, G, cs, Nat.zero_le _, .nil, Same.refl _, d2, h0 G (Same.refl _)⟩, ?_⟩
  rintro i n σ1 H1 ⟨rfl, s, G1, cs1, hi, hre, s1, d1, hN⟩
  have w0 : Wish W G Φ E ((forL f s (xs.drop i)).bind g) := by
    have q := forL_reach (L := L) hre (xs.drop i)
    rw [List.take_append_drop] at q
    rw [← q]
    exact w
  by_cases hlt : i < xs.length
  · refine .inr ⟨wk.goes i G1 H1 cs1 hlt s1 (hC _ _ _ _ _ hN) d1, Pv (i + 1), fun σ' H' p' => ⟨_, by omega, rfl, p'⟩, fun v H3 y => ?_⟩
    have hx : xs[i]? = some xs[i] := by simp [hlt]
    obtain ⟨G3, s3, d3, pv⟩ := wk.yields i xs[i] G1 H1 cs1 v H3 hx s1 (hC _ _ _ _ _ hN) d1 y
    refine hgt xs[i] v G3 cs1 H3 σ1 pv d3 _ fun σ' hS => ?_
    have ed : xs = xs.take i ++ xs[i] :: xs.drop (i + 1) := by
      rw [← List.drop_eq_getElem_cons hlt, List.take_append_drop]
    have et : xs.take (i + 1) = xs.take i ++ [xs[i]] := by simp
    have el : (xs.take i).length = i := by rw [List.length_take]; omega
    have hb' := hb (xs.take i) xs[i] (xs.drop (i + 1)) s σ1 G1 G3 cs1 σ' ed hre s1 (by rw [el]; exact hN) s3 hS
    rw [el] at hb'
    refine hb' H3 d3 _ ?_
    have w1 : Wish W G Φ E ((forL f s (xs[i] :: xs.drop (i + 1))).bind g) := by
      rw [List.drop_eq_getElem_cons hlt] at w0
      exact w0
    rw [forL_cons] at w1
    have sG : Same G G3 := s1.trans s3
    cases hm : f s xs[i] with
    | nx s' => exact fun σ4 G4 cs4 H4 s4 d4 p4 => ⟨s', G4, cs4, hlt, by rw [et]; exact .nx hre hm, sG.trans s4, d4, p4⟩
    | ct s' => exact fun σ4 G4 cs4 H4 s4 d4 p4 => ⟨s', G4, cs4, hlt, by rw [et]; exact .ct hre hm, sG.trans s4, d4, p4⟩
    | bk s' =>
      rw [hm] at w1
      refine fun σ4 G4 cs4 H4 s4 d4 p4 => hr (i + 1) s' σ4 G4 cs4 hlt (sG.trans s4) p4 ?_ H4 d4 E (Wish.up (show Wish W G Φ E (g s') from w1) (sG.trans s4))
      rw [ed, forL_reach hre, forL_cons, hm]
    | rt r =>
      rw [hm] at w1
      exact fun v4 G4 cs4 H4 s4 d4 p4 => w1 v4 G4 cs4 H4 (sG.trans s4) d4 p4
    | er k =>
      rw [hm] at w1
      exact fun σ4 G4 cs4 H4 s4 d4 p4 => w1 σ4 G4 cs4 H4 (sG.trans s4) d4 p4
  · have e : i = xs.length := by omega
    subst e
    rw [List.drop_length] at w0
    rw [List.take_length] at hre
    refine .inl ⟨wk.stops G1 H1 cs1 s1 (hC _ _ _ _ _ hN) d1, hr _ s σ1 G1 cs1 (Nat.le_refl _) s1 hN ?_ H1 d1 E (Wish.up (show Wish W G Φ E (g s) from w0) s1)⟩
    have q := forL_reach (L := L) hre ([] : List α)
    rw [List.append_nil] at q
    exact q
end
/-- the values of a comprehension whose element changes things -/
def mapS {α β S : Type} (f : S → α → β × S) : S → List α → List β × S
  | s, [] => ([], s)
  | s, x :: xs => ((f s x).1 :: (mapS f (f s x).2 xs).1, (mapS f (f s x).2 xs).2)
theorem mapS_snoc {α β S : Type} (f : S → α → β × S) (s : S) (xs : List α) (x : α) : mapS f s (xs ++ [x]) = ((mapS f s xs).1 ++ [(f (mapS f s xs).2 x).1], (f (mapS f s xs).2 x).2) := by
  induction xs generalizing s with
  | nil => rfl
  | cons y ys ih =>
    show mapS f s (y :: (ys ++ [x])) = _
    simp only [mapS, ih, List.cons_append]
theorem mapS_length {α β S : Type} (f : S → α → β × S) (s : S) (xs : List α) : (mapS f s xs).1.length = xs.length := by
  induction xs generalizing s with
  | nil => rfl
  | cons y ys ih => simp only [mapS, List.length_cons, ih]
/-- what holds of the states all along, and of the values -/
theorem mapS_inv {α β S : Type} {f : S → α → β × S} (Is : S → Prop) (Iv : β → Prop) {xs : List α} (h : ∀ s x, x ∈ xs → Is s → Is (f s x).2 ∧ Iv (f s x).1) : ∀ {s : S}, Is s → Is (mapS f s xs).2 ∧ ∀ y ∈ (mapS f s xs).1, Iv y := by
  induction xs with
  | nil => exact fun hs => ⟨hs, by simp [mapS]⟩
  | cons a as ih =>
    intro s hs
    have h1 := h s a List.mem_cons_self hs
    have h2 := ih (fun s x hx => h s x (List.mem_cons_of_mem _ hx)) h1.1
    refine ⟨h2.1, fun y hy => ?_⟩
    rcases List.mem_cons.mp hy with e | hy
    · rw [e]; exact h1.2
    · exact h2.2 y hy
section
variable {X : Cx} {σ : L2.St} {G : Hp} {cs : Cells} {elt tg iter : Expr} {pos : Pos} {scope : Scope} {own : List (Str × Nat)} {α β S : Type} {xs : List α} {Pi : α → Hp → V → Prop} {r : β → Hp → V → Prop} {f : S → α → β × S} {s0 : S}
/-- [elt for tg in iter], elt changes cells: Nc tells the cells by the state -/
theorem ec_lc {Sx : α → Hp → L2.St → L2.St → Prop} {C : Cells → Prop} {k : V → Hp → Cells → Prop} (Nc : S → Hp → Cells → Prop) (hcalm : X.calm = true) (hN : X.N.Nodup) (ok : BlkOk X.N X.env.scope scope own) (hi : I X tg iter σ G cs C xs Pi) (ht : TgB X scope tg Pi Sx)
    (h0 : ∀ G1, Same G G1 → Nc s0 G1 cs) (hC : ∀ s G1 cs1 l us, Nc s G1 cs1 → C ((l, .lst us) :: cs1)) (hwipe : ∀ x G1 σ', Sx x G1 (wipe σ (own.map (·.2))) σ' → wipe σ' (own.map (·.2)) = wipe σ (own.map (·.2))) [∀ y, Mono (r y)]
    (he : ∀ pre x post, xs = pre ++ x :: post → ∀ s, s = (mapS f s0 pre).2 → ∀ G0 G1 cs1 σ' c, Same G G0 → Nc s G0 cs1 → Same G0 G1 → Sx x G1 (wipe σ (own.map (·.2))) σ' → ∀ s' H0 C cl fp, EC (X.blk s' H0 scope (compEnvC scope cl C X.env) fp) elt σ' G1 (c :: cs1) fun v G2 cs2 => ∃ cs3, cs2.Perm (c :: cs3) ∧ r (f s x).1 G2 v ∧ Nc (f s x).2 G2 cs3)
    (hsz : xs.length ≤ 16777215) (hk : ∀ l us G1 cs1, Same G G1 → Rs r G1 (mapS f s0 xs).1 us → Nc (mapS f s0 xs).2 G1 cs1 → k (.ref l) G1 ((l, .lst us) :: cs1))
    (hs : ∀ x, foldedSetIterable iter X.env x = pure x := by intro _; rfl) : EC X (.ListComp elt [⟨tg, iter, [], 0⟩] scope pos) σ G cs k := by
  obtain ⟨wi, hpi, hw⟩ := hi
  obtain ⟨g, hpg, hgt⟩ := ht
  intro G1 H s d Q q
  refine uE (pe_lc (te := teB X scope elt) hcalm hN hpi ok hpg (fun _ _ _ _ _ => pts_nil) (fun s H0 C cl fp => ⟨fun pins s1 σ H Q I h => (h s H0 C cl fp).run pins s1 I⟩) hs) ?_
  refine hw G1 H s d _ fun J G2 H2 s2 d2 wk => fun l hl => ?_
  let Pv : Nat → Hp → Prop := fun i H1 => ∃ G3 us cs3, i ≤ xs.length ∧ Same G2 G3 ∧ Desc G3 ((l, .lst us) :: cs3) H1 ∧ Rs r G3 (mapS f s0 (xs.take i)).1 us ∧ Nc (mapS f s0 (xs.take i)).2 G3 cs3
  refine ⟨fun i n H1 => n = xs.length - i ∧ Pv i H1, ⟨xs.length, rfl, G2, [], cs, Nat.zero_le _, Same.refl _, d2.newCell hl _, .nil, h0 G2 (s.trans s2)⟩, ?_⟩
  rintro i n H1 ⟨rfl, G3, us, cs3, hi, s3, d3, hr, hn⟩
  by_cases hlt : i < xs.length
  · refine .inr ⟨wk.goes i G3 H1 _ hlt s3 (hC _ _ _ _ _ hn) d3, Pv (i + 1), fun H' p' => ⟨_, by omega, rfl, p'⟩, fun v H3 y => ?_⟩
    have hx : xs[i]? = some xs[i] := by simp [hlt]
    have hm : xs[i] ∈ xs := List.getElem_mem hlt
    obtain ⟨G4, s4, d4, pv⟩ := wk.yields i xs[i] G3 H1 _ v H3 hx s3 (hC _ _ _ _ _ hn) d3 y
    have et : xs.take (i + 1) = xs.take i ++ [xs[i]] := by simp
    refine hgt xs[i] v G4 _ H3 _ pv d4 _ fun σ' hS => ⟨hwipe _ _ _ hS, ?_⟩
    have ed : xs = xs.take i ++ xs[i] :: xs.drop (i + 1) := by
      rw [← List.drop_eq_getElem_cons hlt, List.take_append_drop]
    refine iteT (B := Pv (i + 1) H3) fun s5 H0 C5 cl fp => he (xs.take i) xs[i] (xs.drop (i + 1)) ed _ rfl G3 G4 cs3 σ' (l, .lst us) ((s.trans s2).trans s3) hn s4 hS s5 H0 C5 cl fp G4 H3 (Same.refl _) d4 _ fun G5 H5 cs5 w s5 d5 ⟨cs6, pm, hw, hn5⟩ => ?_
    have d6 := d5.perm pm
    refine ⟨us, d6.at_ List.mem_cons_self, ?_, G5, us ++ [w], cs6, hlt, (s3.trans s4).trans s5, d6.write (k := 0) rfl _, ?_, ?_⟩
    · rw [← hr.length, mapS_length, List.length_take, sizeLine_eq]
      omega
    · rw [et, mapS_snoc]
      exact Rs.snoc hw (hr.mono (s4.trans s5))
    · rw [et, mapS_snoc]
      exact hn5
  · have e : i = xs.length := by omega
    subst e
    rw [List.take_length] at hr hn
    exact .inl ⟨wk.stops G3 H1 _ s3 (hC _ _ _ _ _ hn) d3, q G3 H1 _ _ (s2.trans s3) d3 (hk l us G3 cs3 ((s.trans s2).trans s3) hr hn)⟩
end
end J

/-! a variable that holds one of two defs; list(range(..)), in range(..), list.remove of ints -/
namespace J
open PySem L2 PyProof.Rows
open L2H (RoomH)
/-- one of two defs, told by a Bool -/
def rFn (mg : Str → Option Value) (x y : Str) (b : Bool) : Hp → V → Prop := fun _ v => ∃ f, mg (if b = true then y else x) = some (.ref f) ∧ v = .ref f
instance (mg : Str → Option Value) (x y : Str) (b : Bool) : Mono (rFn mg x y b) := ⟨fun _ h => h⟩
section
variable {X : Cx} {σ : L2.St} {G : Hp} {cs : Cells} {e a b o : Expr} {es : List Expr} {pos p : Pos}
theorem d_fn {x y z : Str} {c : Bool} {k n : Nat} {sp : Sp} (F : Fn0 X.prog X.w X.K X.mg X.base CX0 k z n sp) (hz : (if c = true then y else x) = z) (hg : Gl X z := by rfl) (hd : (z == ("__debug__" : Str)) = false := by decide) : D X (.Name z pos) σ G cs (rFn X.mg x y c) := by
  obtain ⟨f, fd, ps, F, hm, kp, b, _⟩ := F.ex
  exact d_glob (v := .ref f) hg ⟨.ref f, hm, rfl⟩ ⟨f, by rw [hz]; exact hm, rfl⟩ hd
theorem d_callF {I O : Type} {pre : I → Hp → List V → Prop} {r : I → O → Hp → V → Prop} {m : I → O} {k j n s : Nat} {x y : Str} {Ps : Hp → List V → Prop} {P : Hp → V → Prop} {f : Addr} (i : I) (F : Fn0 X.prog X.w X.K X.mg X.base CX0 k x n (SpP pre r m)) (hm0 : X.mg x = some (.ref f)) (hs : σ[s]? = some (some (.ref f))) (hr : Room j X.A) (hk : k ≤ j)
    (ha : A X (e :: es) σ G cs Ps) (hp : ∀ G1 vs, Same G G1 → Ps G1 vs → pre i G1 vs) (hP : ∀ G v, r i (m i) G v → P G v) (hN : X.N[s]? = some y := by rfl) (hv : Vis X.env.scope y := by first | exact Or.inl rfl | exact Or.inr (Or.inl rfl) | exact Or.inr (Or.inr rfl))
    (hdb : (y == ("__debug__" : Str)) = false := by decide) (hcd : (y == ("__classdict__" : Str)) = false := by decide)
    (he : starEach (e :: es) X.env = (false, eval e X.env) :: starEach es X.env := by exact star_plain rfl) (hpl : (backTo pos (starEach es X.env)).any (·.1) = false := by rfl) : D X (.Call (.Name y p) (e :: es) [] pos) σ G cs P := by
  obtain ⟨f', fd, ps, F, hm, kp, b, _⟩ := F.ex
  rw [hm0] at hm
  cases hm
  intro G1 H s1 d Q q
  refine uE (pe_callL (i := s) (f := f) (dvs := []) F (hr.mono hk) hN hv kp b .nil pass0 (sA X _) hdb hcd he hpl) ⟨hs, ha G1 H s1 d _ fun G2 H2 vs s2 d2 hvs => ?_⟩
  have hpp := hp G2 vs (s1.trans s2) hvs
  refine ⟨i, G2, cs, d2, ?_, fun v G3 H3 s3 d3 hv => q G3 H3 v (s2.trans s3) d3 (hP _ _ ?_)⟩
  · rw [List.append_nil]
    exact hpp
  · exact hv
/-- list(range(n)) -/
theorem n_listRg {j : Int} {p2 : Pos} (hc : X.calm = true) (hm : X.mg "list" = none) (hmr : X.mg "range" = none) (ha : D X a σ G cs (rI j)) (h : 0 ≤ j ∧ j ≤ 16777216) (hg : Gl X "list" := by rfl) (hgr : Gl X "range" := by rfl) (na : starEach [a] X.env = (false, eval a X.env) :: starEach [] X.env := by rfl)
    (na2 : starEach [.Call (.Name "range" p2) [a] [] pos] X.env = (false, eval (.Call (.Name "range" p2) [a] [] pos) X.env) :: starEach [] X.env := by rfl) {pos2 : Pos} : N X (.Call (.Name "list" p) [.Call (.Name "range" p2) [a] [] pos] [] pos2) σ G cs rI (rng 0 j) := fun G1 H s d Q q =>
  uE (pe_listRg hc hg hm (prg_1 hgr hmr (sE X a) na) na2) (ha G1 H s d _ fun G2 H2 v s2 d2 hv => ⟨j, hv, RgOk.of_le (by omega) h.2 (by omega) h.1, fun l hl => q G2 _ l _ s2 (d2.newCell hl _) (by
    have e : rgV 0 j = (rng 0 j).map V.int := by
      unfold rgV rng
      rw [List.map_map]
      rfl
    rw [e]
    exact Rs.of_map (fun _ => rfl) _)⟩)
end
theorem op_notIn_rng {X : Cx} : OpR X (compareOp .NotIn) (fun x y H Q => ∃ i a lo hi, x = V.int i ∧ y = V.ref a ∧ H a = some (.rng lo hi) ∧ Q (.bl (!decide (lo ≤ i ∧ i < hi))) H) := by
  intro pins s σ H x y v u Q I rx ry h
  obtain ⟨i, a, lo, hi, rfl, rfl, ha, q⟩ := h
  obtain ⟨k, rfl⟩ := rx
  obtain rfl : u = Value.ref a := ry
  obtain ⟨t1, t2, t3, ho⟩ := I.hok a _ ha
  show wpAny _ _ (do return Value.bool (!(← contains (Value.ref a) (Value.int i k)))) _ _ s
  refine wpAny_bind (wpAny_contains_slot (T := "range") ⟨_, ho, rfl⟩ F.slot_range_contains (call_meets F.slot_range_contains ⟨_, ho, rfl⟩ F.entry_range_contains (F.args_range_contains_2 _ _) (q_contains a lo hi i t1 t2 t3 k)
    ⟨ho, wpAny_truthy_bool (wpAny_pure ⟨.bl _, H, I, rfl, ?_⟩)⟩))
  rw [place1]
  exact q
theorem cr_range1 {X : Cx} : CallR X (.type "range") (fun vs H Q => ∃ j, vs = [V.int j] ∧ ∀ p, H p = none → Q (.ref p) (upd H p (.rng 0 j))) := by
  intro pins s σ H vs us Q I r h
  obtain ⟨j, rfl, q⟩ := h
  obtain ⟨u1, rfl, rj⟩ := r.one
  obtain ⟨t, rfl⟩ := rj
  refine call_range_1 ⟨.ref s.heap.objs.size, upd H s.heap.objs.size (.rng 0 j), I.laid (t' := s.toks + 2) (fun b o e => Heap.get?_push_of_some _ e) (Nat.le_refl _) ?_, rfl, q _ (I.hok.fresh (Nat.le_refl _))⟩
  exact ⟨_, _, _, Heap.get?_push_size _ rfl⟩
section
variable {X : Cx} {σ : L2.St} {G : Hp} {cs : Cells} {e a b o : Expr} {es : List Expr} {pos p : Pos}
/-- range(n) as a value -/
def rRg (j : Int) : Hp → V → Prop := fun G v => ∃ a, v = .ref a ∧ G a = some (.rng 0 j)
theorem d_rg {j : Int} (hm : X.mg "range" = none) (ha : D X a σ G cs (rI j)) (hg : Gl X "range" := by rfl) (na : starEach [a] X.env = (false, eval a X.env) :: starEach [] X.env := by rfl) (hv : bootBuiltins "range" = some (.type "range") := by decide +kernel) (hpl : (backTo pos (starEach [] X.env)).any (·.1) = false := by rfl) :
    D X (.Call (.Name "range" p) [a] [] pos) σ G cs (rRg j) := fun G1 H s d Q q =>
  uE (pe_callTy cr_range1 hg hm hv (sA X [a]) (he := na) (hpl := hpl)) (a_cons ha a_nil na G1 H s d _ fun G2 H2 vs s2 d2 hvs => by
    obtain ⟨v, ws, e1, h1, h2⟩ := hvs
    cases h2
    cases h1
    refine ⟨j, e1, fun l hl => ?_⟩
    have sf : Same G2 (upd G2 l (.rng 0 j)) := Same.fresh d2.same hl _
    exact q _ _ _ (s2.trans sf) (d2.new hl _) ⟨l, rfl, upd_same⟩)
instance (j : Int) : Mono (rRg j) := ⟨fun s ⟨a, e, h⟩ => ⟨a, e, s _ _ h⟩⟩
theorem d_nrg {i j : Int} (ha : D X a σ G cs (rI i)) (hb : D X b σ G cs (rRg j)) (hm : behindInMarks .NotIn b = false := by rfl) : D X (.Compare a [.NotIn] [b] pos) σ G cs (rB (!decide (0 ≤ i ∧ i < j))) :=
  d_cmp op_notIn_rng hm ha hb fun G1 H x y s d hx hy Q q => by
    obtain ⟨l, e, h⟩ := hy
    exact ⟨i, l, 0, j, hx, e, d.same _ _ h, q⟩
theorem t_nrg {i j : Int} (ha : D X a σ G cs (rI i)) (hb : D X b σ G cs (rRg j)) (hm : behindInMarks .NotIn b = false := by rfl) : T X (.Compare a [.NotIn] [b] pos) σ G cs (!decide (0 ≤ i ∧ i < j)) :=
  t_cmp op_notIn_rng hm ha hb fun G1 H x y s d hx hy Q q => by
    obtain ⟨l, e, h⟩ := hy
    exact ⟨i, l, 0, j, hx, e, d.same _ _ h, q⟩
end
section
variable {ε S L R : Type} {X : Cx} {W : ε → L2.St → Hp → Prop} {σ : L2.St} {G : Hp} {cs : Cells} {Φ : Po ε S L R} {m : Out ε S L R} {rest : List Stmt} {e o : Expr} {pos p : Pos}
theorem erase_at {ns : List Int} {k : Int} (h : k ∈ ns) : ∃ j : Nat, ns[j]? = some k ∧ (∀ m : Nat, m < j → ns[m]? ≠ some k) ∧ ns.eraseIdx j = ns.erase k := by
  induction ns with
  | nil => cases h
  | cons a as ih =>
    by_cases e : a = k
    · subst e
      exact ⟨0, rfl, fun m hm => absurd hm (by omega), by simp⟩
    · obtain ⟨j, h1, h2, h3⟩ := ih ((List.mem_cons.mp h).resolve_left fun q => e q.symm)
      refine ⟨j + 1, h1, fun m hm => ?_, ?_⟩
      · cases m with
        | zero => exact fun q => e (Option.some.inj q)
        | succ m => exact h2 m (by omega)
      · rw [List.erase_cons_tail (by simpa using e), ← h3]
        rfl
/-- xs.remove(e), xs the cell at k, of ints -/
theorem b_remove (k : Nat) {l : Addr} {vs : List V} {ns : List Int} {i : Int} {apos cpos : Pos} (hk : cs[k]? = some (l, .lst vs)) (ho : D X o σ G cs (rV (.ref l))) (he : D X e σ G cs (rI i)) (hr : Rs rI G ns vs) (hi : i ∈ ns)
    (q : ∀ us G1, Same G G1 → Rs rI G1 (ns.erase i) us → B X W rest σ G1 (cs.set k (l, .lst us)) Φ m) (hs : swapsWith (.Call (.Attribute o "remove" apos) [e] [] cpos) none pos.line X.env = pure false := by rfl)
    (hbase : attributeBase o "remove" X.env (eval o X.env) = eval o X.env := by rfl)
    (hfew : ((backTo cpos (starEach [e] X.env)).all (fun x => !x.1) && (backToKw cpos (keywordEach [] X.env)).all (fun x => x.1.isSome) && decide ([e].length + ([] : List Keyword).length + (if ([] : List Keyword).isEmpty then 0 else 1) < 30)) = true := by rfl)
    (hline : (apos.endLine == cpos.line) = true := by rfl) (hst : starEach [e] X.env = (false, eval e X.env) :: starEach [] X.env := by rfl) (hplain : (backTo cpos (starEach [] X.env)).any (·.1) = false := by rfl) :
    B X W (.Expr (.Call (.Attribute o "remove" apos) [e] [] cpos) pos :: rest) σ G cs Φ m :=
  b_cons (ps_expr (pe_bm PySem.F.plainAttrs_list PySem.F.slot_list_remove PySem.F.type_list_remove mt_remove (sE X o) (pa_cons (sE X e) pa_nil hst) hbase hfew hline hst hplain) hs) fun H d E w =>
    ho G H (Same.refl _) d _ fun G2 H2 u s2 d2 hu => by
      have eu : u = .ref l := hu
      subst eu
      refine ⟨.inl ⟨rfl, vs, SqL.of (d2.at_ (List.mem_of_getElem? hk))⟩, he G2 H2 s2 d2 _ fun G3 H3 v s3 d3 hv => ?_⟩
      obtain ⟨j, h1, h2, h3⟩ := erase_at hi
      have hv' : v = .int i := hv
      have e0 : vs = ns.map V.int := by
        have q := rs_int hr
        exact q
      have h0 := d3.at_ (List.mem_of_getElem? hk)
      refine ⟨l, ns, i, j, rfl, by rw [hv'], by rw [← e0]; exact h0, h1, h2, ?_⟩
      rw [h3]
      exact q _ G3 (s2.trans s3) (Rs.of_map (fun _ => rfl) _) _ (d3.write hk _) E (w.up (s2.trans s3))
end
/-! isinstance(e, ValueError), e the error in hand -/
theorem tail_mem {K : PySem.W.Frag} {T : String} {r0 : List Value} : ∀ bm : List Value, PySem.W.tailIn K (.type T :: r0) bm = true → (Value.type T) ∈ bm
  | [], h => by
    unfold PySem.W.tailIn at h
    exact nomatch (beq_iff_eq.mp h)
  | v :: r, h => by
    unfold PySem.W.tailIn at h
    rcases Bool.or_eq_true_iff.mp h with h | h
    · rw [beq_iff_eq.mp h]
      exact List.mem_cons_self
    · split at h
      · split at h
        · simp only [Bool.and_eq_true] at h
          exact List.mem_cons_of_mem _ (tail_mem r h.2)
        · cases h
      · cases h
theorem exc_value {K : PySem.W.Frag} {C : Addr} (h : PySem.W.excIn K C [.type "ValueError", .type "Exception", .type "BaseException", .type "object"] "ValueError.__new__" = true) : PySem.W.kitOne K (.ref C) (.type "ValueError") = some true := by
  unfold PySem.W.excIn at h
  split at h
  · rename_i d cd sl hl
    split at h
    · rename_i C' bm _ _ _ _ n _ hm hs
      have hc : PySem.W.clsIn K C = some cd := by
        unfold PySem.W.clsIn
        rw [hl]
      have ht : PySem.W.tailIn K [.type "ValueError", .type "Exception", .type "BaseException", .type "object"] bm = true := by
        simp only [Bool.and_eq_true] at h
        exact h.1.1.2
      have hin : (Value.type "ValueError") ∈ bm := by
        exact tail_mem bm ht
      have he : cd.mro.isEmpty = false := by rw [hm]; rfl
      have hk : cd.mro.contains (.type "ValueError") = true := by
        rw [hm]
        exact List.contains_iff_mem.mpr (List.mem_cons_of_mem _ hin)
      show (if (Value.ref C == Value.type "ValueError") = true then some true else PySem.W.kitCls K (.ref C) (.type "ValueError")) = some true
      rw [if_neg (by intro z; exact nomatch (beq_iff_eq.mp z))]
      show (if PySem.W.kitMeta "ValueError" = true then PySem.W.subIn K (.ref C) (.type "ValueError") else none) = some true
      rw [if_pos (by decide +kernel)]
      show PySem.W.mroIn K C (.type "ValueError") = some true
      unfold PySem.W.mroIn
      rw [hc]
      show (if cd.mro.isEmpty = true then none else some (cd.mro.contains (.type "ValueError"))) = some true
      rw [he, if_neg (by decide), hk]
    · cases h
  · cases h
section
variable {n : Nat} {nm : _root_.Fin n → Str} {adr : _root_.Fin n → Addr} {B0 : Addr} {X : Cx} {σ : L2.St} {G : Hp} {cs : Cells} {e : Expr} {pos p : Pos}
theorem d_isV {b : Addr} {ob : Obj} {py : Pos} (i : _root_.Fin n) (Er : Errs X.K X.mg nm adr B0) (hz : Zc (.ref (adr i)) none ob) (hf : ∃ u, ob.data = .fields u) (hp : (b, ob) ∈ X.pn) (hm : X.mg "isinstance" = none) (hmv : X.mg "ValueError" = none) (he : D X e σ G cs (rV (.ref b)))
    (hy : bootBuiltins "ValueError" = some (.type "ValueError") := by decide +kernel) (hg : Gl X "isinstance" := by rfl) (hgy : Gl X "ValueError" := by rfl) (hny : ("ValueError" : Str) ≠ "__name__" := by decide) (hdy : (("ValueError" : Str) == ("__debug__" : Str)) = false := by decide) (hst : starEach [e, .Name "ValueError" py] X.env = (false, eval e X.env) :: starEach [.Name "ValueError" py] X.env := by rfl) (hst2 : starEach [.Name "ValueError" py] X.env = (false, eval (.Name "ValueError" py) X.env) :: starEach [] X.env := by rfl)
    (hpl : (backTo pos (starEach [.Name "ValueError" py] X.env)).any (·.1) = false := by rfl) : D X (.Call (.Name "isinstance" p) [e, .Name "ValueError" py] [] pos) σ G cs (rB true) := by
  refine d_callB (Ps := aC (rV (.ref b)) (aC (rV (.ty "ValueError")) aN)) (call_isP (Er.one i).cl hz hf hp) hm (a_cons (P := rV (.ref b)) he (a_cons (P := rV (.ty "ValueError")) ?_ a_nil hst2) hst) (fun G1 H vs s d h Q q => ?_) hg (he := hst) (hpl := hpl)
  · exact d_by (pe_bltn hgy hmv hy (v := .ty "ValueError") rfl hny hdy) fun G1 H s d Q q => q G1 H _ (Same.refl _) d rfl
  · obtain ⟨v, w, rfl, hv, v2, w2, rfl, hv2, hw⟩ := h
    cases (show w2 = [] from hw)
    cases (show v = V.ref b from hv)
    cases (show v2 = V.ty "ValueError" from hv2)
    exact ⟨_, _, _, rfl, fun u z => z, exc_value (Er.one i).ex, q G1 H _ (Same.refl _) d rfl⟩
end
/-! what holds of a mirror, by its steps -/
theorem letV_p {α β : Type} {P : β → Prop} {x : α} {f : α → β} (h : ∀ z, z = x → P (f z)) : P (letV x f) := h x rfl
theorem ite_p {β : Type} {P : β → Prop} {c : Prop} [Decidable c] {a b : β} (h1 : c → P a) (h2 : ¬c → P b) : P (if c then a else b) := by
  by_cases h : c
  · rw [if_pos h]
    exact h1 h
  · rw [if_neg h]
    exact h2 h
/-! comparison of data within an except suite -/
section
variable {α : Type} {r : α → Hp → V → Prop} {x y : α} [DecidableEq α] [∀ z, Mono (r z)] {k : Nat} {X : Cx} {σ : L2.St} {G : Hp} {cs : Cells} {a b : Expr} {pos : Pos}
theorem d_eqDh {K : PySem.W.Frag} [q : EqR K r] (hr : RoomH k X.A) (ha : D X a σ G cs (r x)) (hb : D X b σ G cs (r y)) (hx : q.ok x) (hy : q.ok y) (hd : q.dep ≤ 64 := by exact Nat.le_of_ble_eq_true rfl) (hK : X.K = K := by rfl) : D X (.Compare a [.Eq] [b] pos) σ G cs (rB (decide (x = y))) := by
  subst hK
  exact d_cmp (op_eqD (Nat.lt_of_le_of_lt (by omega) hr.un)) (nomark _) ha hb fun G1 H u v s d hu hv Q qq => ⟨_, _, q.dp hu d.same, q.dp hv d.same, shp hx hd, shp hy hd, by rw [eqv_dec]; exact qq⟩
theorem d_neDh {K : PySem.W.Frag} [q : EqR K r] (hr : RoomH k X.A) (ha : D X a σ G cs (r x)) (hb : D X b σ G cs (r y)) (hx : q.ok x) (hy : q.ok y) (hd : q.dep ≤ 64 := by exact Nat.le_of_ble_eq_true rfl) (hK : X.K = K := by rfl) : D X (.Compare a [.NotEq] [b] pos) σ G cs (rB (!decide (x = y))) := by
  subst hK
  exact d_cmp (op_neD (Nat.lt_of_le_of_lt (by omega) hr.un)) (nomark _) ha hb fun G1 H u v s d hu hv Q qq => ⟨_, _, q.dp hu d.same, q.dp hv d.same, shp hx hd, shp hy hd, by rw [eqv_dec]; exact qq⟩
theorem t_eqDh {K : PySem.W.Frag} [q : EqR K r] (hr : RoomH k X.A) (ha : D X a σ G cs (r x)) (hb : D X b σ G cs (r y)) (hx : q.ok x) (hy : q.ok y) (hd : q.dep ≤ 64 := by exact Nat.le_of_ble_eq_true rfl) (hK : X.K = K := by rfl) : T X (.Compare a [.Eq] [b] pos) σ G cs (decide (x = y)) := by
  subst hK
  exact t_cmp (op_eqD (Nat.lt_of_le_of_lt (by omega) hr.un)) (nomark _) ha hb fun G1 H u v s d hu hv Q qq => ⟨_, _, q.dp hu d.same, q.dp hv d.same, shp hx hd, shp hy hd, by rw [eqv_dec]; exact qq⟩
end
end J

/-! enumerate(text); more of what changes cells within expressions -/
namespace J
open PySem PySem.Spec L2 PyProof.Rows
/-- the signs of x with their places, in new pairs -/
def IteS (x : Str) : It :=
  ⟨fun i _ => i < x.cps.size, fun i H v H' => ∃ T c, v = .ref T ∧ H T = none ∧ H' = upd H T (.tup [.int (i : Nat), .str ⟨#[c]⟩]) ∧ x.cps[i]? = some c, fun i _ => i = x.cps.size⟩
theorem draws_str {prog : Program} {w : World} {A : Around} (hh : A.handled = none) (it : Addr) (x : Str) (t : Tok) (ty : String) (hty : ty = "str_ascii_iterator" ∨ ty = "str_iterator") :
    Draws prog w A it [it] x.cps.size (fun i v => ∃ c u, x.cps[i]? = some c ∧ v = .str ⟨#[c]⟩ u) (fun i h => h.IsStrIter it ty x t i) := by
  rcases hty with e | e
  · rw [e]; exact Draws.strAscii hh it x t
  · rw [e]; exact Draws.strWide hh it x t
theorem turn_enumS {P : Program} {w : World} {K : PySem.W.Frag} {elts : List Expr} {kk : Nat} {tpos : Pos} (x : Str) (t : Tok) (ty : String) (hty : ty = "str_ascii_iterator" ∨ ty = "str_iterator") (e it : Addr) :
    Turn P w K (.Tuple elts kk tpos) (IteS x) [e, it] e (fun i h => (∃ old, IsEnum h e it ((i : Nat) : Int) old) ∧ h.IsStrIter it ty x t i ∧ e ≠ it) where
  mem := by simp
  obj := fun i h st b hb => by
    obtain ⟨⟨old, he⟩, ⟨o, ho, hc, hd⟩, _⟩ := st
    have e' : b = e ∨ b = it := by simpa using hb
    rcases e' with z | z
    · rw [z]; exact ⟨_, he, fun v q => nomatch q⟩
    · rw [z]; exact ⟨o, ho, fun v q => by rw [hd] at q; cases q⟩
  keep := fun i h h' st k => let ⟨⟨old, he⟩, hi, hne⟩ := st; ⟨⟨old, k e (by simp) _ he⟩, (let ⟨o, ho, r⟩ := hi; ⟨o, k it (by simp) o ho, r⟩), hne⟩
  item := by
    intro X hP hw hK hc i pins s σ H E I hf st hg
    subst hP hw hK
    obtain ⟨⟨old, he⟩, hit, hne⟩ := st
    have hel : e < s.heap.objs.size := Heap.lt_size he
    have hil : it < s.heap.objs.size := by obtain ⟨_, q, _⟩ := hit; exact Heap.lt_size q
    have hd : X.A.in1.handled = none := I.ok.hd hc
    refine wpAny_pyNext_enum_itemD (draws_str (prog := X.prog) (w := X.w) hd it x t ty hty) he hit hg hne (by simpa using hne) fun v h' tk hP ho hit' hT hsz hk => ?_
    obtain ⟨c, u, hcx, rfl⟩ := hP
    refine ⟨_, rfl, wpAny_letOwnedTupleGo_enum (s := { s with heap := h', toks := tk + 1 }) ho fun h'' he' sb => ?_⟩
    have hT2 : h''.get? s.heap.objs.size = some { cls := .type "tuple", data := .seq #[.int i tk, .str ⟨#[c]⟩ u] } := (sb.2 _ (Nat.ne_of_gt hel)).trans hT
    have new : ObjOk X.prog X.w (upd H s.heap.objs.size (.tup [.int (i : Nat), .str ⟨#[c]⟩])) h'' s.heap.objs.size (.tup [.int (i : Nat), .str ⟨#[c]⟩]) :=
      ⟨by show 2 ≤ sizeLine; decide, [.int i tk, .str ⟨#[c]⟩ u], .cons ⟨_, rfl⟩ (.cons ⟨_, rfl⟩ .nil), ⟨_, hT2, rfl, _, rfl⟩⟩
    have I1 : Inv X pins σ (upd H s.heap.objs.size (.tup [.int (i : Nat), .str ⟨#[c]⟩])) { s with heap := h'', toks := tk + 1 } :=
      I.turnedNew (ch := [e, it]) (fun b ob hb q => (sb.2 b (fun z => hb (by simp [z]))).trans (hk b ob (fun z => hb (by simp [z])) (fun z => hb (by simp [z])) q)) hf (Nat.le_refl _) new
    refine ⟨.ref s.heap.objs.size, _, I1, rfl, ⟨_, c, rfl, I.hok.fresh (Nat.le_refl _), rfl, hcx⟩, ⟨⟨.str ⟨#[c]⟩ u, ?_⟩, (let ⟨o, ho, r⟩ := hit'; ⟨o, (sb.2 it (Ne.symm hne)).trans ho, r⟩), hne⟩, fun b hb => ?_⟩
    · have e1 : ((i + 1 : Nat) : Int) = (i : Int) + 1 := by omega
      rw [e1]; exact he'
    · have hb' : b < s.heap.objs.size := by
        have e' : b = e ∨ b = it := by simpa using hb
        rcases e' with z | z
        · rw [z]; exact hel
        · rw [z]; exact hil
      rw [upd_ne (Nat.ne_of_lt hb')]
      exact (hf b hb).1
  done := by
    intro X hP hw hK hc i pins s σ H E I hf st hg
    subst hP hw hK
    obtain ⟨⟨old, he⟩, hit, hne⟩ := st
    obtain ⟨f0, f1, f2, f3, f4, f5⟩ := hf it (by simp)
    have hd : X.A.in1.handled = none := I.ok.hd hc
    have D := draws_str (prog := X.prog) (w := X.w) hd it x t ty hty
    have ei : i = x.cps.size := hg
    subst ei
    exact wpAny_pyNext_enum_endD D he hit fun h' eb => ⟨rfl, I.turned (t' := s.toks) (fun b o hb q => eb b o hb q) f0 f1 f3 f4 f5⟩
  self := fun A i s Q E st h => let ⟨⟨_, he⟩, _⟩ := st; wpAny_pyIter_enum he h
def iEnumS (ta : TA) : TI := fun σ H R => ta σ H fun vs H1 => ∃ x, vs = [.str x] ∧ R (IteS x) H1
theorem pi_enumS {X : Cx} {e : Expr} {ta : TA} {p pos tpos : Pos} {elts : List Expr} {kk : Nat} (hg : Gl X "enumerate") (hm : X.mg "enumerate" = none) (ha : PA X [e] ta) (hs : starEach [e] X.env = [(false, eval e X.env)] := by rfl) :
    PI X (.Tuple elts kk tpos) (.Call (.Name "enumerate" p) [e] [] pos) (iEnumS ta) := by
  refine ⟨fun pins s σ H R I h => ?_⟩
  refine Call_ (ld_blt I hg hm boot_enumerate (PyProof.Rows.callWith_type1 (thn (ha.run pos pins s σ H _ I h) fun us s1 ⟨vs, H1, I1, r1, q1⟩ => ?_) hs rfl))
  obtain ⟨x, ex, q⟩ := q1
  subst ex
  cases r1 with
  | cons r rr =>
    cases rr
    obtain ⟨t, rfl⟩ := r
    refine call_enumerate_str fun h' he hit hsz hk => wpAny_pyIter_enum he ?_
    have I2 : Inv X pins σ H1 { s1 with heap := h' } := I1.kept (t' := s1.toks) hk
    have hty : strIterType x = "str_ascii_iterator" ∨ strIterType x = "str_iterator" := by
      unfold strIterType
      split
      · exact .inl rfl
      · exact .inr rfl
    refine ⟨s1.heap.objs.size + 1, [s1.heap.objs.size + 1, s1.heap.objs.size], _, _, H1, rfl, I2, turn_enumS x t (strIterType x) hty (s1.heap.objs.size + 1) s1.heap.objs.size, ⟨⟨.none, he⟩, hit, Nat.succ_ne_self _⟩, fun b hb => ?_, q⟩
    have e' : b = s1.heap.objs.size + 1 ∨ b = s1.heap.objs.size := by simpa using hb
    have hle : s1.heap.objs.size ≤ b := by
      rcases e' with z | z
      · rw [z]; exact Nat.le_add_right _ _
      · rw [z]; exact Nat.le_refl _
    exact I1.fpOk hle (I1.hok.fresh hle)
section
variable {X : Cx} {σ : L2.St} {G : Hp} {cs : Cells} {e a b : Expr} {es : List Expr} {pos p : Pos}
theorem wd_enumS {l : List Nat} {C : Cells → Prop} : WalkD (IteS (SX.S l)) (enumL l) G C (rT X.K (cc rI (c0 rC))) :=
  ⟨fun i G1 H cs h s c d => by
    rw [enumL_length] at h
    show i < (SX.S l).cps.size
    have e : (SX.S l).cps.size = l.length := SX.S_len l
    rw [e]
    exact h, fun G1 H cs s c d => by
    show (enumL l).length = (SX.S l).cps.size
    have e : (SX.S l).cps.size = l.length := SX.S_len l
    rw [e, enumL_length], fun i x G1 H cs v H' hx s c d y => by
    obtain ⟨e1, e2⟩ := enumL_getE hx
    obtain ⟨T, n, h1, h2, h3, h4⟩ := y
    have h5 : l[i]? = some n := by simpa using h4
    rw [e2] at h5
    cases h5
    subst h3
    have sf : Same G1 (upd G1 T (.tup [.int (i : Nat), .str ⟨#[x.2]⟩])) := Same.fresh d.same h2 _
    refine ⟨_, sf, d.new h2 _, T, [.int (i : Nat), .str ⟨#[x.2]⟩], h1, SqT.of upd_same, .int (i : Nat), [.str ⟨#[x.2]⟩], rfl, ?_, .str ⟨#[x.2]⟩, rfl, rfl⟩
    show V.int _ = V.int _
    rw [e1]⟩
theorem i_enumS {elts : List Expr} {kk : Nat} {tpos : Pos} {l : List Nat} (hm : X.mg "enumerate" = none) (h : D X a σ G cs (rS l)) (hg : Gl X "enumerate" := by rfl) (hs : starEach [a] X.env = [(false, eval a X.env)] := by rfl) (hst : starEach [a] X.env = (false, eval a X.env) :: starEach [] X.env := by rfl) :
    I X (.Tuple elts kk tpos) (.Call (.Name "enumerate" p) [a] [] pos) σ G cs (fun _ => True) (enumL l) (rT X.K (cc rI (c0 rC))) :=
  ⟨_, pi_enumS hg hm (sA X [a]) hs, fun G1 H s d Rr k => a_cons h a_nil hst G1 H s d _ fun G2 H2 vs s2 d2 hvs => by
    obtain ⟨v, ws, e1, k1, k2⟩ := hvs
    cases k2
    have ev : v = .str (SX.S l) := k1
    exact ⟨SX.S l, by rw [e1, ev], k _ G2 H2 s2 d2 wd_enumS⟩⟩
/-- a list display with a star at its end: [a, b, *xs] -/
theorem a_star {α : Type} {r : α → Hp → V → Prop} {xs : List α} {p' : Pos} [∀ x, Mono (r x)] (he : D X e σ G cs (rdL X.K cs r xs)) (hs : starEach [.Starred e p'] X.env = (true, eval e X.env) :: starEach [] X.env := by rfl) : A X [.Starred e p'] σ G cs (fun G1 vs => Rs r G1 xs vs) := fun G1 H s d Q q =>
  uA (StX.pa_star (sE X e) pa_nil hs) (he G1 H s d _ fun G2 H2 v s2 d2 hv => by
    obtain ⟨l, vs, ev, hl, hr⟩ := hv.sq d2
    exact ⟨l, vs, ev, .inr hl, by
      show Q (vs ++ []) H2
      rw [List.append_nil]
      exact q G2 H2 vs s2 d2 hr⟩)
theorem ls_star {α : Type} {r : α → Hp → V → Prop} {xs : List α} : Ls r (fun G1 vs => Rs r G1 xs vs) xs := fun G vs h => h
/-- a slice's part that may change cells -/
def OC (X : Cx) (eo : Option Expr) (σ : L2.St) (G : Hp) (cs : Cells) (k : Option Int → Hp → Cells → Prop) : Prop :=
  ∀ G1 H, Same G G1 → Desc G1 cs H → ∀ Q : Option Int → Hp → Prop, (∀ G2 H2 cs2 o, Same G1 G2 → Desc G2 cs2 H2 → k o G2 cs2 → Q o H2) → wO X eo σ H Q
theorem oc_D {o : Option Int} {eo : Option Expr} {k : Option Int → Hp → Cells → Prop} (h : DO X eo σ G cs o) (c : ∀ G1, Same G G1 → k o G1 cs) : OC X eo σ G cs k := fun G1 H s d Q q => h G1 H s d Q fun G2 H2 s2 d2 => q G2 H2 cs o s2 d2 (c G2 (s.trans s2))
theorem oc_E {k : Option Int → Hp → Cells → Prop} (h : EC X e σ G cs fun v G1 cs1 => ∃ i, v = .int i ∧ k (some i) G1 cs1) : OC X (some e) σ G cs k := fun G1 H s d Q q =>
  ⟨fun pins s0 Iv => (po_some (sE X e)).run pins s0 σ H Q Iv (h G1 H s d _ fun G2 H2 cs2 v s2 d2 ⟨i, ev, hk⟩ => ⟨i, ev, q G2 H2 cs2 (some i) s2 d2 hk⟩)⟩
/-- a slice -/
def SC (r : V → Option Int → Option Int → Hp → VK → Prop) (x : V) (l u : Option Int) (G : Hp) (cs : Cells) (k : V → Hp → Cells → Prop) : Prop :=
  ∀ G1 H, Same G G1 → Desc G1 cs H → ∀ Q : VK, (∀ G2 H2 cs2 v, Same G1 G2 → Desc G2 cs2 H2 → k v G2 cs2 → Q v H2) → r x l u H Q
theorem ec_slice {lo hi : Option Expr} {p2 : Pos} {r : V → Option Int → Option Int → Hp → VK → Prop} {k : V → Hp → Cells → Prop} (hr : SlR X r) (h : EC X a σ G cs fun x G1 cs1 => OC X lo σ G1 cs1 fun l G2 cs2 => OC X hi σ G2 cs2 fun u G3 cs3 => SC r x l u G3 cs3 k) : EC X (.Subscript a (.Slice lo hi none p2) pos) σ G cs k := fun G1 H s d Q q =>
  uE (pe_slice hr (sE X a) (sO lo) (sO hi)) (h G1 H s d _ fun G2 H2 cs2 x s2 d2 h2 => h2 G2 H2 (Same.refl _) d2 _ fun G3 H3 cs3 l s3 d3 h3 => h3 G3 H3 (Same.refl _) d3 _ fun G4 H4 cs4 u s4 d4 h4 => h4 G4 H4 (Same.refl _) d4 Q fun G5 H5 cs5 v s5 d5 h5 => q G5 H5 cs5 v (((s2.trans s3).trans s4).trans s5) d5 h5)
theorem cut_S {z : List Nat} {l u : Option Int} : cutS (SX.S z) l u = SX.S (cutL z l u) := by
  unfold cutS cutL
  rw [SX.S_len]
theorem sc_str {z : List Nat} {x : V} {l u : Option Int} {k : V → Hp → Cells → Prop} (hx : rS z G x) (hz : z.length ≤ sizeLine) (c : ∀ G1, Same G G1 → k (.str (SX.S (cutL z l u))) G1 cs) : SC rSlS x l u G cs k := fun G1 H s d Q q =>
  ⟨SX.S z, hx, by rw [SX.S_len]; exact hz, by rw [cut_S]; exact q G1 H cs _ (Same.refl _) d (c G1 s)⟩
theorem sc_lst {α : Type} {r : α → Hp → V → Prop} [∀ x, Mono (r x)] {xs : List α} {x : V} {l u : Option Int} {k : V → Hp → Cells → Prop} (hx : rdL X.K cs r xs G x) (c : ∀ v G1, Same G G1 → rL X.K r (cutL xs l u) G1 v → k v G1 cs) : SC (rSlL X.K) x l u G cs k := fun G1 H s d Q q => by
  obtain ⟨y, vs, e1, h1, h2⟩ := (Mono.mono s hx).sq d
  refine ⟨y, vs, e1, h1, fun p hp => ?_⟩
  have sf : Same G1 (upd G1 p (.lst (cutV vs l u))) := Same.fresh d.same hp _
  exact q _ _ cs _ sf (d.new hp _) (c _ _ (s.trans sf) ⟨p, _, rfl, SqL.of upd_same, (rs_cut h2 l u).mono sf⟩)
/-- xs + ys, new and frozen -/
theorem rc_catL {α : Type} {r : α → Hp → V → Prop} [∀ x, Mono (r x)] {xs ys : List α} {x y : V} {k : V → Hp → Cells → Prop} (hx : rdL X.K cs r xs G x) (hy : rdL X.K cs r ys G y) (hl : xs.length + ys.length ≤ sizeLine) (c : ∀ v G1, Same G G1 → rL X.K r (xs ++ ys) G1 v → k v G1 cs) : RC (rCatW X.K) x y G cs k := fun G1 H s d Q q => by
  obtain ⟨l, vs, e, h1, h2⟩ := (Mono.mono s hx).sq d
  obtain ⟨l', vs', e', h1', h2'⟩ := (Mono.mono s hy).sq d
  refine ⟨l, l', vs, vs', e, e', h1, h1', by rw [← h2.length, ← h2'.length]; exact hl, fun p hp => ?_⟩
  have sf : Same G1 (upd G1 p (.lst (vs ++ vs'))) := Same.fresh d.same hp _
  exact q _ _ cs _ sf (d.new hp _) (c _ _ (s.trans sf) ⟨p, _, rfl, SqL.of upd_same, (Rs.append h2' h2).mono sf⟩)
/-- o.join(e) -/
theorem ec_join {z : List Nat} {o : Expr} {apos : Pos} {k : V → Hp → Cells → Prop} (ho : D X o σ G cs (rS z)) (he : EC X e σ G cs fun v G1 cs1 => ∃ ws : List (List Nat), rdL X.K cs1 rS ws G1 v ∧ (ws.map List.length).sum + ws.length * z.length ≤ 16777216 ∧ ∀ G2, Same G1 G2 → k (.str (SX.S (joiL z ws))) G2 cs1)
    (hs : starEach [e] X.env = [(false, eval e X.env)] := by rfl) (hbase : attributeBase o "join" X.env (eval o X.env) = eval o X.env := by rfl) (hline : (apos.endLine == pos.line) = true := by rfl) : EC X (.Call (.Attribute o "join" apos) [e] [] pos) σ G cs k := fun G1 H s d Q q =>
  uE (pe_join (sE X o) (sE X e) hs hbase hline) (ho G1 H s d _ fun G2 H2 u s2 d2 hu => ⟨⟨_, hu⟩, he G2 H2 (s.trans s2) d2 _ fun G3 H3 cs3 v s3 d3 hv => by
    obtain ⟨ws, hr, hz, hk⟩ := hv
    obtain ⟨l, vs, e1, hl, hr⟩ := hr.sq d3
    have ev := rs_str hr
    subst ev
    refine ⟨SX.S z, l, ws.map SX.S, hu, by rw [e1], .inl hl, ?_, q G3 H3 cs3 _ (s2.trans s3) d3 ?_⟩
    · rw [SX.lens, List.length_map, SX.S_len]
      exact hz
    · have e9 : V.str (Txt.join (SX.S z) (ws.map SX.S)) = V.str (SX.S (joiL z ws)) := by
        unfold joiL
        rw [S_tlS]
      rw [e9]
      exact hk G3 (Same.refl _)⟩)
end
section
variable {ε S' L R' : Type} {X : Cx} {W : ε → L2.St → Hp → Prop} {Φ : Po ε S' L R'} {m : Out ε S' L R'} {rest : List Stmt} {σ : L2.St} {G : Hp} {cs : Cells} {elt tg iter : Expr} {pos spos : Pos} {scope : Scope} {own : List (Str × Nat)} {α β S : Type} {xs : List α} {Pi : α → Hp → V → Prop} {r : β → Hp → V → Prop} {f : S → α → β × S} {s0 : S}
theorem b_setLcC (i : Nat) {y : Str} {py : Pos} {Sx : α → Hp → L2.St → L2.St → Prop} {C : Cells → Prop} (hcalm : X.calm = true) (hN : X.N.Nodup) (hyl : X.env.scope.names.lookup y = some .local) (hsw : swapsWith (.ListComp elt [⟨tg, iter, [], 0⟩] scope pos) (some (.Name y py)) spos.line X.env = pure true) (Nc : S → Hp → Cells → Prop) (ok : BlkOk X.N X.env.scope scope own) (hi : I X tg iter σ G cs C xs Pi) (ht : TgB X scope tg Pi Sx)
    (h0 : ∀ G1, Same G G1 → Nc s0 G1 cs) (hC : ∀ s G1 cs1 l us, Nc s G1 cs1 → C ((l, .lst us) :: cs1)) (hwipe : ∀ x G1 σ', Sx x G1 (wipe σ (own.map (·.2))) σ' → wipe σ' (own.map (·.2)) = wipe σ (own.map (·.2))) [∀ y, Mono (r y)]
    (he : ∀ pre x post, xs = pre ++ x :: post → ∀ s, s = (mapS f s0 pre).2 → ∀ G0 G1 cs1 σ' c, Same G G0 → Nc s G0 cs1 → Same G0 G1 → Sx x G1 (wipe σ (own.map (·.2))) σ' → ∀ s' H0 C cl fp, EC (X.blk s' H0 scope (compEnvC scope cl C X.env) fp) elt σ' G1 (c :: cs1) fun v G2 cs2 => ∃ cs3, cs2.Perm (c :: cs3) ∧ r (f s x).1 G2 v ∧ Nc (f s x).2 G2 cs3)
    (hsz : xs.length ≤ 16777215) (hk : ∀ l us G1 cs1, Same G G1 → Rs r G1 (mapS f s0 xs).1 us → Nc (mapS f s0 xs).2 G1 cs1 → B X W rest (σ.set i (some (.ref l))) G1 ((l, .lst us) :: cs1) Φ m) (hy : X.N[i]? = some y := by rfl)
    (hs : ∀ x, foldedSetIterable iter X.env x = pure x := by intro _; rfl) : B X W (.Assign [.Name y py] (.ListComp elt [⟨tg, iter, [], 0⟩] scope pos) spos :: rest) σ G cs Φ m := by
  obtain ⟨wi, hpi, hw⟩ := hi
  obtain ⟨g, hpg, hgt⟩ := ht
  refine b_cons (ps_setLc (te := teB X scope elt) hcalm hN hy hyl hsw hpi ok hpg (fun _ _ _ _ _ => pts_nil) (fun s H0 C cl fp => ⟨fun pins s1 σ H Q I h => (h s H0 C cl fp).run pins s1 I⟩) hs) fun H d E w => ?_
  have s : Same G G := Same.refl _
  refine hw G H s d _ fun J G2 H2 s2 d2 wk => fun l hl => ?_
  let Pv : Nat → Hp → Prop := fun i H1 => ∃ G3 us cs3, i ≤ xs.length ∧ Same G2 G3 ∧ Desc G3 ((l, .lst us) :: cs3) H1 ∧ Rs r G3 (mapS f s0 (xs.take i)).1 us ∧ Nc (mapS f s0 (xs.take i)).2 G3 cs3
  refine ⟨fun i n H1 => n = xs.length - i ∧ Pv i H1, ⟨xs.length, rfl, G2, [], cs, Nat.zero_le _, Same.refl _, d2.newCell hl _, .nil, h0 G2 (s.trans s2)⟩, ?_⟩
  rintro i n H1 ⟨rfl, G3, us, cs3, hi, s3, d3, hr, hn⟩
  by_cases hlt : i < xs.length
  · refine .inr ⟨wk.goes i G3 H1 _ hlt s3 (hC _ _ _ _ _ hn) d3, Pv (i + 1), fun H' p' => ⟨_, by omega, rfl, p'⟩, fun v H3 y => ?_⟩
    have hx : xs[i]? = some xs[i] := by simp [hlt]
    have hm : xs[i] ∈ xs := List.getElem_mem hlt
    obtain ⟨G4, s4, d4, pv⟩ := wk.yields i xs[i] G3 H1 _ v H3 hx s3 (hC _ _ _ _ _ hn) d3 y
    have et : xs.take (i + 1) = xs.take i ++ [xs[i]] := by simp
    refine hgt xs[i] v G4 _ H3 _ pv d4 _ fun σ' hS => ⟨hwipe _ _ _ hS, ?_⟩
    have ed : xs = xs.take i ++ xs[i] :: xs.drop (i + 1) := by
      rw [← List.drop_eq_getElem_cons hlt, List.take_append_drop]
    refine iteT (B := Pv (i + 1) H3) fun s5 H0 C5 cl fp => he (xs.take i) xs[i] (xs.drop (i + 1)) ed _ rfl G3 G4 cs3 σ' (l, .lst us) ((s.trans s2).trans s3) hn s4 hS s5 H0 C5 cl fp G4 H3 (Same.refl _) d4 _ fun G5 H5 cs5 w s5 d5 ⟨cs6, pm, hw, hn5⟩ => ?_
    have d6 := d5.perm pm
    refine ⟨us, d6.at_ List.mem_cons_self, ?_, G5, us ++ [w], cs6, hlt, (s3.trans s4).trans s5, d6.write (k := 0) rfl _, ?_, ?_⟩
    · rw [← hr.length, mapS_length, List.length_take, sizeLine_eq]
      omega
    · rw [et, mapS_snoc]
      exact Rs.snoc hw (hr.mono (s4.trans s5))
    · rw [et, mapS_snoc]
      exact hn5
  · have e : i = xs.length := by omega
    subst e
    rw [List.take_length] at hr hn
    exact .inl ⟨wk.stops G3 H1 _ s3 (hC _ _ _ _ _ hn) d3, hk l us G3 cs3 ((s.trans s2).trans s3) hr hn H1 d3 E (w.up ((s.trans s2).trans s3))⟩
end
/-! ### join, in plain lists -/
def joi (z : List Nat) : List (List Nat) → List Nat
  | [] => []
  | [x] => x
  | x :: y :: r => x ++ z ++ joi z (y :: r)
theorem join_S (z : List Nat) : ∀ ws : List (List Nat), PySem.Str.join (SX.S z) (ws.map SX.S) = SX.S (joi z ws)
  | [] => rfl
  | [x] => rfl
  | x :: y :: r => by
    have ih := join_S z (y :: r)
    show SX.S x ++ SX.S z ++ PySem.Str.join (SX.S z) ((y :: r).map SX.S) = SX.S (x ++ z ++ joi z (y :: r))
    rw [ih, SX.S_cat, SX.S_cat]
theorem joiL_is (z : List Nat) (ws : List (List Nat)) : joiL z ws = joi z ws := by
  unfold joiL
  have e : Txt.join (SX.S z) (ws.map SX.S) = SX.S (joi z ws) := by
    show PySem.Builtin.Str.glued _ _ = _
    rw [StrLaws.glued_eq_join, join_S]
  rw [e]
  show (SX.S (joi z ws)).cps.toList = _
  rfl
theorem joi_flat : ∀ ws : List (List Nat), joi [] ws = ws.flatten
  | [] => rfl
  | [x] => by simp [joi]
  | x :: y :: r => by
    have ih := joi_flat (y :: r)
    show x ++ [] ++ joi [] (y :: r) = _
    rw [ih, List.append_nil]
    rfl
theorem joi_len {z : List Nat} {n : Nat} : ∀ {ws : List (List Nat)}, (∀ w ∈ ws, w.length ≤ n) → (joi z ws).length ≤ ws.length * (n + z.length)
  | [], _ => Nat.zero_le _
  | [x], h => by
    have := h x List.mem_cons_self
    show x.length ≤ 1 * _
    omega
  | x :: y :: r, h => by
    have h1 := h x List.mem_cons_self
    have ih := joi_len (z := z) (n := n) (ws := y :: r) fun w hw => h w (List.mem_cons_of_mem _ hw)
    show (x ++ z ++ joi z (y :: r)).length ≤ ((y :: r).length + 1) * (n + z.length)
    rw [List.length_append, List.length_append, Nat.add_mul, Nat.one_mul]
    omega
theorem joi_all {P : Nat → Prop} {z : List Nat} (hz : ∀ c ∈ z, P c) : ∀ {ws : List (List Nat)}, (∀ w ∈ ws, ∀ c ∈ w, P c) → ∀ c ∈ joi z ws, P c
  | [], _ => fun c hc => nomatch hc
  | [x], h => h x List.mem_cons_self
  | x :: y :: r, h => fun c hc => by
    have hc' : c ∈ x ++ z ++ joi z (y :: r) := hc
    rcases List.mem_append.mp hc' with h1 | h1
    · rcases List.mem_append.mp h1 with h1 | h1
      · exact h x List.mem_cons_self c h1
      · exact hz c h1
    · exact joi_all hz (fun w hw => h w (List.mem_cons_of_mem _ hw)) c h1
theorem sum_le {ws : List (List Nat)} {n : Nat} (h : ∀ w ∈ ws, w.length ≤ n) : (ws.map List.length).sum ≤ ws.length * n := by
  induction ws with
  | nil => exact Nat.zero_le _
  | cons w ws ih =>
    have h1 := h w List.mem_cons_self
    have h2 := ih fun v hv => h v (List.mem_cons_of_mem _ hv)
    simp only [List.map_cons, List.sum_cons, List.length_cons, Nat.add_mul, Nat.one_mul]
    omega
/-- enumL's places -/
theorem enum_at {α : Type} {xs : List α} {x : Int × α} (h : x ∈ enumL xs) : 0 ≤ x.1 ∧ x.1 < (xs.length : Int) := by
  obtain ⟨i, hi, e⟩ := List.mem_iff_getElem.mp h
  have e' : (enumL xs)[i]? = some x := by rw [← e]; exact List.getElem?_eq_getElem hi
  obtain ⟨e1, _⟩ := enumL_getE e'
  rw [enumL_length] at hi
  omega
/-- a way that goes on, with I of its state -/
def NxI {ε S L R : Type} (I : S → Prop) (m : Out ε S L R) : Prop := ∃ z, m = .nx z ∧ I z
theorem NxI.mk {ε S L R : Type} {I : S → Prop} {z : S} (h : I z) : NxI I (.nx z : Out ε S L R) := ⟨z, rfl, h⟩
theorem bind_p {ε S S' L R : Type} {m : Out ε S' L R} {g : S' → Out ε S L R} {P : Out ε S L R → Prop} (I : S' → Prop) (h1 : NxI I m) (h2 : ∀ z, I z → P (g z)) : P (m.bind g) := by
  obtain ⟨z, e, h⟩ := h1
  rw [e]
  exact h2 z h
theorem ix2_all {α : Type} [Inhabited α] {P : α → Prop} {a b : α} {i : Int} (ha : P a) (hb : P b) (h0 : 0 ≤ i) (h1 : i < 2) : P (ixg [a, b] i) := by
  have h : i = 0 ∨ i = 1 := by omega
  rcases h with rfl | rfl
  · exact ha
  · exact hb
theorem ix3_all {α : Type} [Inhabited α] {P : α → Prop} {a b c : α} {i : Int} (ha : P a) (hb : P b) (hc : P c) (h0 : 0 ≤ i) (h1 : i < 3) : P (ixg [a, b, c] i) := by
  have h : i = 0 ∨ i = 1 ∨ i = 2 := by omega
  rcases h with rfl | rfl | rfl
  · exact ha
  · exact hb
  · exact hc
theorem ix4_all {α : Type} [Inhabited α] {P : α → Prop} {a b c d : α} {i : Int} (ha : P a) (hb : P b) (hc : P c) (hd : P d) (h0 : 0 ≤ i) (h1 : i < 4) : P (ixg [a, b, c, d] i) := by
  have h : i = 0 ∨ i = 1 ∨ i = 2 ∨ i = 3 := by omega
  rcases h with rfl | rfl | rfl | rfl
  · exact ha
  · exact hb
  · exact hc
  · exact hd
/-! ### calls without arguments; a tuple's place by a variable -/
section
variable {X : Cx} {σ : L2.St} {G : Hp} {cs : Cells} {e a b : Expr} {pos p : Pos}
theorem d_call0 {I O : Type} {pre : I → Hp → List V → Prop} {r : I → O → Hp → V → Prop} {m : I → O} {k j n : Nat} {x : Str} {P : Hp → V → Prop} (i : I) (F : Fn0 X.prog X.w X.K X.mg X.base CX0 k x n (SpP pre r m)) (hr : Room j X.A) (hk : k ≤ j)
    (hp : ∀ G1, Same G G1 → pre i G1 []) (hP : ∀ G v, r i (m i) G v → P G v) (hg : Gl X x := by rfl) (hd : (x == ("__debug__" : Str)) = false := by decide) : D X (.Call (.Name x p) [] [] pos) σ G cs P := by
  obtain ⟨f, fd, ps, F, hm, kp, b, _⟩ := F.ex
  intro G1 H s d Q q
  refine uE (pe_call0 F (hr.mono hk) hg hm kp b .nil pass0 (hdb := hd)) ?_
  exact ⟨i, G1, cs, d, hp G1 s, fun v G2 H2 s2 d2 hv => q G2 H2 v s2 d2 (hP _ _ hv)⟩
end
/-- xs are the first places, all alike -/
def AtAll {α : Type} (R : Hp → List V → Prop) (xs : List α) (r0 : α → Hp → V → Prop) : Prop := ∀ n y, xs[n]? = some y → At R n (r0 y)
theorem ata_e {α : Type} {R : Hp → List V → Prop} {r0 : α → Hp → V → Prop} : AtAll R ([] : List α) r0 := fun n y h => by simp at h
theorem ata_z {α β : Type} {r0 : α → Hp → V → Prop} {r' : β → Hp → List V → Prop} {x : α × β} {ys : List α} (h : AtAll (r' x.2) ys r0) : AtAll (cc r0 r' x) (x.1 :: ys) r0 := fun n y hy => by
  cases n with
  | zero =>
    have e : x.1 = y := by simpa using hy
    subst e
    exact at_z
  | succ n => exact at_s (h n y (by simpa using hy))
theorem ata_1 {α : Type} {r0 : α → Hp → V → Prop} {x : α} : AtAll (c0 r0 x) [x] r0 := fun n y hy => by
  cases n with
  | zero =>
    have e : x = y := by simpa using hy
    subst e
    exact at_1
  | succ n => simp at hy
section
variable {X : Cx} {σ : L2.St} {G : Hp} {cs : Cells} {e a b : Expr} {pos p : Pos}
theorem d_ixTv {α β : Type} [Inhabited β] {r : α → Hp → List V → Prop} [∀ x, MonoA (r x)] {x : α} {xs : List β} {r0 : β → Hp → V → Prop} {k : Int} (ha : D X a σ G cs (rT X.K r x)) (hb : D X b σ G cs (rI k)) (h : AtAll (r x) xs r0) (h0 : 0 ≤ k) (h1 : k < (xs.length : Int)) (hs : PlainIx b := by exact fun _ _ => rfl) :
    D X (.Subscript a b pos) σ G cs (r0 (ixg xs k)) := by
  obtain ⟨n, rfl⟩ : ∃ n : Nat, k = (n : Int) := ⟨k.toNat, by omega⟩
  refine d_ixT ha hb (h n _ ?_) hs
  have hn : n < xs.length := by omega
  rw [ixg_nat h0 h1]
  simp [hn]
end
/-! ### split and join -/
/-- what stands behind a list's first part -/
def joiT (c : Nat) : List (List Nat) → List Nat
  | [] => []
  | x :: r => c :: joi [c] (x :: r)
theorem joi_cons (c : Nat) (a : List Nat) (r : List (List Nat)) : joi [c] (a :: r) = a ++ joiT c r := by
  cases r with
  | nil => simp [joi, joiT]
  | cons b r => simp [joi, joiT]
theorem joiT_or (c : Nat) (r : List (List Nat)) : joiT c r = [] ∨ ∃ u, joiT c r = c :: u := by
  cases r with
  | nil => exact .inl rfl
  | cons _ _ => exact .inr ⟨_, rfl⟩
theorem tw_free {c : Nat} : ∀ {a : List Nat}, c ∉ a → ∀ t : List Nat, (t = [] ∨ ∃ u, t = c :: u) → (a ++ t).takeWhile (fun x => decide (x ≠ c)) = a
  | [], _, t, ht => by
    rcases ht with rfl | ⟨u, rfl⟩
    · rfl
    · simp
  | x :: a, h, t, ht => by
    have hx : x ≠ c := fun e => h (by rw [e]; exact List.mem_cons_self)
    have ih := tw_free (a := a) (fun q => h (List.mem_cons_of_mem _ q)) t ht
    rw [List.cons_append, List.takeWhile_cons, if_pos (by simpa using hx), ih]
theorem joi_inj {c : Nat} : ∀ {ws vs : List (List Nat)}, ws ≠ [] → vs ≠ [] → (∀ w ∈ ws, c ∉ w) → (∀ v ∈ vs, c ∉ v) → joi [c] ws = joi [c] vs → ws = vs
  | [], _, h, _, _, _, _ => absurd rfl h
  | _ :: _, [], _, h, _, _, _ => absurd rfl h
  | a :: r, b :: s, _, _, h1, h2, e => by
    rw [joi_cons, joi_cons] at e
    have t1 := joiT_or c r
    have t2 := joiT_or c s
    have f1 := tw_free (h1 a List.mem_cons_self) _ t1
    have f2 := tw_free (h2 b List.mem_cons_self) _ t2
    rw [e] at f1
    have eab : a = b := f1.symm.trans f2
    subst eab
    have e2 := List.append_cancel_left e
    cases r with
    | nil =>
      cases s with
      | nil => rfl
      | cons _ _ => exact nomatch e2
    | cons x r =>
      cases s with
      | nil => exact nomatch e2
      | cons y s =>
        have e3 : joi [c] (x :: r) = joi [c] (y :: s) := (List.cons.inj e2).2
        rw [joi_inj (by simp) (by simp) (fun w hw => h1 w (List.mem_cons_of_mem _ hw)) (fun w hw => h2 w (List.mem_cons_of_mem _ hw)) e3]
theorem joi_spl (x : List Nat) (c : Nat) : joi [c] (splL x [c]) = x := by
  have h := StrLaws.join_split (SX.S x) (SX.S [c])
  have e : Txt.split (SX.S x) (SX.S [c]) = (splL x [c]).map SX.S := by
    unfold splL
    rw [List.map_map]
    have : (SX.S ∘ tlS) = id := funext fun y => S_tlS y
    rw [this, List.map_id]
  rw [e, join_S] at h
  exact SX.S_inj h
theorem spl_free (x : List Nat) (c : Nat) : ∀ w ∈ splL x [c], c ∉ w := fun w hw => by
  unfold splL at hw
  obtain ⟨p, hp, rfl⟩ := List.mem_map.mp hw
  exact StrLaws.split_free (SX.S x) c p hp
theorem spl_is {c : Nat} {ws : List (List Nat)} (hn : ws ≠ []) (hf : ∀ w ∈ ws, c ∉ w) (hx : joi [c] ws ≠ []) : splL (joi [c] ws) [c] = ws := by
  refine joi_inj ?_ hn (spl_free _ _) hf (joi_spl _ _)
  intro h
  have q := joi_spl (joi [c] ws) c
  rw [h] at q
  exact hx q.symm
theorem joi_snoc (c : Nat) : ∀ (ws : List (List Nat)) (w : List Nat), ws ≠ [] → joi [c] (ws ++ [w]) = joi [c] ws ++ c :: w
  | [], _, h => absurd rfl h
  | [a], w, _ => by simp [joi]
  | a :: b :: r, w, _ => by
    have ih := joi_snoc c (b :: r) w (by simp)
    show a ++ [c] ++ joi [c] (b :: r ++ [w]) = a ++ [c] ++ joi [c] (b :: r) ++ c :: w
    rw [ih]
    simp
/-- the last part is the text's end -/
theorem spl_last {x : List Nat} {c : Nat} (h : 2 ≤ (splL x [c]).length) : ∃ p w ws, splL x [c] = ws ++ [w] ∧ x = p ++ w := by
  have hn : splL x [c] ≠ [] := fun e => by rw [e] at h; exact absurd h (by decide)
  obtain ⟨ws, w, e⟩ : ∃ ws w, splL x [c] = ws ++ [w] := ⟨_, _, (List.dropLast_concat_getLast hn).symm⟩
  have hw : ws ≠ [] := fun e0 => by rw [e, e0] at h; exact absurd (show 2 ≤ 1 from h) (by decide)
  have q := joi_spl x c
  rw [e, joi_snoc c ws w hw] at q
  exact ⟨joi [c] ws ++ [c], w, ws, e, by rw [← q]; simp⟩
theorem ixg_last {α : Type} [Inhabited α] (l : List α) (c : α) : ixg (l ++ [c]) (-1) = c := by
  unfold ixg
  have e : atI (l ++ [c]) (-1) = some c := by
    unfold atI ixN
    rw [if_neg (by decide), if_pos (by rw [List.length_append]; show (-((l.length + 1 : Nat) : Int)) ≤ -1; omega)]
    show (l ++ [c])[_]? = some c
    have e2 : ((-1 : Int) + ((l ++ [c]).length : Nat)).toNat = l.length := by
      rw [List.length_append]
      show ((-1 : Int) + ((l.length + 1 : Nat) : Int)).toNat = _
      omega
    rw [e2]
    simp
  rw [e]
  rfl
theorem cutL_neg {α : Type} (xs : List α) {k : Nat} (hk : 0 < k) (h : k ≤ xs.length) : cutL xs none (some (-(k : Int))) = xs.take (xs.length - k) := by
  unfold cutL
  rw [HT.sIx_none]
  have e : HT.sIx xs.length xs.length (some (-(k : Int))) = xs.length - k := by
    show (if (-(k : Int)) < 0 then ((-(k : Int)) + (xs.length : Int)).toNat else min (-(k : Int)).toNat xs.length) = _
    rw [if_pos (by omega)]
    omega
  rw [e, List.drop_zero, Nat.sub_zero]
theorem cutL_mid {α : Type} (xs : List α) {n k : Nat} (hk : 0 < k) (h : k ≤ xs.length) : cutL xs (some (n : Int)) (some (-(k : Int))) = (xs.drop n).take (xs.length - k - n) := by
  unfold cutL
  have e : HT.sIx xs.length xs.length (some (-(k : Int))) = xs.length - k := by
    show (if (-(k : Int)) < 0 then ((-(k : Int)) + (xs.length : Int)).toNat else min (-(k : Int)).toNat xs.length) = _
    rw [if_pos (by omega)]
    omega
  rw [e, HT.sIx_nat]
  by_cases hn : n ≤ xs.length
  · rw [Nat.min_eq_left hn]
  · rw [Nat.min_eq_right (by omega), List.drop_of_length_le (Nat.le_refl _), List.drop_of_length_le (by omega), List.take_nil, List.take_nil]
end J

/-! instances of the program's classes: fields, methods, making; defs that change what they are given and may raise -/
namespace J
open PySem PySem.Spec L2 PyProof.Rows
/-! ### an instance's fields: the names nf (fixed), the values vs -/
theorem lookup_zip : ∀ {nf : List Str} {vs : List V} {i : Nat} {f : Str} {v : V}, nf.Nodup → nf[i]? = some f → vs[i]? = some v → (nf.zip vs).lookup f = some v
  | [], _, i, _, _, _, h, _ => by cases i <;> cases h
  | _ :: _, [], i, _, _, _, _, h => by cases i <;> cases h
  | g :: nf, w :: vs, 0, f, v, _, h1, h2 => by
    cases h1
    cases h2
    show List.lookup g ((g, w) :: nf.zip vs) = _
    rw [List.lookup_cons, beq_self_eq_true g]
  | g :: nf, w :: vs, i + 1, f, v, hn, h1, h2 => by
    have hn' := List.nodup_cons.mp hn
    have hm : f ∈ nf := List.mem_of_getElem? (i := i) (by simpa using h1)
    have hne : (f == g) = false := by
      rw [beq_eq_false_iff_ne]
      exact fun e => hn'.1 (e ▸ hm)
    show List.lookup f ((g, w) :: nf.zip vs) = _
    rw [List.lookup_cons, hne]
    exact lookup_zip hn'.2 (by simpa using h1) (by simpa using h2)
theorem lookup_zip_no : ∀ {nf : List Str} {vs : List V} {f : Str}, f ∉ nf → (nf.zip vs).lookup f = none
  | [], _, _, _ => rfl
  | _ :: _, [], _, _ => rfl
  | g :: nf, w :: vs, f, h => by
    have hne : (f == g) = false := by
      rw [beq_eq_false_iff_ne]
      exact fun e => h (by rw [e]; exact List.mem_cons_self)
    show List.lookup f ((g, w) :: nf.zip vs) = _
    rw [List.lookup_cons, hne]
    exact lookup_zip_no fun q => h (List.mem_cons_of_mem _ q)
theorem putF_zip : ∀ {nf : List Str} {vs : List V} {i : Nat} {f : Str} {v : V}, nf.Nodup → nf[i]? = some f → i < vs.length → putF f v (nf.zip vs) = nf.zip (vs.set i v)
  | [], _, i, _, _, _, h, _ => by cases i <;> cases h
  | _ :: _, [], _, _, _, _, _, h => absurd h (Nat.not_lt_zero _)
  | g :: nf, w :: vs, 0, f, v, _, h1, _ => by
    cases h1
    show (if g = g then _ else _) = _
    rw [if_pos rfl]
    rfl
  | g :: nf, w :: vs, i + 1, f, v, hn, h1, h2 => by
    have hn' := List.nodup_cons.mp hn
    have hm : f ∈ nf := List.mem_of_getElem? (i := i) (by simpa using h1)
    have hne : ¬ g = f := fun e => hn'.1 (e ▸ hm)
    show (if g = f then _ else (g, w) :: putF f v (nf.zip vs)) = _
    rw [if_neg hne, putF_zip hn'.2 (by simpa using h1) (Nat.lt_of_succ_lt_succ h2)]
    rfl
theorem putF_new : ∀ {nf : List Str} {vs : List V} {f : Str} {v : V}, nf.Nodup → nf[vs.length]? = some f → putF f v (nf.zip vs) = nf.zip (vs ++ [v])
  | [], vs, _, _, _, h => by simp at h
  | g :: nf, [], f, v, _, h => by
    cases h
    show [(g, v)] = (g, v) :: nf.zip []
    rw [List.zip_nil_right]
  | g :: nf, w :: vs, f, v, hn, h => by
    have hn' := List.nodup_cons.mp hn
    have h' : nf[vs.length]? = some f := by simpa using h
    have hm : f ∈ nf := List.mem_of_getElem? h'
    have hne : ¬ g = f := fun e => hn'.1 (e ▸ hm)
    show (if g = f then _ else (g, w) :: putF f v (nf.zip vs)) = _
    rw [if_neg hne, putF_new hn'.2 h']
    rfl
/-- the class that a global name holds -/
def clA (mg : Str → Option Value) (x : Str) : Addr := match mg x with
  | some (.ref a) => a
  | _ => 0
theorem clA_of {mg : Str → Option Value} {x : Str} {C : Addr} (h : mg x = some (.ref C)) : clA mg x = C := by
  unfold clA
  rw [h]
/-- a class whose instances have the fields nf -/
structure ClsK (K : PySem.W.Frag) (C : Addr) (nf : List Str) : Prop where
  cl : Cls K C
  nn : nf.Nodup
  na : ∀ f ∈ nf, NoAttr K C f
  le : nf.length ≤ 900
section
variable {X : Cx} {σ : L2.St} {G : Hp} {cs : Cells} {o e : Expr} {f : Str} {pos pos' tpos : Pos} {P : Hp → V → Prop}
/-- o.f -/
theorem d_fld {a C dx : Addr} {nf : List Str} {vs : List V} {v : V} (i : Nat) (ck : ClsK X.K C nf) (ho : D X o σ G cs (rV (.ref a))) (hm : (a, HO.ins C dx (nf.zip vs)) ∈ cs) (hp : P G v) [Mono P] (hi : nf[i]? = some f := by rfl) (hv : vs[i]? = some v := by rfl) (hb : attributeBase o f X.env (eval o X.env) = eval o X.env := by rfl) :
    D X (.Attribute o f pos) σ G cs P :=
  d_by (pe_fld (sE X o) hb) fun G1 H s d Q q => ho G1 H s d _ fun G2 H2 x s2 d2 hx =>
    ⟨a, C, dx, nf.zip vs, v, hx, d2.at_ hm, ck.cl, ck.na f (List.mem_of_getElem? hi), lookup_zip ck.nn hi hv, q G2 H2 v s2 d2 (Mono.mono (s.trans s2) hp)⟩
end
section
variable {ε S L R : Type} {X : Cx} {W : ε → L2.St → Hp → Prop} {σ : L2.St} {G : Hp} {cs : Cells} {Φ : Po ε S L R} {m : Out ε S L R} {rest : List Stmt} {o e : Expr} {f : Str} {pos pos' tpos : Pos} {P : Hp → V → Prop}
/-- o.f = e, a field that is there -/
theorem b_fld {a C dx : Addr} {nf : List Str} {vs : List V} (k i : Nat) (ck : ClsK X.K C nf) (hk : cs[k]? = some (a, HO.ins C dx (nf.zip vs))) (he : D X e σ G cs P) (ho : D X o σ G cs (rV (.ref a)))
    (q : ∀ v G1, Same G G1 → P G1 v → B X W rest σ G1 (cs.set k (a, HO.ins C dx (nf.zip (vs.set i v)))) Φ m) [Mono P] (hi : nf[i]? = some f := by rfl) (hl : i < vs.length := by exact Nat.lt_of_lt_of_le (by decide) (Nat.le_refl _))
    (hs : swapsWith e (some (.Attribute o f pos')) pos.line X.env = pure false := by rfl) : B X W (.Assign [.Attribute o f pos'] e pos :: rest) σ G cs Φ m :=
  b_cons (ps_fld (sE X o) (sE X e) hs) fun H d E w => he G H (Same.refl _) d _ fun G2 H2 v s2 d2 hv => ho G2 H2 s2 d2 _ fun G3 H3 x s3 d3 hx =>
    ⟨a, C, dx, nf.zip vs, hx, d3.at_ (List.mem_of_getElem? hk), ck.cl, ck.na f (List.mem_of_getElem? hi), by rw [List.length_zip]; have := ck.le; omega, by
      rw [putF_zip ck.nn hi hl]
      exact q v G3 (s2.trans s3) (Mono.mono s3 hv) _ (d3.write hk _) E (w.up (s2.trans s3))⟩
/-- o.f = e, a field that is new -/
theorem b_fldNew {a C dx : Addr} {nf : List Str} {vs : List V} (k : Nat) (ck : ClsK X.K C nf) (hk : cs[k]? = some (a, HO.ins C dx (nf.zip vs))) (he : D X e σ G cs P) (ho : D X o σ G cs (rV (.ref a)))
    (q : ∀ v G1, Same G G1 → P G1 v → B X W rest σ G1 (cs.set k (a, HO.ins C dx (nf.zip (vs ++ [v])))) Φ m) [Mono P] (hi : nf[vs.length]? = some f := by rfl)
    (hs : swapsWith e (some (.Attribute o f pos')) pos.line X.env = pure false := by rfl) : B X W (.Assign [.Attribute o f pos'] e pos :: rest) σ G cs Φ m :=
  b_cons (ps_fld (sE X o) (sE X e) hs) fun H d E w => he G H (Same.refl _) d _ fun G2 H2 v s2 d2 hv => ho G2 H2 s2 d2 _ fun G3 H3 x s3 d3 hx =>
    ⟨a, C, dx, nf.zip vs, hx, d3.at_ (List.mem_of_getElem? hk), ck.cl, ck.na f (List.mem_of_getElem? hi), by rw [List.length_zip]; have := ck.le; omega, by
      rw [putF_new ck.nn hi]
      exact q v G3 (s2.trans s3) (Mono.mono s3 hv) _ (d3.write hk _) E (w.up (s2.trans s3))⟩
/-- o.f = a new list, which stays a cell of its own -/
theorem b_fldN {α : Type} {r : α → Hp → V → Prop} {xs : List α} {a C dx : Addr} {nf : List Str} {vs : List V} (k i : Nat) (ck : ClsK X.K C nf) (hk : cs[k]? = some (a, HO.ins C dx (nf.zip vs))) (he : N X e σ G cs r xs) (ho : ∀ c, D X o σ G (c :: cs) (rV (.ref a)))
    (q : ∀ l us G1, Same G G1 → Rs r G1 xs us → B X W rest σ G1 ((l, HO.lst us) :: cs.set k (a, HO.ins C dx (nf.zip (vs.set i (.ref l))))) Φ m) (hi : nf[i]? = some f := by rfl) (hl : i < vs.length := by exact Nat.lt_of_lt_of_le (by decide) (Nat.le_refl _)) [∀ y, Mono (r y)]
    (hs : swapsWith e (some (.Attribute o f pos')) pos.line X.env = pure false := by rfl) : B X W (.Assign [.Attribute o f pos'] e pos :: rest) σ G cs Φ m :=
  b_cons (ps_fld (sE X o) (sE X e) hs) fun H d E w => he G H (Same.refl _) d _ fun G2 H2 l us s2 d2 hv => ho (l, .lst us) G2 H2 s2 d2 _ fun G3 H3 x s3 d3 hx =>
    ⟨a, C, dx, nf.zip vs, hx, d3.at_ (List.mem_cons_of_mem _ (List.mem_of_getElem? hk)), ck.cl, ck.na f (List.mem_of_getElem? hi), by rw [List.length_zip]; have := ck.le; omega, by
      rw [putF_zip ck.nn hi hl]
      exact q l us G3 (s2.trans s3) (hv.mono s3) _ (d3.write (k := k + 1) (by simpa using hk) _) E (w.up (s2.trans s3))⟩
theorem b_fldNewN {α : Type} {r : α → Hp → V → Prop} {xs : List α} {a C dx : Addr} {nf : List Str} {vs : List V} (k : Nat) (ck : ClsK X.K C nf) (hk : cs[k]? = some (a, HO.ins C dx (nf.zip vs))) (he : N X e σ G cs r xs) (ho : ∀ c, D X o σ G (c :: cs) (rV (.ref a)))
    (q : ∀ l us G1, Same G G1 → Rs r G1 xs us → B X W rest σ G1 ((l, HO.lst us) :: cs.set k (a, HO.ins C dx (nf.zip (vs ++ [.ref l])))) Φ m) (hi : nf[vs.length]? = some f := by rfl) [∀ y, Mono (r y)]
    (hs : swapsWith e (some (.Attribute o f pos')) pos.line X.env = pure false := by rfl) : B X W (.Assign [.Attribute o f pos'] e pos :: rest) σ G cs Φ m :=
  b_cons (ps_fld (sE X o) (sE X e) hs) fun H d E w => he G H (Same.refl _) d _ fun G2 H2 l us s2 d2 hv => ho (l, .lst us) G2 H2 s2 d2 _ fun G3 H3 x s3 d3 hx =>
    ⟨a, C, dx, nf.zip vs, hx, d3.at_ (List.mem_cons_of_mem _ (List.mem_of_getElem? hk)), ck.cl, ck.na f (List.mem_of_getElem? hi), by rw [List.length_zip]; have := ck.le; omega, by
      rw [putF_new ck.nn hi]
      exact q l us G3 (s2.trans s3) (hv.mono s3) _ (d3.write (k := k + 1) (by simpa using hk) _) E (w.up (s2.trans s3))⟩
/-- o.f += e -/
theorem b_fldAdd {a C dx : Addr} {nf : List Str} {vs : List V} {z y : Int} (k i : Nat) (ck : ClsK X.K C nf) (hk : cs[k]? = some (a, HO.ins C dx (nf.zip vs))) (he : D X e σ G cs (rI y)) (ho : D X o σ G cs (rV (.ref a))) 
    (q : ∀ G1, Same G G1 → B X W rest σ G1 (cs.set k (a, HO.ins C dx (nf.zip (vs.set i (.int (z + y)))))) Φ m) (hv : vs[i]? = some (.int z) := by rfl) (hi : nf[i]? = some f := by rfl) : B X W (.AugAssign (.Attribute o f tpos) .Add e pos :: rest) σ G cs Φ m :=
  b_cons (ps_fldaug (sE X o) (sE X e) in_add) fun H d E w => ho G H (Same.refl _) d _ fun G2 H2 x s2 d2 hx =>
    ⟨a, C, dx, nf.zip vs, .int z, hx, d2.at_ (List.mem_of_getElem? hk), ck.cl, ck.na f (List.mem_of_getElem? hi), lookup_zip ck.nn hi hv, he G2 H2 s2 d2 _ fun G3 H3 u s3 d3 hu =>
      ⟨z, y, rfl, hu, dx, nf.zip vs, d3.at_ (List.mem_of_getElem? hk), by rw [List.length_zip]; have := ck.le; omega, by
        rw [putF_zip ck.nn hi (List.getElem?_eq_some_iff.mp hv).1]
        exact q G3 (s2.trans s3) _ (d3.write hk _) E (w.up (s2.trans s3))⟩⟩
end
/-! ### errors that come with what is then -/
def callF {ε T S L R O : Type} (m : Except ε O) (t : T) (g : O → Out (ε × T) S L R) : Out (ε × T) S L R := match m with
  | .ok o => g o
  | .error k => .er (k, t)
def callX {ε T T' S L R O : Type} (m : Except (ε × T) O) (g : O → Out (ε × T') S L R) (h : T → T') : Out (ε × T') S L R := match m with
  | .ok o => g o
  | .error (k, t) => .er (k, h t)
@[simp] theorem callF_ok {ε T S L R O : Type} (o : O) (t : T) (g : O → Out (ε × T) S L R) : callF (.ok o) t g = g o := rfl
@[simp] theorem callF_er {ε T S L R O : Type} (k : ε) (t : T) (g : O → Out (ε × T) S L R) : callF (.error k) t g = .er (k, t) := rfl
@[simp] theorem callX_ok {ε T T' S L R O : Type} (o : O) (g : O → Out (ε × T') S L R) (h : T → T') : callX (.ok o) g h = g o := rfl
@[simp] theorem callX_er {ε T T' S L R O : Type} (k : ε) (t : T) (g : O → Out (ε × T') S L R) (h : T → T') : callX (.error (k, t)) g h = .er (k, h t) := rfl
abbrev wE3 {n : Nat} {T : Type} (adr : Fin n → Addr) (Wx : WX) : Fin n × T → L2.St → Hp → Prop := fun e σ H => Wx (.ref (adr e.1)) none σ H
section
variable {n : Nat} {nm : Fin n → Str} {adr : Fin n → Addr} {B0 : Addr}
variable {S L R T : Type} {X : Cx} {Wx : WX} {σ : L2.St} {G : Hp} {cs : Cells} {st : Stmt} {rest body : List Stmt} {e : Expr} {es : List Expr} {pos p q : Pos}
theorem b_raiseM {Φ : Po (Fin n × T) S L R} {x m : Str} {j : Nat} {p2 p3 : Pos} {t : T} (i : Fin n) (Er : Errs X.K X.mg nm adr B0) (hc : X.calm = true) (tk : Takes X Wx) (hx : nm i = x) (k : Φ.er (i, t) σ G cs) (hg : Gl X x := by rfl) (hd : (x == ("__debug__" : Str)) = false := by decide) :
    B X (wE3 adr Wx) (.Raise (some (.Call (.Name x p) [.Constant (.str m) j p2] [] p3)) none pos :: rest) σ G cs Φ (.er (i, t)) := by
  subst hx
  have o := Er.one i
  exact b_cons (ps_raise hc tk (pmk_own F.excBase_ValueError o.ex o.mg o.kp (raises_own o.be o.ty) hg hd)) fun H d E w => w σ G cs H (Same.refl _) d k
section
variable {Φ : Po (Fin n × T) S L R} {O : Type} {P : O → Hp → V → Prop} {m : Except (Fin n) O} {t : T}
theorem b_setEM (i : Nat) {x : Str} {g : O → Out (Fin n × T) S L R} (hN : X.N.Nodup) (he : DE X adr Wx e σ G cs P m) (kr : ∀ k, m = .error k → ∀ G1, Same G G1 → Φ.er (k, t) σ G1 cs)
    (k : ∀ o, m = .ok o → ∀ v G1, Same G G1 → P o G1 v → B X (wE3 adr Wx) rest (σ.set i (some v)) G1 cs Φ (g o)) (hi : X.N[i]? = some x := by rfl) (hx : Loc X.env.scope x := by first | exact Or.inl rfl | exact Or.inr rfl)
    (hs : swapsWith e (some (.Name x p)) pos.line X.env = pure false := by rfl) (hf : X.fn x = true ∨ X.env.scope.names.lookup x = some .local := by first | exact .inl rfl | exact .inr rfl) : B X (wE3 adr Wx) (.Assign [.Name x p] e pos :: rest) σ G cs Φ (callF m t g) :=
  b_cons (ps_set hN hi hx (sE X e) hs hf) fun H d E w => he G H (Same.refl _) d _ (by
    cases hm : m with
    | ok o =>
      rw [hm] at w
      exact fun G2 H2 v s2 d2 hv => k o hm v G2 s2 hv H2 d2 E (Wish.up (m := g o) w s2)
    | error c =>
      rw [hm] at w
      exact fun G2 H2 s2 d2 => w σ G2 cs H2 s2 d2 (kr c hm G2 s2))
theorem b_retEM {g : O → R} (he : DE X adr Wx e σ G cs P m) (kr : ∀ k, m = .error k → ∀ G1, Same G G1 → Φ.er (k, t) σ G1 cs) (k : ∀ o, m = .ok o → ∀ v G1, Same G G1 → P o G1 v → Φ.rt (g o) G1 cs v) :
    B X (wE3 adr Wx) (.Return (some e) pos :: rest) σ G cs Φ (callF m t fun o => .rt (g o)) :=
  b_cons (ps_ret (sE X e)) fun H d E w => he G H (Same.refl _) d _ (by
    cases hm : m with
    | ok o =>
      rw [hm] at w
      exact fun G2 H2 v s2 d2 hv => w v G2 cs H2 s2 d2 (k o hm v G2 s2 hv)
    | error c =>
      rw [hm] at w
      exact fun G2 H2 s2 d2 => w σ G2 cs H2 s2 d2 (kr c hm G2 s2))
theorem b_exprEM {g : O → Out (Fin n × T) S L R} (he : DE X adr Wx e σ G cs P m) (kr : ∀ k, m = .error k → ∀ G1, Same G G1 → Φ.er (k, t) σ G1 cs)
    (k : ∀ o, m = .ok o → ∀ G1, Same G G1 → B X (wE3 adr Wx) rest σ G1 cs Φ (g o)) (hs : swapsWith e none pos.line X.env = pure false := by rfl) : B X (wE3 adr Wx) (.Expr e pos :: rest) σ G cs Φ (callF m t g) :=
  b_cons (ps_expr (sE X e) hs) fun H d E w => he G H (Same.refl _) d _ (by
    cases hm : m with
    | ok o =>
      rw [hm] at w
      exact fun G2 H2 v s2 d2 hv => k o hm G2 s2 H2 d2 E (Wish.up (m := g o) w s2)
    | error c =>
      rw [hm] at w
      exact fun G2 H2 s2 d2 => w σ G2 cs H2 s2 d2 (kr c hm G2 s2))
theorem b_asgEM {tg : Expr} {g : O → Out (Fin n × T) S L R} {Sx : O → Hp → L2.St → L2.St → Prop} (he : DE X adr Wx e σ G cs P m) (ht : Tg X tg P Sx) (kr : ∀ k, m = .error k → ∀ G1, Same G G1 → Φ.er (k, t) σ G1 cs)
    (k : ∀ o, m = .ok o → ∀ σ' G1, Same G G1 → Sx o G1 σ σ' → B X (wE3 adr Wx) rest σ' G1 cs Φ (g o))
    (hs : swapsWithSole [tg] e pos.line X.env = pure false := by rfl) (hw : swappedStores [tg] e X.env = pure none := by rfl) (h1 : (assignEach [tg] X.env).map (·.2) = [assign tg X.env] := by rfl) : B X (wE3 adr Wx) (.Assign [tg] e pos :: rest) σ G cs Φ (callF m t g) := by
  obtain ⟨gt, hg, h2⟩ := ht
  exact b_cons (ps_asg (sE X e) hg hs hw (h1 := h1)) fun H d E w => he G H (Same.refl _) d _ (by
    cases hm : m with
    | ok o =>
      rw [hm] at w
      exact fun G2 H2 v s2 d2 hv => h2 o v G2 cs H2 σ hv d2 _ fun σ' hS => k o hm σ' G2 s2 hS H2 d2 E (Wish.up (m := g o) w s2)
    | error c =>
      rw [hm] at w
      exact fun G2 H2 s2 d2 => w σ G2 cs H2 s2 d2 (kr c hm G2 s2))
end
/-- a call that changes cells and may raise -/
def EX (X : Cx) (adr : Fin n → Addr) (Wx : WX) (e : Expr) (σ : L2.St) (G : Hp) (cs : Cells) {O T : Type} (m : Except (Fin n × T) O) (k : O → V → Hp → Cells → Prop) (ke : Fin n → T → Hp → Cells → Prop) : Prop :=
  ∀ G1 H, Same G G1 → Desc G1 cs H → ∀ Q : VK, (match m with
    | .ok o => ∀ G2 H2 cs2 v, Same G1 G2 → Desc G2 cs2 H2 → k o v G2 cs2 → Q v H2
    | .error (i, t) => ∀ G2 H2 cs2, Same G1 G2 → Desc G2 cs2 H2 → ke i t G2 cs2 → Wx (.ref (adr i)) none σ H2) → wE X e σ H Q
section
variable {T' : Type} {Φ : Po (Fin n × T') S L R} {O : Type} {m : Except (Fin n × T) O} {h : T → T'}
theorem b_setX (i : Nat) {x : Str} {g : O → Out (Fin n × T') S L R} (hN : X.N.Nodup) (he : EX X adr Wx e σ G cs m (fun o v G1 cs1 => m = .ok o → Same G G1 → B X (wE3 adr Wx) rest (σ.set i (some v)) G1 cs1 Φ (g o)) (fun k t G1 cs1 => Same G G1 → Φ.er (k, h t) σ G1 cs1))
    (hi : X.N[i]? = some x := by rfl) (hx : Loc X.env.scope x := by first | exact Or.inl rfl | exact Or.inr rfl)
    (hs : swapsWith e (some (.Name x p)) pos.line X.env = pure false := by rfl) (hf : X.fn x = true ∨ X.env.scope.names.lookup x = some .local := by first | exact .inl rfl | exact .inr rfl) : B X (wE3 adr Wx) (.Assign [.Name x p] e pos :: rest) σ G cs Φ (callX m g h) :=
  b_cons (ps_set hN hi hx (sE X e) hs hf) fun H d E w => he G H (Same.refl _) d _ (by
    cases hm : m with
    | ok o =>
      rw [hm] at w
      exact fun G2 H2 cs2 v s2 d2 hv => hv rfl s2 H2 d2 E (Wish.up (m := g o) w s2)
    | error c =>
      obtain ⟨c, t⟩ := c
      rw [hm] at w
      exact fun G2 H2 cs2 s2 d2 hv => w σ G2 cs2 H2 s2 d2 (hv s2))
theorem b_exprX {g : O → Out (Fin n × T') S L R} (he : EX X adr Wx e σ G cs m (fun o v G1 cs1 => m = .ok o → Same G G1 → B X (wE3 adr Wx) rest σ G1 cs1 Φ (g o)) (fun k t G1 cs1 => Same G G1 → Φ.er (k, h t) σ G1 cs1))
    (hs : swapsWith e none pos.line X.env = pure false := by rfl) : B X (wE3 adr Wx) (.Expr e pos :: rest) σ G cs Φ (callX m g h) :=
  b_cons (ps_expr (sE X e) hs) fun H d E w => he G H (Same.refl _) d _ (by
    cases hm : m with
    | ok o =>
      rw [hm] at w
      exact fun G2 H2 cs2 v s2 d2 hv => hv rfl s2 H2 d2 E (Wish.up (m := g o) w s2)
    | error c =>
      obtain ⟨c, t⟩ := c
      rw [hm] at w
      exact fun G2 H2 cs2 s2 d2 hv => w σ G2 cs2 H2 s2 d2 (hv s2))
theorem b_retX {g : O → R} (he : EX X adr Wx e σ G cs m (fun o v G1 cs1 => m = .ok o → Same G G1 → Φ.rt (g o) G1 cs1 v) (fun k t G1 cs1 => Same G G1 → Φ.er (k, h t) σ G1 cs1)) : B X (wE3 adr Wx) (.Return (some e) pos :: rest) σ G cs Φ (callX m (fun o => .rt (g o)) h) :=
  b_cons (ps_ret (sE X e)) fun H d E w => he G H (Same.refl _) d _ (by
    cases hm : m with
    | ok o =>
      rw [hm] at w
      exact fun G2 H2 cs2 v s2 d2 hv => w v G2 cs2 H2 s2 d2 (hv rfl s2)
    | error c =>
      obtain ⟨c, t⟩ := c
      rw [hm] at w
      exact fun G2 H2 cs2 s2 d2 hv => w σ G2 cs2 H2 s2 d2 (hv s2))
end
end
/-! ### methods -/
structure Mt0 (P : Program) (w : World) (K : PySem.W.Frag) (mg : Str → Option Value) (base : Heap) (CX : CXT) (k : Nat) (C : Addr) (m : Str) (n : Nat) (sp : Sp) : Prop where
  ex : ∃ (f : Addr) (fd : FuncData) (ps : List Str), FnOk P w K mg base CX k f fd ps sp ∧ Meth K C m f ∧ Binds K fd ps [] ∧ ps.length = n
structure In0 (P : Program) (w : World) (K : PySem.W.Frag) (mg : Str → Option Value) (base : Heap) (CX : CXT) (k : Nat) (C : Addr) (n : Nat) (sp : Sp) : Prop where
  ex : ∃ (f : Addr) (fd : FuncData) (ps : List Str), FnOk P w K mg base CX k f fd ps sp ∧ Mk K C f ∧ Binds K fd ps [] ∧ ps.length = n
section
variable {X : Cx} {CX : CXT} {k : Nat} {f C : Addr} {fd : FuncData} {ps : List Str} {sp : Sp} {m : Str} {o e : Expr} {es : List Expr} {ta : TE} {t : TA} {apos pos : Pos}
def tMethS (C : Addr) (m : Str) (sp : Sp) (E : L2.St → XK) (ta : TE) (t : TA) : TE := fun σ H Q => ta σ H fun x H1 => ∃ a dx fs, x = .ref a ∧ H1 a = some (.ins C dx fs) ∧ fs.lookup m = none ∧ t σ H1 fun vs H2 => sp (x :: vs) H2 Q (E σ)
theorem pe_methX {pl : Sem Bool} {E : L2.St → XK} (he : PE X o ta) (c : Cls X.K C) (hm : Meth X.K C m f) (F : FnOk X.prog X.w X.K X.mg X.base CX k f fd ps sp) (hr : Room k X.A) (hb : Binds X.K fd ps []) (hx : ∀ σ, PassesAt CX X σ (E σ)) (ha : PA X (e :: es) t)
    (hst : starEach (e :: es) X.env = (false, eval e X.env) :: starEach es X.env := by rfl) (hpl : (backTo pos (starEach es X.env)).any (·.1) = false := by rfl)
    (ht : eval (.Call (.Attribute o m apos) (e :: es) [] pos) X.env = (do
      let ov ← eval o X.env
      standAt apos.atName
      let (f, first) ← holding [ov] (getMethod ov m pl)
      callWith pos f first (backTo pos (starEach (e :: es) X.env)) (backToKw pos (keywordEach [] X.env))) := by rfl) :
    PE X (.Call (.Attribute o m apos) (e :: es) [] pos) (tMethS C m sp E ta t) := by
  refine ⟨fun pins s σ H Q I h => ?_⟩
  refine PySem.W.methodCall_KW (pl := pl) (thn (he.run pins s σ H _ I h) fun u s1 ⟨x, H1, I1, rx, a, dx, fs, ex, ea, l, q⟩ => ?_) ht
  subst ex
  obtain rfl : u = Value.ref a := rx
  refine getmeth_ok I1 ea c hm l ?_
  refine PySem.W.callWith_K (first := [.ref a]) (h₀ := X.base) I.ok.mod.kin hm.kp (thn (ha.run pos pins s1 σ H1 _ I1 q) fun us s2 ⟨vs, H2, I2, r, q2⟩ => ⟨I2.kIn, ?_⟩) hst hpl
  exact run_fnS (us := .ref a :: us) (vs := .ref a :: vs) F hr hb (hx σ) I2 (.cons rfl r) q2
theorem pe_methX0 {pl : Sem Bool} {E : L2.St → XK} (he : PE X o ta) (c : Cls X.K C) (hm : Meth X.K C m f) (F : FnOk X.prog X.w X.K X.mg X.base CX k f fd ps sp) (hr : Room k X.A) (hb : Binds X.K fd ps []) (hx : ∀ σ, PassesAt CX X σ (E σ))
    (ht : eval (.Call (.Attribute o m apos) [] [] pos) X.env = (do
      let ov ← eval o X.env
      standAt apos.atName
      let (f, first) ← holding [ov] (getMethod ov m pl)
      callWith pos f first (backTo pos (starEach [] X.env)) (backToKw pos (keywordEach [] X.env))) := by rfl) :
    PE X (.Call (.Attribute o m apos) [] [] pos) (tMethS C m sp E ta tNil) := by
  refine ⟨fun pins s σ H Q I h => ?_⟩
  refine PySem.W.methodCall_KW (pl := pl) (thn (he.run pins s σ H _ I h) fun u s1 ⟨x, H1, I1, rx, a, dx, fs, ex, ea, l, q⟩ => ?_) ht
  subst ex
  obtain rfl : u = Value.ref a := rx
  refine getmeth_ok I1 ea c hm l ?_
  exact PySem.W.callWith_K0 (first := [.ref a]) I1.kIn hm.kp (run_fnS (us := [.ref a]) (vs := [.ref a]) F hr hb (hx σ) I1 (.cons rfl .nil) q)
end
section
variable {P : Program} {w : World} {K : PySem.W.Frag} {mg : Str → Option Value} {base : Heap}
theorem fn_okM {I O : Type} {x q : Str} {st : Stmt} {f : Addr} {fd : FuncData} {N ps : List Str} {k : Nat} {pre : I → Hp → Cells → List V → Prop} {post : I → List V → O → Hp → Cells → V → Prop} (F : Fun K x q st f fd) (S : FnScope N ps (defScope st)) (b : Binds K fd ps [])
    (body : I → Out Empty O Empty O) (len : ∀ i G mc vs, pre i G mc vs → vs.length = ps.length)
    (h : ∀ (cdv : Value) (A : Around) (outer : List Env) (s : Shared) (H : Hp) (E : XK) (i : I) (G : Hp) (mc cs : Cells) (vs : List V), Room k (A.deeper (envOfC q (defScope st) s.heap.objs.size f cdv)) → pre i G mc vs →
      B (cxOf CX0 P w K mg base N q (defScope st) f cdv A outer s H E).nox (fun e _ _ => e.elim) (defBody st) (start N vs) G (mc ++ cs) (PoM cs (post i vs) (fun e _ _ => e.elim)) (body i)) :
    FnOk P w K mg base CX0 (k + 1) f fd ps (SpM pre post fun i => (body i).valM) := by
  refine F.ok S (fun vs H Q E hs => ?_) (fun cdv A outer s H vs Q E hr hs => ?_)
  · obtain ⟨i, G, mc, cs, _, hp, _⟩ := hs
    exact len i G mc vs hp
  · obtain ⟨i, G, mc, cs, d, hp, q0⟩ := hs
    refine ⟨_, sSs _ (defBody st), h cdv A outer s H E i G mc cs vs hr hp H d _ ?_⟩
    cases hb : body i with
    | nx u =>
      rintro σ2 G2 cs2 H2 s2 d2 ⟨loc, mc2, pm, hr2⟩
      refine q0 _ G2 mc2 H2 s2 (d2.perm pm).drop ?_
      dsimp only
      rw [hb]
      exact hr2
    | bk l => exact l.elim
    | ct l => exact l.elim
    | rt o =>
      rintro v G2 cs2 H2 s2 d2 ⟨loc, mc2, pm, hr2⟩
      refine q0 _ G2 mc2 H2 s2 (d2.perm pm).drop ?_
      dsimp only
      rw [hb]
      exact hr2
    | er e => exact e.elim
theorem fn_okME {n : Nat} {I O S : Type} {adr : Fin n → Addr} {x q : Str} {st : Stmt} {f : Addr} {fd : FuncData} {N ps : List Str} {k : Nat} {pre : I → Hp → Cells → List V → Prop} {post : I → List V → O → Hp → Cells → V → Prop} {perr : I → List V → S → Hp → Cells → Prop} (F : Fun K x q st f fd) (Sc : FnScope N ps (defScope st)) (b : Binds K fd ps [])
    (body : I → Out (Fin n × S) O Empty O) (len : ∀ i G mc vs, pre i G mc vs → vs.length = ps.length)
    (h : ∀ (cdv : Value) (A : Around) (outer : List Env) (s : Shared) (H : Hp) (E : XK) (i : I) (G : Hp) (mc cs : Cells) (vs : List V), Room k (A.deeper (envOfC q (defScope st) s.heap.objs.size f cdv)) → pre i G mc vs →
      B (cxOf (L2.CX P w) P w K mg base N q (defScope st) f cdv A outer s H E) (fun e _ H => E (.ref (adr e.1)) none H) (defBody st) (start N vs) G (mc ++ cs) (PoM cs (post i vs) (fun e => perr i vs e.2)) (body i)) :
    FnOk P w K mg base (L2.CX P w) (k + 1) f fd ps (SpME adr pre post perr fun i => (body i).resM) := by
  refine F.okX Sc (fun vs H Q E hs => ?_) (fun cdv A outer s H vs Q E hr hs => ?_)
  · obtain ⟨i, G, mc, cs, _, hp, _⟩ := hs
    exact len i G mc vs hp
  · obtain ⟨i, G, mc, cs, d, hp, q0⟩ := hs
    refine ⟨_, sSs _ (defBody st), h cdv A outer s H E i G mc cs vs hr hp H d _ ?_⟩
    dsimp only at q0
    cases hb : body i with
    | nx u =>
      rw [hb] at q0
      rintro σ2 G2 cs2 H2 s2 d2 ⟨loc, mc2, pm, hr2⟩
      exact q0 _ G2 mc2 H2 s2 (d2.perm pm).drop hr2
    | bk l => exact l.elim
    | ct l => exact l.elim
    | rt o =>
      rw [hb] at q0
      rintro v G2 cs2 H2 s2 d2 ⟨loc, mc2, pm, hr2⟩
      exact q0 _ G2 mc2 H2 s2 (d2.perm pm).drop hr2
    | er e =>
      rw [hb] at q0
      rintro σ2 G2 cs2 H2 s2 d2 ⟨loc, mc2, pm, hr2⟩
      exact q0 G2 mc2 H2 s2 (d2.perm pm).drop hr2
end
section
variable {n : Nat} {adr : Fin n → Addr} {X : Cx} {Wx : WX} {σ : L2.St} {G : Hp} {cs : Cells} {o e : Expr} {es : List Expr} {pos p apos : Pos} {k : V → Hp → Cells → Prop}
/-- o.m(..), a method that may change what it is given -/
theorem ec_methM {I O : Type} {pre : I → Hp → Cells → List V → Prop} {post : I → List V → O → Hp → Cells → V → Prop} {mm : I → O} {j l na : Nat} {m : Str} {C a dx : Addr} {fs : List (Str × V)} {pl : Sem Bool} (F : Mt0 X.prog X.w X.K X.mg X.base CX0 j C m na (SpM pre post mm)) (ck : Cls X.K C) (hr : Room l X.A) (hk : j ≤ l)
    (ho : D X o σ G cs (rV (.ref a))) (hc : (a, HO.ins C dx fs) ∈ cs) (hl : fs.lookup m = none)
    (ha : AC X (e :: es) σ G cs fun vs G1 cs1 => ∃ i mc rest, cs1.Perm (mc ++ rest) ∧ pre i G1 mc (.ref a :: vs) ∧ ∀ v G2 mc2, Same G1 G2 → post i (.ref a :: vs) (mm i) G2 mc2 v → ∃ cs2, (mc2 ++ rest).Perm cs2 ∧ k v G2 cs2)
    (hst : starEach (e :: es) X.env = (false, eval e X.env) :: starEach es X.env := by exact star_plain rfl) (hpl : (backTo pos (starEach es X.env)).any (·.1) = false := by rfl)
    (ht : eval (.Call (.Attribute o m apos) (e :: es) [] pos) X.env = (do
      let ov ← eval o X.env
      standAt apos.atName
      let (f, first) ← holding [ov] (getMethod ov m pl)
      callWith pos f first (backTo pos (starEach (e :: es) X.env)) (backToKw pos (keywordEach [] X.env))) := by rfl) : EC X (.Call (.Attribute o m apos) (e :: es) [] pos) σ G cs k := by
  obtain ⟨f, fd, ps, F, hm, b, _⟩ := F.ex
  intro G1 H s d Q q
  refine uE (pe_meth (sE X o) ck hm F (hr.mono hk) b .nil pass0 (sA X _) (hst := hst) (hpl := hpl) (ht := ht)) (ho G1 H s d _ fun G2 H2 x s2 d2 hx => ⟨a, dx, fs, hx, d2.at_ hc, hl, ha G2 H2 (s.trans s2) d2 _ fun G3 H3 cs3 vs s3 d3 hvs => ?_⟩)
  obtain ⟨i, mc, rest, pm, hp, hq⟩ := hvs
  have ex : x = .ref a := hx
  subst ex
  refine ⟨i, G3, mc, rest, d3.perm pm, ?_, fun v G4 mc2 H4 s4 d4 hv => ?_⟩
  · rw [List.append_nil]
    exact hp
  · rw [List.append_nil] at hv
    obtain ⟨cs4, pm4, hk4⟩ := hq v G4 mc2 s4 hv
    exact q G4 H4 cs4 v ((s2.trans s3).trans s4) (d4.perm pm4) hk4
theorem ec_methM0 {I O : Type} {pre : I → Hp → Cells → List V → Prop} {post : I → List V → O → Hp → Cells → V → Prop} {mm : I → O} {j l na : Nat} {m : Str} {C a dx : Addr} {fs : List (Str × V)} {pl : Sem Bool} (F : Mt0 X.prog X.w X.K X.mg X.base CX0 j C m na (SpM pre post mm)) (ck : Cls X.K C) (hr : Room l X.A) (hk : j ≤ l)
    (ho : D X o σ G cs (rV (.ref a))) (hc : (a, HO.ins C dx fs) ∈ cs) (hl : fs.lookup m = none)
    (ha : ∀ G1, Same G G1 → ∃ i mc rest, cs.Perm (mc ++ rest) ∧ pre i G1 mc [.ref a] ∧ ∀ v G2 mc2, Same G1 G2 → post i [.ref a] (mm i) G2 mc2 v → ∃ cs2, (mc2 ++ rest).Perm cs2 ∧ k v G2 cs2)
    (ht : eval (.Call (.Attribute o m apos) [] [] pos) X.env = (do
      let ov ← eval o X.env
      standAt apos.atName
      let (f, first) ← holding [ov] (getMethod ov m pl)
      callWith pos f first (backTo pos (starEach [] X.env)) (backToKw pos (keywordEach [] X.env))) := by rfl) : EC X (.Call (.Attribute o m apos) [] [] pos) σ G cs k := by
  obtain ⟨f, fd, ps, F, hm, b, _⟩ := F.ex
  intro G1 H s d Q q
  refine uE (pe_meth0 (sE X o) ck hm F (hr.mono hk) b .nil pass0 (ht := ht)) (ho G1 H s d _ fun G2 H2 x s2 d2 hx => ⟨a, dx, fs, hx, d2.at_ hc, hl, ?_⟩)
  obtain ⟨i, mc, rest, pm, hp, hq⟩ := ha G2 (s.trans s2)
  have ex : x = .ref a := hx
  subst ex
  refine ⟨i, G2, mc, rest, d2.perm pm, hp, fun v G4 mc2 H4 s4 d4 hv => ?_⟩
  obtain ⟨cs4, pm4, hk4⟩ := hq v G4 mc2 s4 hv
  exact q G4 H4 cs4 v (s2.trans s4) (d4.perm pm4) hk4
/-- .. and may raise -/
theorem ex_methME {I O S : Type} {pre : I → Hp → Cells → List V → Prop} {post : I → List V → O → Hp → Cells → V → Prop} {perr : I → List V → S → Hp → Cells → Prop} {mm : I → Except (Fin n × S) O} {ke : Fin n → S → Hp → Cells → Prop} {kx : O → V → Hp → Cells → Prop} {j l na : Nat} {m : Str} {C a dx : Addr} {fs : List (Str × V)} {pl : Sem Bool}
    (i : I) (F : Mt0 X.prog X.w X.K X.mg X.base (L2.CX X.prog X.w) j C m na (SpME adr pre post perr mm)) (ck : Cls X.K C) (tk : Takes X Wx) (hr : Room l X.A) (hk : j ≤ l)
    (ho : D X o σ G cs (rV (.ref a))) (hc : (a, HO.ins C dx fs) ∈ cs) (hl : fs.lookup m = none)
    (ha : AC X (e :: es) σ G cs fun vs G1 cs1 => ∃ mc rest, cs1.Perm (mc ++ rest) ∧ pre i G1 mc (.ref a :: vs) ∧ (∀ o v G2 mc2, mm i = .ok o → Same G1 G2 → post i (.ref a :: vs) o G2 mc2 v → ∃ cs2, (mc2 ++ rest).Perm cs2 ∧ kx o v G2 cs2) ∧ (∀ c t G2 mc2, mm i = .error (c, t) → Same G1 G2 → perr i (.ref a :: vs) t G2 mc2 → ∃ cs2, (mc2 ++ rest).Perm cs2 ∧ ke c t G2 cs2))
    (hst : starEach (e :: es) X.env = (false, eval e X.env) :: starEach es X.env := by exact star_plain rfl) (hpl : (backTo pos (starEach es X.env)).any (·.1) = false := by rfl)
    (ht : eval (.Call (.Attribute o m apos) (e :: es) [] pos) X.env = (do
      let ov ← eval o X.env
      standAt apos.atName
      let (f, first) ← holding [ov] (getMethod ov m pl)
      callWith pos f first (backTo pos (starEach (e :: es) X.env)) (backToKw pos (keywordEach [] X.env))) := by rfl) : EX X adr Wx (.Call (.Attribute o m apos) (e :: es) [] pos) σ G cs (mm i) kx ke := by
  obtain ⟨f, fd, ps, F, hm, b, _⟩ := F.ex
  intro G1 H s d Q q
  refine uE (pe_methX (sE X o) ck hm F (hr.mono hk) b (fun σ => passAt tk σ) (sA X _) (hst := hst) (hpl := hpl) (ht := ht)) (ho G1 H s d _ fun G2 H2 x s2 d2 hx => ⟨a, dx, fs, hx, d2.at_ hc, hl, ha G2 H2 (s.trans s2) d2 _ fun G3 H3 cs3 vs s3 d3 hvs => ?_⟩)
  obtain ⟨mc, rest, pm, hp, hq, he⟩ := hvs
  have ex : x = .ref a := hx
  subst ex
  refine ⟨i, G3, mc, rest, d3.perm pm, hp, ?_⟩
  cases hm : mm i with
  | ok o =>
    rw [hm] at q
    intro v G4 mc2 H4 s4 d4 hv
    obtain ⟨cs4, pm4, hk4⟩ := hq o v G4 mc2 hm s4 hv
    exact q G4 H4 cs4 v ((s2.trans s3).trans s4) (d4.perm pm4) hk4
  | error ct =>
    obtain ⟨c, t⟩ := ct
    rw [hm] at q
    intro G4 mc2 H4 s4 d4 hv
    obtain ⟨cs4, pm4, hk4⟩ := he c t G4 mc2 hm s4 hv
    exact q G4 H4 cs4 ((s2.trans s3).trans s4) (d4.perm pm4) hk4
theorem ex_methME0 {I O S : Type} {pre : I → Hp → Cells → List V → Prop} {post : I → List V → O → Hp → Cells → V → Prop} {perr : I → List V → S → Hp → Cells → Prop} {mm : I → Except (Fin n × S) O} {ke : Fin n → S → Hp → Cells → Prop} {kx : O → V → Hp → Cells → Prop} {j l na : Nat} {m : Str} {C a dx : Addr} {fs : List (Str × V)} {pl : Sem Bool}
    (i : I) (F : Mt0 X.prog X.w X.K X.mg X.base (L2.CX X.prog X.w) j C m na (SpME adr pre post perr mm)) (ck : Cls X.K C) (tk : Takes X Wx) (hr : Room l X.A) (hk : j ≤ l)
    (ho : D X o σ G cs (rV (.ref a))) (hc : (a, HO.ins C dx fs) ∈ cs) (hl : fs.lookup m = none)
    (ha : ∀ G1, Same G G1 → ∃ mc rest, cs.Perm (mc ++ rest) ∧ pre i G1 mc [.ref a] ∧ (∀ o v G2 mc2, mm i = .ok o → Same G1 G2 → post i [.ref a] o G2 mc2 v → ∃ cs2, (mc2 ++ rest).Perm cs2 ∧ kx o v G2 cs2) ∧ (∀ c t G2 mc2, mm i = .error (c, t) → Same G1 G2 → perr i [.ref a] t G2 mc2 → ∃ cs2, (mc2 ++ rest).Perm cs2 ∧ ke c t G2 cs2))
    (ht : eval (.Call (.Attribute o m apos) [] [] pos) X.env = (do
      let ov ← eval o X.env
      standAt apos.atName
      let (f, first) ← holding [ov] (getMethod ov m pl)
      callWith pos f first (backTo pos (starEach [] X.env)) (backToKw pos (keywordEach [] X.env))) := by rfl) : EX X adr Wx (.Call (.Attribute o m apos) [] [] pos) σ G cs (mm i) kx ke := by
  obtain ⟨f, fd, ps, F, hm, b, _⟩ := F.ex
  intro G1 H s d Q q
  refine uE (pe_methX0 (sE X o) ck hm F (hr.mono hk) b (fun σ => passAt tk σ) (ht := ht)) (ho G1 H s d _ fun G2 H2 x s2 d2 hx => ⟨a, dx, fs, hx, d2.at_ hc, hl, ?_⟩)
  obtain ⟨mc, rest, pm, hp, hq, he⟩ := ha G2 (s.trans s2)
  have ex : x = .ref a := hx
  subst ex
  refine ⟨i, G2, mc, rest, d2.perm pm, hp, ?_⟩
  cases hm : mm i with
  | ok o =>
    rw [hm] at q
    intro v G4 mc2 H4 s4 d4 hv
    obtain ⟨cs4, pm4, hk4⟩ := hq o v G4 mc2 hm s4 hv
    exact q G4 H4 cs4 v (s2.trans s4) (d4.perm pm4) hk4
  | error ct =>
    obtain ⟨c, t⟩ := ct
    rw [hm] at q
    intro G4 mc2 H4 s4 d4 hv
    obtain ⟨cs4, pm4, hk4⟩ := he c t G4 mc2 hm s4 hv
    exact q G4 H4 cs4 (s2.trans s4) (d4.perm pm4) hk4
/-- f(..), a def that changes what it is given and may raise -/
theorem ex_callME {I O S : Type} {pre : I → Hp → Cells → List V → Prop} {post : I → List V → O → Hp → Cells → V → Prop} {perr : I → List V → S → Hp → Cells → Prop} {mm : I → Except (Fin n × S) O} {ke : Fin n → S → Hp → Cells → Prop} {kx : O → V → Hp → Cells → Prop} {j l na : Nat} {x : Str}
    (i : I) (F : Fn0 X.prog X.w X.K X.mg X.base (L2.CX X.prog X.w) j x na (SpME adr pre post perr mm)) (tk : Takes X Wx) (hr : Room l X.A) (hk : j ≤ l)
    (ha : AC X (e :: es) σ G cs fun vs G1 cs1 => ∃ mc rest, cs1.Perm (mc ++ rest) ∧ pre i G1 mc vs ∧ (∀ o v G2 mc2, mm i = .ok o → Same G1 G2 → post i vs o G2 mc2 v → ∃ cs2, (mc2 ++ rest).Perm cs2 ∧ kx o v G2 cs2) ∧ (∀ c t G2 mc2, mm i = .error (c, t) → Same G1 G2 → perr i vs t G2 mc2 → ∃ cs2, (mc2 ++ rest).Perm cs2 ∧ ke c t G2 cs2)) (hg : Gl X x := by rfl) (hd : (x == ("__debug__" : Str)) = false := by decide)
    (he : starEach (e :: es) X.env = (false, eval e X.env) :: starEach es X.env := by exact star_plain rfl) (hpl : (backTo pos (starEach es X.env)).any (·.1) = false := by rfl) : EX X adr Wx (.Call (.Name x p) (e :: es) [] pos) σ G cs (mm i) kx ke := by
  obtain ⟨f, fd, ps, F, hm, kp, b, _⟩ := F.ex
  intro G1 H s d Q q
  refine uE (pe_callS F (hr.mono hk) hg hm kp b (fun σ => passAt tk σ) (sA X _) (hdb := hd) (he := he) (hpl := hpl)) (ha G1 H s d _ fun G3 H3 cs3 vs s3 d3 hvs => ?_)
  obtain ⟨mc, rest, pm, hp, hq, he⟩ := hvs
  refine ⟨i, G3, mc, rest, d3.perm pm, hp, ?_⟩
  cases hm : mm i with
  | ok o =>
    rw [hm] at q
    intro v G4 mc2 H4 s4 d4 hv
    obtain ⟨cs4, pm4, hk4⟩ := hq o v G4 mc2 hm s4 hv
    exact q G4 H4 cs4 v (s3.trans s4) (d4.perm pm4) hk4
  | error ct =>
    obtain ⟨c, t⟩ := ct
    rw [hm] at q
    intro G4 mc2 H4 s4 d4 hv
    obtain ⟨cs4, pm4, hk4⟩ := he c t G4 mc2 hm s4 hv
    exact q G4 H4 cs4 (s3.trans s4) (d4.perm pm4) hk4
/-- .. and may raise -/
theorem ec_methS {I O S : Type} {pre : I → Hp → Cells → List V → Prop} {post : I → List V → O → Hp → Cells → V → Prop} {perr : I → List V → S → Hp → Cells → Prop} {mm : I → Except (Fin n × S) O} {k : V → Hp → Cells → Prop} {oo : O} {j l na : Nat} {m : Str} {C a dx : Addr} {fs : List (Str × V)} {pl : Sem Bool}
    (i : I) (F : Mt0 X.prog X.w X.K X.mg X.base (L2.CX X.prog X.w) j C m na (SpME adr pre post perr mm)) (ck : Cls X.K C) (hok : mm i = .ok oo) (hr : Room l X.A) (hk : j ≤ l)
    (ho : D X o σ G cs (rV (.ref a))) (hc : (a, HO.ins C dx fs) ∈ cs) (hl : fs.lookup m = none)
    (ha : AC X (e :: es) σ G cs fun vs G1 cs1 => ∃ mc rest, cs1.Perm (mc ++ rest) ∧ pre i G1 mc (.ref a :: vs) ∧ ∀ v G2 mc2, Same G1 G2 → post i (.ref a :: vs) oo G2 mc2 v → ∃ cs2, (mc2 ++ rest).Perm cs2 ∧ k v G2 cs2)
    (hst : starEach (e :: es) X.env = (false, eval e X.env) :: starEach es X.env := by exact star_plain rfl) (hpl : (backTo pos (starEach es X.env)).any (·.1) = false := by rfl)
    (ht : eval (.Call (.Attribute o m apos) (e :: es) [] pos) X.env = (do
      let ov ← eval o X.env
      standAt apos.atName
      let (f, first) ← holding [ov] (getMethod ov m pl)
      callWith pos f first (backTo pos (starEach (e :: es) X.env)) (backToKw pos (keywordEach [] X.env))) := by rfl) : EC X (.Call (.Attribute o m apos) (e :: es) [] pos) σ G cs k := by
  obtain ⟨f, fd, ps, F, hm, b, _⟩ := F.ex
  intro G1 H s d Q q
  refine uE (pe_methX (sE X o) ck hm F (hr.mono hk) b (E := fun _ _ _ _ => False) (fun σ pins H s u s' I c => by obtain ⟨_, _, _, _, _, _, _, _, _, _, _, _, z⟩ := c; exact z.elim) (sA X _) (hst := hst) (hpl := hpl) (ht := ht)) (ho G1 H s d _ fun G2 H2 x s2 d2 hx => ⟨a, dx, fs, hx, d2.at_ hc, hl, ha G2 H2 (s.trans s2) d2 _ fun G3 H3 cs3 vs s3 d3 hvs => ?_⟩)
  obtain ⟨mc, rest, pm, hp, hq⟩ := hvs
  have ex : x = .ref a := hx
  subst ex
  refine ⟨i, G3, mc, rest, d3.perm pm, hp, ?_⟩
  rw [hok]
  intro v G4 mc2 H4 s4 d4 hv
  obtain ⟨cs4, pm4, hk4⟩ := hq v G4 mc2 s4 hv
  exact q G4 H4 cs4 v ((s2.trans s3).trans s4) (d4.perm pm4) hk4
theorem ec_methS0 {I O S : Type} {pre : I → Hp → Cells → List V → Prop} {post : I → List V → O → Hp → Cells → V → Prop} {perr : I → List V → S → Hp → Cells → Prop} {mm : I → Except (Fin n × S) O} {k : V → Hp → Cells → Prop} {oo : O} {j l na : Nat} {m : Str} {C a dx : Addr} {fs : List (Str × V)} {pl : Sem Bool}
    (i : I) (F : Mt0 X.prog X.w X.K X.mg X.base (L2.CX X.prog X.w) j C m na (SpME adr pre post perr mm)) (ck : Cls X.K C) (hok : mm i = .ok oo) (hr : Room l X.A) (hk : j ≤ l)
    (ho : D X o σ G cs (rV (.ref a))) (hc : (a, HO.ins C dx fs) ∈ cs) (hl : fs.lookup m = none)
    (ha : ∀ G1, Same G G1 → ∃ mc rest, cs.Perm (mc ++ rest) ∧ pre i G1 mc [.ref a] ∧ ∀ v G2 mc2, Same G1 G2 → post i [.ref a] oo G2 mc2 v → ∃ cs2, (mc2 ++ rest).Perm cs2 ∧ k v G2 cs2)
    (ht : eval (.Call (.Attribute o m apos) [] [] pos) X.env = (do
      let ov ← eval o X.env
      standAt apos.atName
      let (f, first) ← holding [ov] (getMethod ov m pl)
      callWith pos f first (backTo pos (starEach [] X.env)) (backToKw pos (keywordEach [] X.env))) := by rfl) : EC X (.Call (.Attribute o m apos) [] [] pos) σ G cs k := by
  obtain ⟨f, fd, ps, F, hm, b, _⟩ := F.ex
  intro G1 H s d Q q
  refine uE (pe_methX0 (sE X o) ck hm F (hr.mono hk) b (E := fun _ _ _ _ => False) (fun σ pins H s u s' I c => by obtain ⟨_, _, _, _, _, _, _, _, _, _, _, _, z⟩ := c; exact z.elim) (ht := ht)) (ho G1 H s d _ fun G2 H2 x s2 d2 hx => ⟨a, dx, fs, hx, d2.at_ hc, hl, ?_⟩)
  obtain ⟨mc, rest, pm, hp, hq⟩ := ha G2 (s.trans s2)
  have ex : x = .ref a := hx
  subst ex
  refine ⟨i, G2, mc, rest, d2.perm pm, hp, ?_⟩
  rw [hok]
  intro v G4 mc2 H4 s4 d4 hv
  obtain ⟨cs4, pm4, hk4⟩ := hq v G4 mc2 s4 hv
  exact q G4 H4 cs4 v (s2.trans s4) (d4.perm pm4) hk4
/-- f(..), a def that changes what it is given and may raise -/
theorem ec_callS {I O S : Type} {pre : I → Hp → Cells → List V → Prop} {post : I → List V → O → Hp → Cells → V → Prop} {perr : I → List V → S → Hp → Cells → Prop} {mm : I → Except (Fin n × S) O} {k : V → Hp → Cells → Prop} {oo : O} {j l na : Nat} {x : Str}
    (i : I) (F : Fn0 X.prog X.w X.K X.mg X.base (L2.CX X.prog X.w) j x na (SpME adr pre post perr mm)) (hok : mm i = .ok oo) (hr : Room l X.A) (hk : j ≤ l)
    (ha : AC X (e :: es) σ G cs fun vs G1 cs1 => ∃ mc rest, cs1.Perm (mc ++ rest) ∧ pre i G1 mc vs ∧ ∀ v G2 mc2, Same G1 G2 → post i vs oo G2 mc2 v → ∃ cs2, (mc2 ++ rest).Perm cs2 ∧ k v G2 cs2) (hg : Gl X x := by rfl) (hd : (x == ("__debug__" : Str)) = false := by decide)
    (he : starEach (e :: es) X.env = (false, eval e X.env) :: starEach es X.env := by exact star_plain rfl) (hpl : (backTo pos (starEach es X.env)).any (·.1) = false := by rfl) : EC X (.Call (.Name x p) (e :: es) [] pos) σ G cs k := by
  obtain ⟨f, fd, ps, F, hm, kp, b, _⟩ := F.ex
  intro G1 H s d Q q
  refine uE (pe_callS F (hr.mono hk) hg hm kp b (E := fun _ _ _ _ => False) (fun σ pins H s u s' I c => by obtain ⟨_, _, _, _, _, _, _, _, _, _, _, _, z⟩ := c; exact z.elim) (sA X _) (hdb := hd) (he := he) (hpl := hpl)) (ha G1 H s d _ fun G3 H3 cs3 vs s3 d3 hvs => ?_)
  obtain ⟨mc, rest, pm, hp, hq⟩ := hvs
  refine ⟨i, G3, mc, rest, d3.perm pm, hp, ?_⟩
  rw [hok]
  intro v G4 mc2 H4 s4 d4 hv
  obtain ⟨cs4, pm4, hk4⟩ := hq v G4 mc2 s4 hv
  exact q G4 H4 cs4 v (s3.trans s4) (d4.perm pm4) hk4
/-- C(..) -/
theorem ec_make {I O : Type} {pre : I → Hp → Cells → List V → Prop} {post : I → List V → O → Hp → Cells → V → Prop} {mm : I → O} {j l na : Nat} {x : Str} {C : Addr} (F : In0 X.prog X.w X.K X.mg X.base CX0 j C na (SpM pre post mm)) (hm : X.mg x = some (.ref C)) (hr : Room l X.A) (hk : j + 1 ≤ l)
    (ha : AC X (e :: es) σ G cs fun vs G1 cs1 => ∀ a dx, ∃ i mc rest, ((a, HO.ins C dx []) :: (dx, HO.own a) :: cs1).Perm (mc ++ rest) ∧ pre i G1 mc (.ref a :: vs) ∧ ∀ v G2 mc2, Same G1 G2 → post i (.ref a :: vs) (mm i) G2 mc2 v → v = .non ∧ ∃ cs2, (mc2 ++ rest).Perm cs2 ∧ k (.ref a) G2 cs2) (hg : Gl X x := by rfl) (hd : (x == ("__debug__" : Str)) = false := by decide)
    (he : starEach (e :: es) X.env = (false, eval e X.env) :: starEach es X.env := by exact star_plain rfl) (hpl : (backTo pos (starEach es X.env)).any (·.1) = false := by rfl) : EC X (.Call (.Name x p) (e :: es) [] pos) σ G cs k := by
  obtain ⟨f, fd, ps, F, M, b, _⟩ := F.ex
  intro G1 H s d Q q
  refine uE (pe_make M F (hr.mono hk) hg hm b .nil pass0 (sA X _) (hdb := hd) (he := he) (hpl := hpl)) (ha G1 H s d _ fun G3 H3 cs3 vs s3 d3 hvs => ?_)
  intro a dx ha0 hdx hne
  obtain ⟨i, mc, rest, pm, hp, hq⟩ := hvs a dx
  have d4 := d3.newCell hdx (.own a)
  have ha1 : (upd H3 dx (.own a)) a = none := by rw [upd_ne hne.symm]; exact ha0
  have d5 := d4.newCell ha1 (.ins C dx [])
  refine ⟨i, G3, mc, rest, d5.perm pm, ?_, fun v G4 mc2 H4 s4 d6 hv => ?_⟩
  · rw [List.append_nil]
    exact hp
  · rw [List.append_nil] at hv
    obtain ⟨ev, cs4, pm4, hk4⟩ := hq v G4 mc2 s4 hv
    exact ⟨ev, q G4 H4 cs4 (.ref a) (s3.trans s4) (d6.perm pm4) hk4⟩
end
section
variable {n : Nat} {nm : Fin n → Str} {adr : Fin n → Addr} {B0 : Addr} {S L R T : Type} {X : Cx} {σ : L2.St} {G : Hp} {cs : Cells} {rest body : List Stmt} {pos q : Pos}
variable {ε S' : Type} {Φ : Po ε S L R} {W : ε → L2.St → Hp → Prop} {suite : List Stmt} {b₀ : Stmt} {np : Pos}
/-- try: .. except BankError as x: .. -/
theorem b_tryAsM {mb : Out (Fin n × T) S' L R} {mh : Fin n × T → Out ε S' L R} {g : S' → Out ε S L R} {x : Str} (i : Nat) (Mid : S' → L2.St → Hp → Cells → Prop) (Mx : Fin n × T → L2.St → Hp → Cells → Prop) (Er : Errs X.K X.mg nm adr B0) (hN : X.N.Nodup)
    (hb : ∀ (Wx : WX) (pn : List (Addr × Obj)) (xe : Value → Shared → Prop), Takes (X.tr pn xe) Wx → PassesOwn (model X.prog X.w) X.A X.env xe → B (X.tr pn xe) (wE3 adr Wx) body σ G cs { nx := Mid, lp := Φ.lp, rt := Φ.rt, er := Mx } mb)
    (hh : ∀ k, mb = .er k → ∀ (a : Addr) (oe : Obj) (pn : List (Addr × Obj)) (σ1 : L2.St) (G1 : Hp) (cs1 : Cells), Same G G1 → Mx k σ1 G1 cs1 → Zc (.ref (adr k.1)) none oe → (∃ vs, oe.data = .fields vs) →
      B (X.suite a ((a, oe) :: pn)) W (b₀ :: suite) (σ1.set i (some (.ref a))) G1 cs1 { nx := fun s σ2 => Mid s (σ2.set i none), lp := fun l σ2 => Φ.lp l (σ2.set i none), rt := Φ.rt, er := fun _ _ _ _ => False } (mh k))
    (hr : ∀ s σ2 G2 cs2, Same G G2 → Mid s σ2 G2 cs2 → tryO mb mh = .nx s → B X W rest σ2 G2 cs2 Φ (g s))
    (hs : X.stack = X.env :: X.outer := by rfl) (hf : X.env.frame = some X.env.locals := by rfl) (hi : X.N[i]? = some x := by rfl) (hln : X.env.kindOf x = some .local := by rfl) (hg : Gl X "BankError" := by rfl) :
    B X W (.Try body [.ExceptHandler (some (.Name "BankError" np)) (some x) (b₀ :: suite) q] [] [] pos :: rest) σ G cs Φ ((tryO mb mh).bind g) := by
  refine b_cons (ps_try_as (i := i) (tb := fun Wx D σ H => ∀ pn xe, Takes (X.tr pn xe) Wx → PassesOwn (model X.prog X.w) X.A X.env xe → wSs (X.tr pn xe) body D σ H) (ts := fun a cls d D σ H => ∀ oe pn, Zc cls d oe → (∃ vs, oe.data = .fields vs) → wSs (X.suite a ((a, oe) :: pn)) (b₀ :: suite) D σ H) (Wout := fun _ _ _ _ => False)
    hs hf hN hi hln ⟨hg, by decide, .inl Er.mB⟩ takes0 (fun Wx pn xe tk po => ⟨fun pins s _ _ _ I h => (h pn xe tk po).run pins s I⟩) (fun a oe cls d pn hz hfd => ⟨fun pins s _ _ _ I h => (h oe pn hz hfd).run pins s I⟩)) fun H d E w => ?_
  intro pn xe tk po
  have h1 := hb _ pn xe tk po
  refine h1 H d _ ?_
  cases hm : mb with
  | nx s =>
    rw [hm] at w hr
    exact fun σ2 G2 cs2 H2 s2 d2 p => hr s σ2 G2 cs2 s2 p rfl H2 d2 E (Wish.up (G := G) (show Wish W G Φ E (g s) from w) s2)
  | bk l =>
    rw [hm] at w
    exact fun σ2 G2 cs2 H2 s2 d2 p => w σ2 G2 cs2 H2 s2 d2 p
  | ct l =>
    rw [hm] at w
    exact fun σ2 G2 cs2 H2 s2 d2 p => w σ2 G2 cs2 H2 s2 d2 p
  | rt r =>
    rw [hm] at w
    exact fun v G2 cs2 H2 s2 d2 p => w v G2 cs2 H2 s2 d2 p
  | er k =>
    rw [hm] at w hr
    intro σ2 G2 cs2 H2 s2 d2 p
    refine ⟨true, (Er.one k.1).ca, fun _ a ha oe pn2 hz hfd => ?_, fun z => nomatch z⟩
    refine hh k hm a oe pn2 σ2 G2 cs2 s2 p hz hfd H2 d2 _ ?_
    have w2 : Wish W G Φ E ((mh k).bind g) := w
    have hr2 : ∀ s σ2 G2 cs2, Same G G2 → Mid s σ2 G2 cs2 → mh k = .nx s → B X W rest σ2 G2 cs2 Φ (g s) := hr
    cases hk : mh k with
    | nx s =>
      rw [hk] at w2
      exact fun σ3 G3 cs3 H3 s3 d3 p3 => hr2 s _ G3 cs3 (s2.trans s3) p3 hk H3 d3 E (Wish.up (G := G) (show Wish W G Φ E (g s) from w2) (s2.trans s3))
    | bk l =>
      rw [hk] at w2
      exact fun σ3 G3 cs3 H3 s3 d3 p3 => w2 _ G3 cs3 H3 (s2.trans s3) d3 p3
    | ct l =>
      rw [hk] at w2
      exact fun σ3 G3 cs3 H3 s3 d3 p3 => w2 _ G3 cs3 H3 (s2.trans s3) d3 p3
    | rt r =>
      rw [hk] at w2
      exact fun v G3 cs3 H3 s3 d3 p3 => w2 v G3 cs3 H3 (s2.trans s3) d3 p3
    | er e => exact fun _ _ _ _ _ _ z => z.elim
/-- try: .. except BankError: .. -/
theorem b_tryOnlyM {mb : Out (Fin n × T) S' L R} {mh : Fin n × T → Out ε S' L R} {g : S' → Out ε S L R} (Mid : S' → L2.St → Hp → Cells → Prop) (Mx : Fin n × T → L2.St → Hp → Cells → Prop) (Er : Errs X.K X.mg nm adr B0)
    (hb : ∀ (Wx : WX) (pn : List (Addr × Obj)) (xe : Value → Shared → Prop), Takes (X.tr pn xe) Wx → PassesOwn (model X.prog X.w) X.A X.env xe → B (X.tr pn xe) (wE3 adr Wx) body σ G cs { nx := Mid, lp := Φ.lp, rt := Φ.rt, er := Mx } mb)
    (hh : ∀ k, mb = .er k → ∀ (a : Addr) (oe : Obj) (pn : List (Addr × Obj)) (σ1 : L2.St) (G1 : Hp) (cs1 : Cells), Same G G1 → Mx k σ1 G1 cs1 → Zc (.ref (adr k.1)) none oe → (∃ vs, oe.data = .fields vs) →
      B (X.suite a ((a, oe) :: pn)) W (b₀ :: suite) σ1 G1 cs1 { nx := Mid, lp := Φ.lp, rt := Φ.rt, er := fun _ _ _ _ => False } (mh k))
    (hr : ∀ s σ2 G2 cs2, Same G G2 → Mid s σ2 G2 cs2 → tryO mb mh = .nx s → B X W rest σ2 G2 cs2 Φ (g s))
    (hs : X.stack = X.env :: X.outer := by rfl) (hf : X.env.frame = some X.env.locals := by rfl) (hg : Gl X "BankError" := by rfl) :
    B X W (.Try body [.ExceptHandler (some (.Name "BankError" np)) none (b₀ :: suite) q] [] [] pos :: rest) σ G cs Φ ((tryO mb mh).bind g) := by
  refine b_cons (ps_try_only (tb := fun Wx D σ H => ∀ pn xe, Takes (X.tr pn xe) Wx → PassesOwn (model X.prog X.w) X.A X.env xe → wSs (X.tr pn xe) body D σ H) (ts := fun a cls d D σ H => ∀ oe pn, Zc cls d oe → (∃ vs, oe.data = .fields vs) → wSs (X.suite a ((a, oe) :: pn)) (b₀ :: suite) D σ H) (Wout := fun _ _ _ _ => False)
    hs hf ⟨hg, by decide, .inl Er.mB⟩ takes0 (fun Wx pn xe tk po => ⟨fun pins s _ _ _ I h => (h pn xe tk po).run pins s I⟩) (fun a oe cls d pn hz hfd => ⟨fun pins s _ _ _ I h => (h oe pn hz hfd).run pins s I⟩)) fun H d E w => ?_
  intro pn xe tk po
  have h1 := hb _ pn xe tk po
  refine h1 H d _ ?_
  cases hm : mb with
  | nx s =>
    rw [hm] at w hr
    exact fun σ2 G2 cs2 H2 s2 d2 p => hr s σ2 G2 cs2 s2 p rfl H2 d2 E (Wish.up (G := G) (show Wish W G Φ E (g s) from w) s2)
  | bk l =>
    rw [hm] at w
    exact fun σ2 G2 cs2 H2 s2 d2 p => w σ2 G2 cs2 H2 s2 d2 p
  | ct l =>
    rw [hm] at w
    exact fun σ2 G2 cs2 H2 s2 d2 p => w σ2 G2 cs2 H2 s2 d2 p
  | rt r =>
    rw [hm] at w
    exact fun v G2 cs2 H2 s2 d2 p => w v G2 cs2 H2 s2 d2 p
  | er k =>
    rw [hm] at w hr
    intro σ2 G2 cs2 H2 s2 d2 p
    refine ⟨true, (Er.one k.1).ca, fun _ a ha oe pn2 hz hfd => ?_, fun z => nomatch z⟩
    refine hh k hm a oe pn2 σ2 G2 cs2 s2 p hz hfd H2 d2 _ ?_
    have w2 : Wish W G Φ E ((mh k).bind g) := w
    have hr2 : ∀ s σ2 G2 cs2, Same G G2 → Mid s σ2 G2 cs2 → mh k = .nx s → B X W rest σ2 G2 cs2 Φ (g s) := hr
    cases hk : mh k with
    | nx s =>
      rw [hk] at w2
      exact fun σ3 G3 cs3 H3 s3 d3 p3 => hr2 s _ G3 cs3 (s2.trans s3) p3 hk H3 d3 E (Wish.up (G := G) (show Wish W G Φ E (g s) from w2) (s2.trans s3))
    | bk l =>
      rw [hk] at w2
      exact fun σ3 G3 cs3 H3 s3 d3 p3 => w2 _ G3 cs3 H3 (s2.trans s3) d3 p3
    | ct l =>
      rw [hk] at w2
      exact fun σ3 G3 cs3 H3 s3 d3 p3 => w2 _ G3 cs3 H3 (s2.trans s3) d3 p3
    | rt r =>
      rw [hk] at w2
      exact fun v G3 cs3 H3 s3 d3 p3 => w2 v G3 cs3 H3 (s2.trans s3) d3 p3
    | er e => exact fun _ _ _ _ _ _ z => z.elim
end
end J

/-! defs and methods that read the cells they are given and change none: their calls are plain expressions -/
namespace J
open PySem PySem.Spec L2 PyProof.Rows
def SpR {I O : Type} (pre : I → Hp → Cells → List V → Prop) (r : I → O → Hp → V → Prop) (m : I → O) : Sp := fun vs H Q _ => ∃ (i : I) (G : Hp) (mc cs : Cells), Desc G (mc ++ cs) H ∧ pre i G mc vs ∧ ∀ v G2 H2, Same G G2 → Desc G2 (mc ++ cs) H2 → r i (m i) G2 v → Q v H2
def SpRE {n : Nat} {I O : Type} (adr : Fin n → Addr) (pre : I → Hp → Cells → List V → Prop) (r : I → O → Hp → V → Prop) (m : I → Except (Fin n) O) : Sp := fun vs H Q E => ∃ (i : I) (G : Hp) (mc cs : Cells), Desc G (mc ++ cs) H ∧ pre i G mc vs ∧
  (match m i with
    | .ok o => ∀ v G2 H2, Same G G2 → Desc G2 (mc ++ cs) H2 → r i o G2 v → Q v H2
    | .error k => ∀ G2 H2, Same G G2 → Desc G2 (mc ++ cs) H2 → E (.ref (adr k)) none H2)
section
variable {P : Program} {w : World} {K : PySem.W.Frag} {mg : Str → Option Value} {base : Heap}
theorem fn_okR {I O : Type} [Inhabited O] {x q : Str} {st : Stmt} {f : Addr} {fd : FuncData} {N ps : List Str} {k : Nat} {pre : I → Hp → Cells → List V → Prop} {r : I → O → Hp → V → Prop} (F : Fun K x q st f fd) (S : FnScope N ps (defScope st))
    (body : I → Out Empty Unit Empty O) (len : ∀ i G mc vs, pre i G mc vs → vs.length = ps.length)
    (h : ∀ (cdv : Value) (A : Around) (outer : List Env) (s : Shared) (H : Hp) (E : XK) (i : I) (G : Hp) (mc cs : Cells) (vs : List V), Room k (A.deeper (envOfC q (defScope st) s.heap.objs.size f cdv)) → pre i G mc vs →
      B (cxOf CX0 P w K mg base N q (defScope st) f cdv A outer s H E).nox (fun e _ _ => e.elim) (defBody st) (start N vs) G (mc ++ cs) (PoF (mc ++ cs) (r i)) (body i)) :
    FnOk P w K mg base CX0 (k + 1) f fd ps (SpR pre r fun i => (body i).val) := by
  refine F.ok S (fun vs H Q E hs => ?_) (fun cdv A outer s H vs Q E hr hs => ?_)
  · obtain ⟨i, G, mc, cs, _, hp, _⟩ := hs
    exact len i G mc vs hp
  · obtain ⟨i, G, mc, cs, d, hp, q0⟩ := hs
    refine ⟨_, sSs _ (defBody st), h cdv A outer s H E i G mc cs vs hr hp H d _ ?_⟩
    cases hb : body i with
    | nx u =>
      rintro σ2 G2 cs2 H2 s2 d2 ⟨⟨loc, rfl⟩, hr2⟩
      refine q0 _ G2 H2 s2 d2.drop ?_
      dsimp only
      rw [hb]
      exact hr2
    | bk l => exact l.elim
    | ct l => exact l.elim
    | rt o =>
      rintro v G2 cs2 H2 s2 d2 ⟨⟨loc, rfl⟩, hr2⟩
      refine q0 _ G2 H2 s2 d2.drop ?_
      dsimp only
      rw [hb]
      exact hr2
    | er e => exact e.elim
theorem fn_okRE {n : Nat} {I O : Type} [Inhabited O] {adr : Fin n → Addr} {x q : Str} {st : Stmt} {f : Addr} {fd : FuncData} {N ps : List Str} {k : Nat} {pre : I → Hp → Cells → List V → Prop} {r : I → O → Hp → V → Prop} (F : Fun K x q st f fd) (S : FnScope N ps (defScope st))
    (body : I → Out (Fin n) Unit Empty O) (len : ∀ i G mc vs, pre i G mc vs → vs.length = ps.length)
    (h : ∀ (cdv : Value) (A : Around) (outer : List Env) (s : Shared) (H : Hp) (E : XK) (i : I) (G : Hp) (mc cs : Cells) (vs : List V), Room k (A.deeper (envOfC q (defScope st) s.heap.objs.size f cdv)) → pre i G mc vs →
      B (cxOf (L2.CX P w) P w K mg base N q (defScope st) f cdv A outer s H E) (fun e _ H => E (cE adr e) none H) (defBody st) (start N vs) G (mc ++ cs) (PoF (mc ++ cs) (r i)) (body i)) :
    FnOk P w K mg base (L2.CX P w) (k + 1) f fd ps (SpRE adr pre r fun i => (body i).res) := by
  refine F.okX S (fun vs H Q E hs => ?_) (fun cdv A outer s H vs Q E hr hs => ?_)
  · obtain ⟨i, G, mc, cs, _, hp, _⟩ := hs
    exact len i G mc vs hp
  · obtain ⟨i, G, mc, cs, d, hp, q⟩ := hs
    refine ⟨_, sSs _ (defBody st), h cdv A outer s H E i G mc cs vs hr hp H d _ ?_⟩
    cases hb : body i with
    | nx u =>
      dsimp only at q
      rw [hb] at q
      rintro σ2 G2 cs2 H2 s2 d2 ⟨⟨loc, rfl⟩, hr2⟩
      exact q _ G2 H2 s2 d2.drop hr2
    | bk l => exact l.elim
    | ct l => exact l.elim
    | rt o =>
      dsimp only at q
      rw [hb] at q
      rintro v G2 cs2 H2 s2 d2 ⟨⟨loc, rfl⟩, hr2⟩
      exact q _ G2 H2 s2 d2.drop hr2
    | er e =>
      dsimp only at q
      rw [hb] at q
      rintro σ2 G2 cs2 H2 s2 d2 ⟨loc, rfl⟩
      exact q G2 H2 s2 d2.drop
end
section
variable {X : Cx} {σ : L2.St} {G : Hp} {cs : Cells} {o e : Expr} {es : List Expr} {pos p apos : Pos} {P : Hp → V → Prop}
theorem d_callR {I O : Type} {pre : I → Hp → Cells → List V → Prop} {r : I → O → Hp → V → Prop} {m : I → O} {k j n : Nat} {x : Str} {Ps : Hp → List V → Prop} (i : I) (F : Fn0 X.prog X.w X.K X.mg X.base CX0 k x n (SpR pre r m)) (hr : Room j X.A) (hk : k ≤ j)
    (ha : A X (e :: es) σ G cs Ps) (hp : ∀ G1 vs, Same G G1 → Ps G1 vs → ∃ mc rest, cs.Perm (mc ++ rest) ∧ pre i G1 mc vs) (hP : ∀ G v, r i (m i) G v → P G v) (hg : Gl X x := by rfl) (hd : (x == ("__debug__" : Str)) = false := by decide)
    (he : starEach (e :: es) X.env = (false, eval e X.env) :: starEach es X.env := by exact star_plain rfl) (hpl : (backTo pos (starEach es X.env)).any (·.1) = false := by rfl) : D X (.Call (.Name x p) (e :: es) [] pos) σ G cs P := by
  obtain ⟨f, fd, ps, F, hm, kp, b, _⟩ := F.ex
  intro G1 H s d Q q
  refine uE (pe_call F (hr.mono hk) hg hm kp b .nil pass0 (sA X _) (hdb := hd) (he := he) (hpl := hpl)) (ha G1 H s d _ fun G2 H2 vs s2 d2 hvs => ?_)
  obtain ⟨mc, rest, pm, hq⟩ := hp G2 vs (s.trans s2) hvs
  refine ⟨i, G2, mc, rest, d2.perm pm, ?_, fun v G3 H3 s3 d3 hv => q G3 H3 v (s2.trans s3) (d3.perm pm.symm) (hP _ _ ?_)⟩
  · rw [List.append_nil]
    exact hq
  · exact hv
theorem d_methR {I O : Type} {pre : I → Hp → Cells → List V → Prop} {r : I → O → Hp → V → Prop} {mm : I → O} {j l na : Nat} {m : Str} {C a dx : Addr} {fs : List (Str × V)} {pl : Sem Bool} {Ps : Hp → List V → Prop} (i : I) (F : Mt0 X.prog X.w X.K X.mg X.base CX0 j C m na (SpR pre r mm)) (ck : Cls X.K C) (hr : Room l X.A) (hk : j ≤ l)
    (ho : D X o σ G cs (rV (.ref a))) (hc : (a, HO.ins C dx fs) ∈ cs) (hl : fs.lookup m = none)
    (ha : A X (e :: es) σ G cs Ps) (hp : ∀ G1 vs, Same G G1 → Ps G1 vs → ∃ mc rest, cs.Perm (mc ++ rest) ∧ pre i G1 mc (.ref a :: vs)) (hP : ∀ G v, r i (mm i) G v → P G v)
    (hst : starEach (e :: es) X.env = (false, eval e X.env) :: starEach es X.env := by exact star_plain rfl) (hpl : (backTo pos (starEach es X.env)).any (·.1) = false := by rfl)
    (ht : eval (.Call (.Attribute o m apos) (e :: es) [] pos) X.env = (do
      let ov ← eval o X.env
      standAt apos.atName
      let (f, first) ← holding [ov] (getMethod ov m pl)
      callWith pos f first (backTo pos (starEach (e :: es) X.env)) (backToKw pos (keywordEach [] X.env))) := by rfl) : D X (.Call (.Attribute o m apos) (e :: es) [] pos) σ G cs P := by
  obtain ⟨f, fd, ps, F, hm, b, _⟩ := F.ex
  intro G1 H s d Q q
  refine uE (pe_meth (sE X o) ck hm F (hr.mono hk) b .nil pass0 (sA X _) (hst := hst) (hpl := hpl) (ht := ht)) (ho G1 H s d _ fun G2 H2 x s2 d2 hx => ⟨a, dx, fs, hx, d2.at_ hc, hl, ha G2 H2 (s.trans s2) d2 _ fun G3 H3 vs s3 d3 hvs => ?_⟩)
  obtain ⟨mc, rest, pm, hq⟩ := hp G3 vs ((s.trans s2).trans s3) hvs
  have ex : x = .ref a := hx
  subst ex
  refine ⟨i, G3, mc, rest, d3.perm pm, ?_, fun v G4 H4 s4 d4 hv => q G4 H4 v ((s2.trans s3).trans s4) (d4.perm pm.symm) (hP _ _ ?_)⟩
  · rw [List.append_nil]
    exact hq
  · exact hv
theorem d_methR0 {I O : Type} {pre : I → Hp → Cells → List V → Prop} {r : I → O → Hp → V → Prop} {mm : I → O} {j l na : Nat} {m : Str} {C a dx : Addr} {fs : List (Str × V)} {pl : Sem Bool} (i : I) (F : Mt0 X.prog X.w X.K X.mg X.base CX0 j C m na (SpR pre r mm)) (ck : Cls X.K C) (hr : Room l X.A) (hk : j ≤ l)
    (ho : D X o σ G cs (rV (.ref a))) (hc : (a, HO.ins C dx fs) ∈ cs) (hl : fs.lookup m = none)
    (hp : ∀ G1, Same G G1 → ∃ mc rest, cs.Perm (mc ++ rest) ∧ pre i G1 mc [.ref a]) (hP : ∀ G v, r i (mm i) G v → P G v)
    (ht : eval (.Call (.Attribute o m apos) [] [] pos) X.env = (do
      let ov ← eval o X.env
      standAt apos.atName
      let (f, first) ← holding [ov] (getMethod ov m pl)
      callWith pos f first (backTo pos (starEach [] X.env)) (backToKw pos (keywordEach [] X.env))) := by rfl) : D X (.Call (.Attribute o m apos) [] [] pos) σ G cs P := by
  obtain ⟨f, fd, ps, F, hm, b, _⟩ := F.ex
  intro G1 H s d Q q
  refine uE (pe_meth0 (sE X o) ck hm F (hr.mono hk) b .nil pass0 (ht := ht)) (ho G1 H s d _ fun G2 H2 x s2 d2 hx => ⟨a, dx, fs, hx, d2.at_ hc, hl, ?_⟩)
  obtain ⟨mc, rest, pm, hq⟩ := hp G2 (s.trans s2)
  have ex : x = .ref a := hx
  subst ex
  exact ⟨i, G2, mc, rest, d2.perm pm, hq, fun v G4 H4 s4 d4 hv => q G4 H4 v (s2.trans s4) (d4.perm pm.symm) (hP _ _ hv)⟩
section
variable {n : Nat} {adr : Fin n → Addr} {Wx : WX}
/-- as DE, with any place for the errors -/
def DX (X : Cx) (adr : Fin n → Addr) (Ex : Value → Hp → Prop) (e : Expr) (σ : L2.St) (G : Hp) (cs : Cells) {O : Type} (P : O → Hp → V → Prop) (m : Except (Fin n) O) : Prop :=
  ∀ G1 H, Same G G1 → Desc G1 cs H → ∀ Q : VK, (match m with
    | .ok o => ∀ G2 H2 v, Same G1 G2 → Desc G2 cs H2 → P o G2 v → Q v H2
    | .error k => ∀ G2 H2, Same G1 G2 → Desc G2 cs H2 → Ex (.ref (adr k)) H2) → wE X e σ H Q
theorem dx_callR {I O : Type} {pre : I → Hp → Cells → List V → Prop} {r : I → O → Hp → V → Prop} {m : I → Except (Fin n) O} {Q' : O → Hp → V → Prop} {k j na : Nat} {x : Str} {Ps : Hp → List V → Prop} {E : L2.St → XK} (hx : ∀ σ, PassesAt (L2.CX X.prog X.w) X σ (E σ)) (i : I) (F : Fn0 X.prog X.w X.K X.mg X.base (L2.CX X.prog X.w) k x na (SpRE adr pre r m)) (hr : Room j X.A) (hk : k ≤ j)
    (ha : A X (e :: es) σ G cs Ps) (hp : ∀ G1 vs, Same G G1 → Ps G1 vs → ∃ mc rest, cs.Perm (mc ++ rest) ∧ pre i G1 mc vs) (hP : ∀ o G v, r i o G v → Q' o G v) (hg : Gl X x) (hd : (x == ("__debug__" : Str)) = false)
    (he : starEach (e :: es) X.env = (false, eval e X.env) :: starEach es X.env) (hpl : (backTo pos (starEach es X.env)).any (·.1) = false) : DX X adr (fun c H => E σ c none H) (.Call (.Name x p) (e :: es) [] pos) σ G cs Q' (m i) := by
  obtain ⟨f, fd, ps, F, hm, kp, b, _⟩ := F.ex
  intro G1 H s d Q q
  refine uE (pe_callS F (hr.mono hk) hg hm kp b hx (sA X _) (hdb := hd) (he := he) (hpl := hpl)) (ha G1 H s d _ fun G2 H2 vs s2 d2 hvs => ?_)
  obtain ⟨mc, rest, pm, hq⟩ := hp G2 vs (s.trans s2) hvs
  refine ⟨i, G2, mc, rest, d2.perm pm, hq, ?_⟩
  cases hm : m i with
  | ok o =>
    rw [hm] at q
    exact fun v G3 H3 s3 d3 hv => q G3 H3 v (s2.trans s3) (d3.perm pm.symm) (hP _ _ _ hv)
  | error k =>
    rw [hm] at q
    exact fun G3 H3 s3 d3 => q G3 H3 (s2.trans s3) (d3.perm pm.symm)
theorem dx_methR {I O : Type} {pre : I → Hp → Cells → List V → Prop} {r : I → O → Hp → V → Prop} {mm : I → Except (Fin n) O} {Q' : O → Hp → V → Prop} {j l na : Nat} {m : Str} {C a dx : Addr} {fs : List (Str × V)} {pl : Sem Bool} {Ps : Hp → List V → Prop} {E : L2.St → XK} (hx : ∀ σ, PassesAt (L2.CX X.prog X.w) X σ (E σ)) (i : I) (F : Mt0 X.prog X.w X.K X.mg X.base (L2.CX X.prog X.w) j C m na (SpRE adr pre r mm)) (ck : Cls X.K C) (hr : Room l X.A) (hk : j ≤ l)
    (ho : D X o σ G cs (rV (.ref a))) (hc : (a, HO.ins C dx fs) ∈ cs) (hl : fs.lookup m = none)
    (ha : A X (e :: es) σ G cs Ps) (hp : ∀ G1 vs, Same G G1 → Ps G1 vs → ∃ mc rest, cs.Perm (mc ++ rest) ∧ pre i G1 mc (.ref a :: vs)) (hP : ∀ o G v, r i o G v → Q' o G v)
    (hst : starEach (e :: es) X.env = (false, eval e X.env) :: starEach es X.env) (hpl : (backTo pos (starEach es X.env)).any (·.1) = false)
    (ht : eval (.Call (.Attribute o m apos) (e :: es) [] pos) X.env = (do
      let ov ← eval o X.env
      standAt apos.atName
      let (f, first) ← holding [ov] (getMethod ov m pl)
      callWith pos f first (backTo pos (starEach (e :: es) X.env)) (backToKw pos (keywordEach [] X.env)))) : DX X adr (fun c H => E σ c none H) (.Call (.Attribute o m apos) (e :: es) [] pos) σ G cs Q' (mm i) := by
  obtain ⟨f, fd, ps, F, hm, b, _⟩ := F.ex
  intro G1 H s d Q q
  refine uE (pe_methX (sE X o) ck hm F (hr.mono hk) b hx (sA X _) (hst := hst) (hpl := hpl) (ht := ht)) (ho G1 H s d _ fun G2 H2 x s2 d2 hx => ⟨a, dx, fs, hx, d2.at_ hc, hl, ha G2 H2 (s.trans s2) d2 _ fun G3 H3 vs s3 d3 hvs => ?_⟩)
  obtain ⟨mc, rest, pm, hq⟩ := hp G3 vs ((s.trans s2).trans s3) hvs
  have ex : x = .ref a := hx
  subst ex
  refine ⟨i, G3, mc, rest, d3.perm pm, hq, ?_⟩
  cases hm : mm i with
  | ok o =>
    rw [hm] at q
    exact fun v G4 H4 s4 d4 hv => q G4 H4 v ((s2.trans s3).trans s4) (d4.perm pm.symm) (hP _ _ _ hv)
  | error k =>
    rw [hm] at q
    exact fun G4 H4 s4 d4 => q G4 H4 ((s2.trans s3).trans s4) (d4.perm pm.symm)
theorem dx_methR0 {I O : Type} {pre : I → Hp → Cells → List V → Prop} {r : I → O → Hp → V → Prop} {mm : I → Except (Fin n) O} {Q' : O → Hp → V → Prop} {j l na : Nat} {m : Str} {C a dx : Addr} {fs : List (Str × V)} {pl : Sem Bool} {E : L2.St → XK} (hx : ∀ σ, PassesAt (L2.CX X.prog X.w) X σ (E σ)) (i : I) (F : Mt0 X.prog X.w X.K X.mg X.base (L2.CX X.prog X.w) j C m na (SpRE adr pre r mm)) (ck : Cls X.K C) (hr : Room l X.A) (hk : j ≤ l)
    (ho : D X o σ G cs (rV (.ref a))) (hc : (a, HO.ins C dx fs) ∈ cs) (hl : fs.lookup m = none)
    (hp : ∀ G1, Same G G1 → ∃ mc rest, cs.Perm (mc ++ rest) ∧ pre i G1 mc [.ref a]) (hP : ∀ o G v, r i o G v → Q' o G v)
    (ht : eval (.Call (.Attribute o m apos) [] [] pos) X.env = (do
      let ov ← eval o X.env
      standAt apos.atName
      let (f, first) ← holding [ov] (getMethod ov m pl)
      callWith pos f first (backTo pos (starEach [] X.env)) (backToKw pos (keywordEach [] X.env)))) : DX X adr (fun c H => E σ c none H) (.Call (.Attribute o m apos) [] [] pos) σ G cs Q' (mm i) := by
  obtain ⟨f, fd, ps, F, hm, b, _⟩ := F.ex
  intro G1 H s d Q q
  refine uE (pe_methX0 (sE X o) ck hm F (hr.mono hk) b hx (ht := ht)) (ho G1 H s d _ fun G2 H2 x s2 d2 hx => ⟨a, dx, fs, hx, d2.at_ hc, hl, ?_⟩)
  obtain ⟨mc, rest, pm, hq⟩ := hp G2 (s.trans s2)
  have ex : x = .ref a := hx
  subst ex
  refine ⟨i, G2, mc, rest, d2.perm pm, hq, ?_⟩
  cases hm : mm i with
  | ok o =>
    rw [hm] at q
    exact fun v G4 H4 s4 d4 hv => q G4 H4 v (s2.trans s4) (d4.perm pm.symm) (hP _ _ _ hv)
  | error k =>
    rw [hm] at q
    exact fun G4 H4 s4 d4 => q G4 H4 (s2.trans s4) (d4.perm pm.symm)
theorem DX.ok {Ex : Value → Hp → Prop} {O : Type} {Q' : O → Hp → V → Prop} {m : Except (Fin n) O} {oo : O} (h : DX X adr Ex e σ G cs Q' m) (hm : m = .ok oo) : D X e σ G cs (Q' oo) := by
  subst hm
  exact fun G1 H s d Q q => h G1 H s d Q q
/-- a call that may raise -/
theorem de_callR {I O : Type} {pre : I → Hp → Cells → List V → Prop} {r : I → O → Hp → V → Prop} {m : I → Except (Fin n) O} {Q' : O → Hp → V → Prop} {k j na : Nat} {x : Str} {Ps : Hp → List V → Prop} (i : I) (F : Fn0 X.prog X.w X.K X.mg X.base (L2.CX X.prog X.w) k x na (SpRE adr pre r m)) (tk : Takes X Wx) (hr : Room j X.A) (hk : k ≤ j)
    (ha : A X (e :: es) σ G cs Ps) (hp : ∀ G1 vs, Same G G1 → Ps G1 vs → ∃ mc rest, cs.Perm (mc ++ rest) ∧ pre i G1 mc vs) (hP : ∀ o G v, r i o G v → Q' o G v) (hg : Gl X x := by rfl) (hd : (x == ("__debug__" : Str)) = false := by decide)
    (he : starEach (e :: es) X.env = (false, eval e X.env) :: starEach es X.env := by exact star_plain rfl) (hpl : (backTo pos (starEach es X.env)).any (·.1) = false := by rfl) : DE X adr Wx (.Call (.Name x p) (e :: es) [] pos) σ G cs Q' (m i) :=
  dx_callR (fun σ => passAt tk σ) i F hr hk ha hp hP hg hd he hpl
theorem de_methR {I O : Type} {pre : I → Hp → Cells → List V → Prop} {r : I → O → Hp → V → Prop} {mm : I → Except (Fin n) O} {Q' : O → Hp → V → Prop} {j l na : Nat} {m : Str} {C a dx : Addr} {fs : List (Str × V)} {pl : Sem Bool} {Ps : Hp → List V → Prop} (i : I) (F : Mt0 X.prog X.w X.K X.mg X.base (L2.CX X.prog X.w) j C m na (SpRE adr pre r mm)) (ck : Cls X.K C) (tk : Takes X Wx) (hr : Room l X.A) (hk : j ≤ l)
    (ho : D X o σ G cs (rV (.ref a))) (hc : (a, HO.ins C dx fs) ∈ cs) (hl : fs.lookup m = none)
    (ha : A X (e :: es) σ G cs Ps) (hp : ∀ G1 vs, Same G G1 → Ps G1 vs → ∃ mc rest, cs.Perm (mc ++ rest) ∧ pre i G1 mc (.ref a :: vs)) (hP : ∀ o G v, r i o G v → Q' o G v)
    (hst : starEach (e :: es) X.env = (false, eval e X.env) :: starEach es X.env := by exact star_plain rfl) (hpl : (backTo pos (starEach es X.env)).any (·.1) = false := by rfl)
    (ht : eval (.Call (.Attribute o m apos) (e :: es) [] pos) X.env = (do
      let ov ← eval o X.env
      standAt apos.atName
      let (f, first) ← holding [ov] (getMethod ov m pl)
      callWith pos f first (backTo pos (starEach (e :: es) X.env)) (backToKw pos (keywordEach [] X.env))) := by rfl) : DE X adr Wx (.Call (.Attribute o m apos) (e :: es) [] pos) σ G cs Q' (mm i) :=
  dx_methR (fun σ => passAt tk σ) i F ck hr hk ho hc hl ha hp hP hst hpl ht
theorem de_methR0 {I O : Type} {pre : I → Hp → Cells → List V → Prop} {r : I → O → Hp → V → Prop} {mm : I → Except (Fin n) O} {Q' : O → Hp → V → Prop} {j l na : Nat} {m : Str} {C a dx : Addr} {fs : List (Str × V)} {pl : Sem Bool} (i : I) (F : Mt0 X.prog X.w X.K X.mg X.base (L2.CX X.prog X.w) j C m na (SpRE adr pre r mm)) (ck : Cls X.K C) (tk : Takes X Wx) (hr : Room l X.A) (hk : j ≤ l)
    (ho : D X o σ G cs (rV (.ref a))) (hc : (a, HO.ins C dx fs) ∈ cs) (hl : fs.lookup m = none)
    (hp : ∀ G1, Same G G1 → ∃ mc rest, cs.Perm (mc ++ rest) ∧ pre i G1 mc [.ref a]) (hP : ∀ o G v, r i o G v → Q' o G v)
    (ht : eval (.Call (.Attribute o m apos) [] [] pos) X.env = (do
      let ov ← eval o X.env
      standAt apos.atName
      let (f, first) ← holding [ov] (getMethod ov m pl)
      callWith pos f first (backTo pos (starEach [] X.env)) (backToKw pos (keywordEach [] X.env))) := by rfl) : DE X adr Wx (.Call (.Attribute o m apos) [] [] pos) σ G cs Q' (mm i) :=
  dx_methR0 (fun σ => passAt tk σ) i F ck hr hk ho hc hl hp hP ht
/-- .. and does not here -/
theorem d_callRS {I O : Type} {pre : I → Hp → Cells → List V → Prop} {r : I → O → Hp → V → Prop} {m : I → Except (Fin n) O} {k j na : Nat} {x : Str} {Ps : Hp → List V → Prop} {oo : O} (i : I) (F : Fn0 X.prog X.w X.K X.mg X.base (L2.CX X.prog X.w) k x na (SpRE adr pre r m)) (hok : m i = .ok oo) (hr : Room j X.A) (hk : k ≤ j)
    (ha : A X (e :: es) σ G cs Ps) (hp : ∀ G1 vs, Same G G1 → Ps G1 vs → ∃ mc rest, cs.Perm (mc ++ rest) ∧ pre i G1 mc vs) (hP : ∀ G v, r i oo G v → P G v) (hg : Gl X x := by rfl) (hd : (x == ("__debug__" : Str)) = false := by decide)
    (he : starEach (e :: es) X.env = (false, eval e X.env) :: starEach es X.env := by exact star_plain rfl) (hpl : (backTo pos (starEach es X.env)).any (·.1) = false := by rfl) : D X (.Call (.Name x p) (e :: es) [] pos) σ G cs P :=
  ((dx_callR (E := fun _ _ _ _ => False) (fun σ pins H s u s' I c => by obtain ⟨_, _, _, _, _, _, _, _, _, _, _, _, z⟩ := c; exact z.elim) i F hr hk ha hp (fun _ _ _ h => h) hg hd he hpl).ok hok).imp hP
theorem d_methRS {I O : Type} {pre : I → Hp → Cells → List V → Prop} {r : I → O → Hp → V → Prop} {mm : I → Except (Fin n) O} {j l na : Nat} {m : Str} {C a dx : Addr} {fs : List (Str × V)} {pl : Sem Bool} {Ps : Hp → List V → Prop} {oo : O} (i : I) (F : Mt0 X.prog X.w X.K X.mg X.base (L2.CX X.prog X.w) j C m na (SpRE adr pre r mm)) (ck : Cls X.K C) (hok : mm i = .ok oo) (hr : Room l X.A) (hk : j ≤ l)
    (ho : D X o σ G cs (rV (.ref a))) (hc : (a, HO.ins C dx fs) ∈ cs) (hl : fs.lookup m = none)
    (ha : A X (e :: es) σ G cs Ps) (hp : ∀ G1 vs, Same G G1 → Ps G1 vs → ∃ mc rest, cs.Perm (mc ++ rest) ∧ pre i G1 mc (.ref a :: vs)) (hP : ∀ G v, r i oo G v → P G v)
    (hst : starEach (e :: es) X.env = (false, eval e X.env) :: starEach es X.env := by exact star_plain rfl) (hpl : (backTo pos (starEach es X.env)).any (·.1) = false := by rfl)
    (ht : eval (.Call (.Attribute o m apos) (e :: es) [] pos) X.env = (do
      let ov ← eval o X.env
      standAt apos.atName
      let (f, first) ← holding [ov] (getMethod ov m pl)
      callWith pos f first (backTo pos (starEach (e :: es) X.env)) (backToKw pos (keywordEach [] X.env))) := by rfl) : D X (.Call (.Attribute o m apos) (e :: es) [] pos) σ G cs P :=
  ((dx_methR (E := fun _ _ _ _ => False) (fun σ pins H s u s' I c => by obtain ⟨_, _, _, _, _, _, _, _, _, _, _, _, z⟩ := c; exact z.elim) i F ck hr hk ho hc hl ha hp (fun _ _ _ h => h) hst hpl ht).ok hok).imp hP
theorem d_methRS0 {I O : Type} {pre : I → Hp → Cells → List V → Prop} {r : I → O → Hp → V → Prop} {mm : I → Except (Fin n) O} {j l na : Nat} {m : Str} {C a dx : Addr} {fs : List (Str × V)} {pl : Sem Bool} {oo : O} (i : I) (F : Mt0 X.prog X.w X.K X.mg X.base (L2.CX X.prog X.w) j C m na (SpRE adr pre r mm)) (ck : Cls X.K C) (hok : mm i = .ok oo) (hr : Room l X.A) (hk : j ≤ l)
    (ho : D X o σ G cs (rV (.ref a))) (hc : (a, HO.ins C dx fs) ∈ cs) (hl : fs.lookup m = none)
    (hp : ∀ G1, Same G G1 → ∃ mc rest, cs.Perm (mc ++ rest) ∧ pre i G1 mc [.ref a]) (hP : ∀ G v, r i oo G v → P G v)
    (ht : eval (.Call (.Attribute o m apos) [] [] pos) X.env = (do
      let ov ← eval o X.env
      standAt apos.atName
      let (f, first) ← holding [ov] (getMethod ov m pl)
      callWith pos f first (backTo pos (starEach [] X.env)) (backToKw pos (keywordEach [] X.env))) := by rfl) : D X (.Call (.Attribute o m apos) [] [] pos) σ G cs P :=
  ((dx_methR0 (E := fun _ _ _ _ => False) (fun σ pins H s u s' I c => by obtain ⟨_, _, _, _, _, _, _, _, _, _, _, _, z⟩ := c; exact z.elim) i F ck hr hk ho hc hl hp (fun _ _ _ h => h) ht).ok hok).imp hP
end
end
section
variable {ε S L R : Type} {X : Cx} {W : ε → L2.St → Hp → Prop} {σ : L2.St} {G : Hp} {cs cs' : Cells} {Φ : Po ε S L R} {m : Out ε S L R} {rest : List Stmt} {o e : Expr} {f : Str} {pos tpos : Pos}
/-- o.f += e, the value by its name -/
theorem b_fldAddV {a C dx : Addr} {nf : List Str} {vs : List V} {z y w : Int} (k i : Nat) (ck : ClsK X.K C nf) (hk : cs[k]? = some (a, HO.ins C dx (nf.zip vs))) (he : D X e σ G cs (rI y)) (ho : D X o σ G cs (rV (.ref a))) (hw : w = z + y)
    (q : ∀ G1, Same G G1 → B X W rest σ G1 (cs.set k (a, HO.ins C dx (nf.zip (vs.set i (.int w))))) Φ m) (hv : vs[i]? = some (.int z) := by rfl) (hi : nf[i]? = some f := by rfl) : B X W (.AugAssign (.Attribute o f tpos) .Add e pos :: rest) σ G cs Φ m := by
  subst hw
  exact b_fldAdd k i ck hk he ho q hv hi
/-- what is not wanted any more -/
theorem b_drop {ss : List Stmt} (loc : Cells) (h : B X W ss σ G cs Φ m) : B X W ss σ G (loc ++ cs) Φ m := fun H d E w => h H d.drop E w
end
end J

/-! comprehensions over range(effect) -/
namespace J
open PySem PySem.Spec L2 PyProof.Rows
section
variable {X : Cx} {σ : L2.St} {G : Hp} {cs : Cells} {elt tg iter : Expr} {pos : Pos} {scope : Scope} {own : List (Str × Nat)} {α β S : Type} {xs : List α} {Pi : α → Hp → V → Prop} {r : β → Hp → V → Prop} {f : S → α → β × S} {s0 : S}
theorem ec_lcI {Sx : α → Hp → L2.St → L2.St → Prop} {C : Cells → Prop} {k : V → Hp → Cells → Prop} (Nc : S → Hp → Cells → Prop) (hcalm : X.calm = true) (hN : X.N.Nodup) (ok : BlkOk X.N X.env.scope scope own) (hi : IC X tg iter σ G cs C xs Pi fun G1 cs1 => Nc s0 G1 cs1) (ht : TgB X scope tg Pi Sx)
    (hC : ∀ s G1 cs1 l us, Nc s G1 cs1 → C ((l, .lst us) :: cs1)) (hwipe : ∀ x G1 σ', Sx x G1 (wipe σ (own.map (·.2))) σ' → wipe σ' (own.map (·.2)) = wipe σ (own.map (·.2))) [∀ y, Mono (r y)]
    (he : ∀ pre x post, xs = pre ++ x :: post → ∀ s, s = (mapS f s0 pre).2 → ∀ G0 G1 cs1 σ' c, Same G G0 → Nc s G0 cs1 → Same G0 G1 → Sx x G1 (wipe σ (own.map (·.2))) σ' → ∀ s' H0 C cl fp, EC (X.blk s' H0 scope (compEnvC scope cl C X.env) fp) elt σ' G1 (c :: cs1) fun v G2 cs2 => ∃ cs3, cs2.Perm (c :: cs3) ∧ r (f s x).1 G2 v ∧ Nc (f s x).2 G2 cs3)
    (hsz : xs.length ≤ 16777215) (hk : ∀ l us G1 cs1, Same G G1 → Rs r G1 (mapS f s0 xs).1 us → Nc (mapS f s0 xs).2 G1 cs1 → k (.ref l) G1 ((l, .lst us) :: cs1))
    (hs : ∀ x, foldedSetIterable iter X.env x = pure x := by intro _; rfl) : EC X (.ListComp elt [⟨tg, iter, [], 0⟩] scope pos) σ G cs k := by
  obtain ⟨wi, hpi, hw⟩ := hi
  obtain ⟨g, hpg, hgt⟩ := ht
  intro G1 H s d Q q
  refine uE (pe_lc (te := teB X scope elt) hcalm hN hpi ok hpg (fun _ _ _ _ _ => pts_nil) (fun s H0 C cl fp => ⟨fun pins s1 σ H Q I h => (h s H0 C cl fp).run pins s1 I⟩) hs) ?_
  refine hw G1 H s d _ fun J G2 H2 cs2 s2 d2 wk hn0 => fun l hl => ?_
  let Pv : Nat → Hp → Prop := fun i H1 => ∃ G3 us cs3, i ≤ xs.length ∧ Same G2 G3 ∧ Desc G3 ((l, .lst us) :: cs3) H1 ∧ Rs r G3 (mapS f s0 (xs.take i)).1 us ∧ Nc (mapS f s0 (xs.take i)).2 G3 cs3
  refine ⟨fun i n H1 => n = xs.length - i ∧ Pv i H1, ⟨xs.length, rfl, G2, [], cs2, Nat.zero_le _, Same.refl _, d2.newCell hl _, .nil, hn0⟩, ?_⟩
  rintro i n H1 ⟨rfl, G3, us, cs3, hi, s3, d3, hr, hn⟩
  by_cases hlt : i < xs.length
  · refine .inr ⟨wk.goes i G3 H1 _ hlt s3 (hC _ _ _ _ _ hn) d3, Pv (i + 1), fun H' p' => ⟨_, by omega, rfl, p'⟩, fun v H3 y => ?_⟩
    have hx : xs[i]? = some xs[i] := by simp [hlt]
    have hm : xs[i] ∈ xs := List.getElem_mem hlt
    obtain ⟨G4, s4, d4, pv⟩ := wk.yields i xs[i] G3 H1 _ v H3 hx s3 (hC _ _ _ _ _ hn) d3 y
    have et : xs.take (i + 1) = xs.take i ++ [xs[i]] := by simp
    refine hgt xs[i] v G4 _ H3 _ pv d4 _ fun σ' hS => ⟨hwipe _ _ _ hS, ?_⟩
    have ed : xs = xs.take i ++ xs[i] :: xs.drop (i + 1) := by
      rw [← List.drop_eq_getElem_cons hlt, List.take_append_drop]
    refine iteT (B := Pv (i + 1) H3) fun s5 H0 C5 cl fp => he (xs.take i) xs[i] (xs.drop (i + 1)) ed _ rfl G3 G4 cs3 σ' (l, .lst us) ((s.trans s2).trans s3) hn s4 hS s5 H0 C5 cl fp G4 H3 (Same.refl _) d4 _ fun G5 H5 cs5 w s5 d5 ⟨cs6, pm, hw, hn5⟩ => ?_
    have d6 := d5.perm pm
    refine ⟨us, d6.at_ List.mem_cons_self, ?_, G5, us ++ [w], cs6, hlt, (s3.trans s4).trans s5, d6.write (k := 0) rfl _, ?_, ?_⟩
    · rw [← hr.length, mapS_length, List.length_take, sizeLine_eq]
      omega
    · rw [et, mapS_snoc]
      exact Rs.snoc hw (hr.mono (s4.trans s5))
    · rw [et, mapS_snoc]
      exact hn5
  · have e : i = xs.length := by omega
    subst e
    rw [List.take_length] at hr hn
    exact .inl ⟨wk.stops G3 H1 _ s3 (hC _ _ _ _ _ hn) d3, q G3 H1 _ _ (s2.trans s3) d3 (hk l us G3 cs3 ((s.trans s2).trans s3) hr hn)⟩
end
section
variable {ε S' L R' : Type} {X : Cx} {W : ε → L2.St → Hp → Prop} {Φ : Po ε S' L R'} {m : Out ε S' L R'} {rest : List Stmt} {σ : L2.St} {G : Hp} {cs : Cells} {elt tg iter : Expr} {pos spos : Pos} {scope : Scope} {own : List (Str × Nat)} {α β S : Type} {xs : List α} {Pi : α → Hp → V → Prop} {r : β → Hp → V → Prop} {f : S → α → β × S} {s0 : S}
theorem b_setLcI (i : Nat) {y : Str} {py : Pos} {Sx : α → Hp → L2.St → L2.St → Prop} {C : Cells → Prop} (hcalm : X.calm = true) (hN : X.N.Nodup) (hyl : X.env.scope.names.lookup y = some .local) (hsw : swapsWith (.ListComp elt [⟨tg, iter, [], 0⟩] scope pos) (some (.Name y py)) spos.line X.env = pure true) (Nc : S → Hp → Cells → Prop) (ok : BlkOk X.N X.env.scope scope own) (hi : IC X tg iter σ G cs C xs Pi fun G1 cs1 => Nc s0 G1 cs1) (ht : TgB X scope tg Pi Sx)
    (hC : ∀ s G1 cs1 l us, Nc s G1 cs1 → C ((l, .lst us) :: cs1)) (hwipe : ∀ x G1 σ', Sx x G1 (wipe σ (own.map (·.2))) σ' → wipe σ' (own.map (·.2)) = wipe σ (own.map (·.2))) [∀ y, Mono (r y)]
    (he : ∀ pre x post, xs = pre ++ x :: post → ∀ s, s = (mapS f s0 pre).2 → ∀ G0 G1 cs1 σ' c, Same G G0 → Nc s G0 cs1 → Same G0 G1 → Sx x G1 (wipe σ (own.map (·.2))) σ' → ∀ s' H0 C cl fp, EC (X.blk s' H0 scope (compEnvC scope cl C X.env) fp) elt σ' G1 (c :: cs1) fun v G2 cs2 => ∃ cs3, cs2.Perm (c :: cs3) ∧ r (f s x).1 G2 v ∧ Nc (f s x).2 G2 cs3)
    (hsz : xs.length ≤ 16777215) (hk : ∀ l us G1 cs1, Same G G1 → Rs r G1 (mapS f s0 xs).1 us → Nc (mapS f s0 xs).2 G1 cs1 → B X W rest (σ.set i (some (.ref l))) G1 ((l, .lst us) :: cs1) Φ m) (hy : X.N[i]? = some y := by rfl)
    (hs : ∀ x, foldedSetIterable iter X.env x = pure x := by intro _; rfl) : B X W (.Assign [.Name y py] (.ListComp elt [⟨tg, iter, [], 0⟩] scope pos) spos :: rest) σ G cs Φ m := by
  obtain ⟨wi, hpi, hw⟩ := hi
  obtain ⟨g, hpg, hgt⟩ := ht
  refine b_cons (ps_setLc (te := teB X scope elt) hcalm hN hy hyl hsw hpi ok hpg (fun _ _ _ _ _ => pts_nil) (fun s H0 C cl fp => ⟨fun pins s1 σ H Q I h => (h s H0 C cl fp).run pins s1 I⟩) hs) fun H d E w => ?_
  have s : Same G G := Same.refl _
  refine hw G H s d _ fun J G2 H2 cs2 s2 d2 wk hn0 => fun l hl => ?_
  let Pv : Nat → Hp → Prop := fun i H1 => ∃ G3 us cs3, i ≤ xs.length ∧ Same G2 G3 ∧ Desc G3 ((l, .lst us) :: cs3) H1 ∧ Rs r G3 (mapS f s0 (xs.take i)).1 us ∧ Nc (mapS f s0 (xs.take i)).2 G3 cs3
  refine ⟨fun i n H1 => n = xs.length - i ∧ Pv i H1, ⟨xs.length, rfl, G2, [], cs2, Nat.zero_le _, Same.refl _, d2.newCell hl _, .nil, hn0⟩, ?_⟩
  rintro i n H1 ⟨rfl, G3, us, cs3, hi, s3, d3, hr, hn⟩
  by_cases hlt : i < xs.length
  · refine .inr ⟨wk.goes i G3 H1 _ hlt s3 (hC _ _ _ _ _ hn) d3, Pv (i + 1), fun H' p' => ⟨_, by omega, rfl, p'⟩, fun v H3 y => ?_⟩
    have hx : xs[i]? = some xs[i] := by simp [hlt]
    have hm : xs[i] ∈ xs := List.getElem_mem hlt
    obtain ⟨G4, s4, d4, pv⟩ := wk.yields i xs[i] G3 H1 _ v H3 hx s3 (hC _ _ _ _ _ hn) d3 y
    have et : xs.take (i + 1) = xs.take i ++ [xs[i]] := by simp
    refine hgt xs[i] v G4 _ H3 _ pv d4 _ fun σ' hS => ⟨hwipe _ _ _ hS, ?_⟩
    have ed : xs = xs.take i ++ xs[i] :: xs.drop (i + 1) := by
      rw [← List.drop_eq_getElem_cons hlt, List.take_append_drop]
    refine iteT (B := Pv (i + 1) H3) fun s5 H0 C5 cl fp => he (xs.take i) xs[i] (xs.drop (i + 1)) ed _ rfl G3 G4 cs3 σ' (l, .lst us) ((s.trans s2).trans s3) hn s4 hS s5 H0 C5 cl fp G4 H3 (Same.refl _) d4 _ fun G5 H5 cs5 w s5 d5 ⟨cs6, pm, hw, hn5⟩ => ?_
    have d6 := d5.perm pm
    refine ⟨us, d6.at_ List.mem_cons_self, ?_, G5, us ++ [w], cs6, hlt, (s3.trans s4).trans s5, d6.write (k := 0) rfl _, ?_, ?_⟩
    · rw [← hr.length, mapS_length, List.length_take, sizeLine_eq]
      omega
    · rw [et, mapS_snoc]
      exact Rs.snoc hw (hr.mono (s4.trans s5))
    · rw [et, mapS_snoc]
      exact hn5
  · have e : i = xs.length := by omega
    subst e
    rw [List.take_length] at hr hn
    exact .inl ⟨wk.stops G3 H1 _ s3 (hC _ _ _ _ _ hn) d3, hk l us G3 cs3 ((s.trans s2).trans s3) hr hn H1 d3 E (w.up ((s.trans s2).trans s3))⟩
end
section
variable {X : Cx} {σ : L2.St} {G : Hp} {cs : Cells} {a : Expr} {pos p : Pos}
/-- isinstance of what may be None -/
theorem d_isiO {α : Type} {r : α → Hp → V → Prop} {x : Option α} {t u : String} {y : Str} {py : Pos} [h : HasTy X.K r t] [∀ x, Mono (r x)] (hm : X.mg "isinstance" = none) (hmy : X.mg y = none) (ha : D X a σ G cs (rO r x)) (hk : kitB t u = some true := by decide +kernel) (hk0 : kitB "NoneType" u = some false := by decide +kernel)
    (hy : bootBuiltins y = some (.type u) := by decide +kernel) (hg : Gl X "isinstance" := by rfl) (hgy : Gl X y := by rfl) (hny : y ≠ "__name__" := by decide) (hdy : (y == ("__debug__" : Str)) = false := by decide)
    (hst : starEach [a, .Name y py] X.env = (false, eval a X.env) :: starEach [.Name y py] X.env := by rfl) (hst2 : starEach [.Name y py] X.env = (false, eval (.Name y py) X.env) :: starEach [] X.env := by rfl)
    (hpl : (backTo pos (starEach [.Name y py] X.env)).any (·.1) = false := by rfl) : D X (.Call (.Name "isinstance" p) [a, .Name y py] [] pos) σ G cs (rB x.isSome) := by
  refine d_callB (Ps := aC (rO r x) (aC (rV (.ty u)) aN)) call_isi hm (a_cons ha (a_cons (P := rV (.ty u)) ?_ a_nil hst2) hst) (fun G1 H vs s d h1 Q q => ?_) hg (he := hst) (hpl := hpl)
  · exact d_by (pe_bltn hgy hmy hy (v := .ty u) rfl hny hdy) fun G1 H s d Q q => q G1 H _ (Same.refl _) d rfl
  · obtain ⟨v, w, rfl, hv, v2, w2, rfl, hv2, hw⟩ := h1
    cases (show w2 = [] from hw)
    cases (show v2 = V.ty u from hv2)
    cases x with
    | none =>
      cases (show v = V.non from hv)
      exact ⟨_, _, _, _, false, rfl, .ty u, .base .non, kit_ty hk0, q G1 H _ (Same.refl _) d rfl⟩
    | some x => exact ⟨_, _, _, _, true, rfl, .ty u, h.ty (show r x G1 v from hv) d, kit_ty hk, q G1 H _ (Same.refl _) d rfl⟩
end
theorem forL_invN {ε S L R α : Type} {f : S → α → Out ε S S R} (N : Nat) (P : Nat → S → Prop) : ∀ {xs : List α} {s : S} {n : Nat}, n + xs.length ≤ N → P n s → (∀ n s x, x ∈ xs → n < N → P n s → ∃ s', f s x = .nx s' ∧ P (n + 1) s') → ∃ s', (forL f s xs : Out ε S L R) = .nx s' ∧ P (n + xs.length) s'
  | [], s, n, _, h, _ => ⟨s, rfl, h⟩
  | x :: xs, s, n, hl, h, st => by
    rw [List.length_cons] at hl
    obtain ⟨s1, e1, h1⟩ := st n s x List.mem_cons_self (by omega) h
    obtain ⟨s2, e2, h2⟩ := forL_invN (L := L) N P (xs := xs) (by omega) h1 fun n s y hy => st n s y (List.mem_cons_of_mem _ hy)
    refine ⟨s2, ?_, ?_⟩
    · rw [forL_cons, e1]
      exact e2
    · rw [List.length_cons, show n + (xs.length + 1) = n + 1 + xs.length by omega]
      exact h2
/-! ### list * int, of a list that is a cell -/
section
variable {X : Cx} {σ : L2.St} {G : Hp} {cs : Cells} {a b : Expr} {pos : Pos} {α : Type} {r : α → Hp → V → Prop} {xs : List α} {us : List V} {l : Addr} {n : Int}
theorem rc_rep {k : V → Hp → Cells → Prop} [∀ x, Mono (r x)] (hm : (l, HO.lst us) ∈ cs) (hr : Rs r G xs us) (h1 : -(2 ^ 31) < n ∧ n < 2 ^ 31) (h3 : xs.length * n.toNat ≤ 16777216) (K : PySem.W.Frag) (c : ∀ v G1, Same G G1 → rL K r (List.replicate n.toNat xs).flatten G1 v → k v G1 cs) : RC rRep (.ref l) (.int n) G cs k := fun G1 H s d Q q => by
  refine ⟨l, n, us, rfl, rfl, d.at_ hm, by omega, by omega, by rw [← hr.length]; exact sl_small h3, fun p hp => ?_⟩
  have sf : Same G1 (upd G1 p (.lst (List.replicate n.toNat us).flatten)) := Same.fresh d.same hp _
  exact q _ _ cs _ sf (d.new hp _) (c _ _ (s.trans sf) ⟨p, _, rfl, SqL.of upd_same, rs_rep (hr.mono (s.trans sf)) _⟩)
theorem n_repC [∀ x, Mono (r x)] (ha : D X a σ G cs (rV (.ref l))) (hm : (l, HO.lst us) ∈ cs) (hr : Rs r G xs us) (hb : D X b σ G cs (rI n)) (h1 : -(2 ^ 31) < n ∧ n < 2 ^ 31) (h3 : xs.length * n.toNat ≤ 16777216) : N X (.BinOp a .Mult b pos) σ G cs r (List.replicate n.toNat xs).flatten := fun G1 H s d Q q =>
  uE (pe_op op_rep (sE X a) (sE X b)) (ha G1 H s d _ fun G2 H2 x s2 d2 hx => hb G2 H2 (s.trans s2) d2 _ fun G3 H3 v s3 d3 hv => by
    refine ⟨l, n, us, hx, hv, d3.at_ hm, by omega, by omega, by rw [← hr.length]; exact sl_small h3, fun p hp => ?_⟩
    exact q G3 _ p _ (s2.trans s3) (d3.newCell hp _) (rs_rep (hr.mono (s.trans (s2.trans s3))) _))
end
/-! ### and/or as a value; calls of defs that only read cells, behind arguments with effects; appending to what a call has just made -/
section
variable {X : Cx} {σ : L2.St} {G : Hp} {cs : Cells} {o a b e : Expr} {es : List Expr} {pos p apos : Pos} {k : V → Hp → Cells → Prop}
theorem ec_kd {k' : V → Hp → Cells → Prop} (h : EC X e σ G cs k') (c : ∀ v G1 cs1, Same G G1 → k' v G1 cs1 → ∃ loc cs2, cs1.Perm (loc ++ cs2) ∧ k v G1 cs2) : EC X e σ G cs k := fun G1 H s d Q q => h G1 H s d Q fun G2 H2 cs2 v s2 d2 hk => by
  obtain ⟨loc, cs3, pm, h3⟩ := c v G2 cs2 (s.trans s2) hk
  exact q G2 H2 cs3 v s2 (d2.perm pm).drop h3
theorem ec_one {op : BoolOp} (h : EC X a σ G cs k) : EC X (.BoolOp op [a] pos) σ G cs k := fun G1 H s d Q q => uE (pe_one (sE X a)) (h G1 H s d Q q)
theorem ec_and {rest : List Expr} (h : EC X a σ G cs fun v G1 cs1 => ∃ z, v = .bl z ∧ (z = true → EC X (.BoolOp .And (b :: rest) pos) σ G1 cs1 k) ∧ (z = false → k (.bl false) G1 cs1)) : EC X (.BoolOp .And (a :: b :: rest) pos) σ G cs k := fun G1 H s d Q q =>
  uE (pe_and (sE X a) (sE X _)) (h G1 H s d _ fun G2 H2 cs2 v s2 d2 ⟨z, e1, ht, hf⟩ => ⟨z, e1, by
    subst e1
    cases z with
    | false => exact iteF (q G2 H2 cs2 _ s2 d2 (hf rfl))
    | true => exact iteT (ht rfl G2 H2 (Same.refl _) d2 Q fun G3 H3 cs3 w s3 d3 hw => q G3 H3 cs3 w (s2.trans s3) d3 hw)⟩)
theorem ec_or {rest : List Expr} (h : EC X a σ G cs fun v G1 cs1 => ∃ z, v = .bl z ∧ (z = false → EC X (.BoolOp .Or (b :: rest) pos) σ G1 cs1 k) ∧ (z = true → k (.bl true) G1 cs1)) : EC X (.BoolOp .Or (a :: b :: rest) pos) σ G cs k := fun G1 H s d Q q =>
  uE (pe_or (sE X a) (sE X _)) (h G1 H s d _ fun G2 H2 cs2 v s2 d2 ⟨z, e1, ht, hf⟩ => ⟨z, e1, by
    subst e1
    cases z with
    | true => exact iteT (q G2 H2 cs2 _ s2 d2 (hf rfl))
    | false => exact iteF (ht rfl G2 H2 (Same.refl _) d2 Q fun G3 H3 cs3 w s3 d3 hw => q G3 H3 cs3 w (s2.trans s3) d3 hw)⟩)
theorem ec_callR {I O : Type} {pre : I → Hp → Cells → List V → Prop} {r : I → O → Hp → V → Prop} {m : I → O} {kk j n : Nat} {x : Str} (F : Fn0 X.prog X.w X.K X.mg X.base CX0 kk x n (SpR pre r m)) (hr : Room j X.A) (hk : kk ≤ j)
    (ha : AC X (e :: es) σ G cs fun vs G1 cs1 => ∃ i mc rest, cs1.Perm (mc ++ rest) ∧ pre i G1 mc vs ∧ ∀ v G2, Same G1 G2 → r i (m i) G2 v → k v G2 cs1) (hg : Gl X x := by rfl) (hd : (x == ("__debug__" : Str)) = false := by decide)
    (he : starEach (e :: es) X.env = (false, eval e X.env) :: starEach es X.env := by exact star_plain rfl) (hpl : (backTo pos (starEach es X.env)).any (·.1) = false := by rfl) : EC X (.Call (.Name x p) (e :: es) [] pos) σ G cs k := by
  obtain ⟨f, fd, ps, F, hm, kp, b, _⟩ := F.ex
  intro G1 H s d Q q
  refine uE (pe_call F (hr.mono hk) hg hm kp b .nil pass0 (sA X _) (hdb := hd) (he := he) (hpl := hpl)) (ha G1 H s d _ fun G2 H2 cs2 vs s2 d2 hvs => ?_)
  obtain ⟨i, mc, rest, pm, hq, hz⟩ := hvs
  refine ⟨i, G2, mc, rest, d2.perm pm, ?_, fun v G3 H3 s3 d3 hv => q G3 H3 cs2 v (s2.trans s3) (d3.perm pm.symm) (hz v G3 s3 ?_)⟩
  · rw [List.append_nil]
    exact hq
  · exact hv
theorem ec_methR {I O : Type} {pre : I → Hp → Cells → List V → Prop} {r : I → O → Hp → V → Prop} {mm : I → O} {j l na : Nat} {m : Str} {C a dx : Addr} {fs : List (Str × V)} {pl : Sem Bool} (F : Mt0 X.prog X.w X.K X.mg X.base CX0 j C m na (SpR pre r mm)) (ck : Cls X.K C) (hr : Room l X.A) (hk : j ≤ l)
    (ho : D X o σ G cs (rV (.ref a))) (hc : (a, HO.ins C dx fs) ∈ cs) (hl : fs.lookup m = none)
    (ha : AC X (e :: es) σ G cs fun vs G1 cs1 => ∃ i mc rest, cs1.Perm (mc ++ rest) ∧ pre i G1 mc (.ref a :: vs) ∧ ∀ v G2, Same G1 G2 → r i (mm i) G2 v → k v G2 cs1)
    (hst : starEach (e :: es) X.env = (false, eval e X.env) :: starEach es X.env := by exact star_plain rfl) (hpl : (backTo pos (starEach es X.env)).any (·.1) = false := by rfl)
    (ht : eval (.Call (.Attribute o m apos) (e :: es) [] pos) X.env = (do
      let ov ← eval o X.env
      standAt apos.atName
      let (f, first) ← holding [ov] (getMethod ov m pl)
      callWith pos f first (backTo pos (starEach (e :: es) X.env)) (backToKw pos (keywordEach [] X.env))) := by rfl) : EC X (.Call (.Attribute o m apos) (e :: es) [] pos) σ G cs k := by
  obtain ⟨f, fd, ps, F, hm, b, _⟩ := F.ex
  intro G1 H s d Q q
  refine uE (pe_meth (sE X o) ck hm F (hr.mono hk) b .nil pass0 (sA X _) (hst := hst) (hpl := hpl) (ht := ht)) (ho G1 H s d _ fun G2 H2 x s2 d2 hx => ⟨a, dx, fs, hx, d2.at_ hc, hl, ha G2 H2 (s.trans s2) d2 _ fun G3 H3 cs3 vs s3 d3 hvs => ?_⟩)
  obtain ⟨i, mc, rest, pm, hq, hz⟩ := hvs
  have ex : x = .ref a := hx
  subst ex
  refine ⟨i, G3, mc, rest, d3.perm pm, ?_, fun v G4 H4 s4 d4 hv => q G4 H4 cs3 v ((s2.trans s3).trans s4) (d4.perm pm.symm) (hz v G4 s4 ?_)⟩
  · rw [List.append_nil]
    exact hq
  · exact hv
end
section
variable {ε S L R : Type} {X : Cx} {W : ε → L2.St → Hp → Prop} {σ : L2.St} {G : Hp} {cs : Cells} {Φ : Po ε S L R} {m : Out ε S L R} {rest : List Stmt} {o e : Expr} {pos : Pos}
/-- f(..).append(e) -/
theorem b_appE {apos cpos : Pos} (ho : EC X o σ G cs fun v G1 cs1 => ∃ l us, v = .ref l ∧ (l, HO.lst us) ∈ cs1 ∧ EC X e σ G1 cs1 fun w G2 cs2 => ∃ k vs, cs2[k]? = some (l, .lst vs) ∧ vs.length < sizeLine ∧ (Same G G2 → B X W rest σ G2 (cs2.set k (l, .lst (vs ++ [w]))) Φ m))
    (hs : swapsWith (.Call (.Attribute o "append" apos) [e] [] cpos) none pos.line X.env = pure false := by rfl)
    (hbase : attributeBase o "append" X.env (eval o X.env) = eval o X.env := by rfl)
    (hfew : ((backTo cpos (starEach [e] X.env)).all (fun x => !x.1) && (backToKw cpos (keywordEach [] X.env)).all (fun x => x.1.isSome) && decide ([e].length + ([] : List Keyword).length + (if ([] : List Keyword).isEmpty then 0 else 1) < 30)) = true := by rfl)
    (hline : (apos.endLine == cpos.line) = true := by rfl) (hst : starEach [e] X.env = (false, eval e X.env) :: starEach [] X.env := by rfl) (hplain : (backTo cpos (starEach [] X.env)).any (·.1) = false := by rfl) :
    B X W (.Expr (.Call (.Attribute o "append" apos) [e] [] cpos) pos :: rest) σ G cs Φ m :=
  b_cons (ps_expr (pe_bm PySem.F.plainAttrs_list PySem.F.slot_list_append PySem.F.type_list_append mt_append (sE X o) (pa_cons (sE X e) pa_nil hst) hbase hfew hline hst hplain) hs) fun H d E w =>
    ho G H (Same.refl _) d _ fun G2 H2 cs2 u s2 d2 hu => by
      obtain ⟨l, us, eu, hm, he⟩ := hu
      subst eu
      refine ⟨.inl ⟨rfl, us, SqL.of (d2.at_ hm)⟩, he G2 H2 (Same.refl _) d2 _ fun G3 H3 cs3 v s3 d3 hv => ?_⟩
      obtain ⟨k, vs, hk, hz, q⟩ := hv
      exact ⟨l, vs, v, rfl, rfl, d3.at_ (List.mem_of_getElem? hk), hz, q (s2.trans s3) _ (d3.write hk _) E (w.up (s2.trans s3))⟩
end
end J

/-! a list that a def has made within a tuple, and that its caller changes: fresh in the promise, a cell behind the statement -/
namespace J
open PySem PySem.Spec L2 PyProof.Rows
/-- a list that is new against G0 -/
def rLF (G0 : Hp) {α : Type} (r : α → Hp → V → Prop) (xs : List α) : Hp → V → Prop := fun G v => ∃ l us, v = .ref l ∧ G l = some (.lst us) ∧ G0 l = none ∧ Rs r G xs us
instance {G0 : Hp} {α : Type} {r : α → Hp → V → Prop} [∀ x, Mono (r x)] {xs : List α} : Mono (rLF G0 r xs) := ⟨fun s ⟨l, us, e, h1, h2, h3⟩ => ⟨l, us, e, s _ _ h1, h2, h3.mono s⟩⟩
theorem rLF.rL {G0 : Hp} {K : PySem.W.Frag} {α : Type} {r : α → Hp → V → Prop} {xs : List α} {G : Hp} {v : V} (h : rLF G0 r xs G v) : J.rL K r xs G v :=
  let ⟨l, us, e, h1, _, h3⟩ := h
  ⟨l, us, e, SqL.of h1, h3⟩
theorem none_of {G0 G : Hp} {l : Addr} (s : Same G0 G) (h : G l = none) : G0 l = none := by
  cases e : G0 l with
  | none => rfl
  | some o =>
    rw [s l o e] at h
    cases h
theorem d_newF {X : Cx} {e : Expr} {σ : L2.St} {G0 G : Hp} {cs : Cells} {α : Type} {r : α → Hp → V → Prop} [∀ x, Mono (r x)] {xs : List α} (s0 : Same G0 G) (h : N X e σ G cs r xs) : D X e σ G cs (rLF G0 r xs) := fun G1 H s d Q q =>
  h G1 H s d Q fun G2 H2 l vs s2 d2 hr => by
    obtain ⟨f1, f2⟩ := d2.freeze
    exact q _ _ _ (s2.trans f1) f2 ⟨l, vs, rfl, upd_same, none_of (s0.trans (s.trans s2)) (d2.cell _ List.mem_cons_self).2, hr.mono f1⟩
/-- G without l -/
def del (G : Hp) (l : Addr) : Hp := fun a => if a = l then none else G a
theorem del_ne {G : Hp} {l a : Addr} (h : a ≠ l) : del G l a = G a := if_neg h
theorem del_same {G : Hp} {l : Addr} : del G l l = none := if_pos rfl
theorem thaw {G G1 : Hp} {l : Addr} {us : List V} (s : Same G G1) (h0 : G l = none) (h1 : G1 l = some (.lst us)) : Same G (del G1 l) ∧ ∀ (cs : Cells) (H : Hp), Desc G1 cs H → Desc (del G1 l) ((l, .lst us) :: cs) H := by
  refine ⟨fun a o e => ?_, fun cs H d => ⟨fun a o e => ?_, ?_, fun c hc => ?_⟩⟩
  · have ne : a ≠ l := fun q => by rw [q, h0] at e; cases e
    rw [del_ne ne]
    exact s a o e
  · by_cases q : a = l
    · rw [q, del_same] at e
      cases e
    · rw [del_ne q] at e
      exact d.same a o e
  · refine List.nodup_cons.mpr ⟨fun hm => ?_, d.nd⟩
    obtain ⟨c, hc, e⟩ := List.mem_map.mp hm
    have q := (d.cell c hc).2
    have e' : c.1 = l := e
    rw [e', h1] at q
    cases q
  · rcases List.mem_cons.mp hc with e | hc
    · subst e
      exact ⟨d.same _ _ h1, del_same⟩
    · have q := d.cell c hc
      refine ⟨q.1, ?_⟩
      by_cases e : c.1 = l
      · rw [e]; exact del_same
      · rw [del_ne e]; exact q.2
theorem sqT_del {K : PySem.W.Frag} {G : Hp} {l t : Addr} {us vs : List V} (h : G l = some (.lst us)) (ht : SqT K G t vs) : SqT K (del G l) t vs := by
  rcases ht with (h1 | ⟨o, h1⟩) | h1
  · have ne : t ≠ l := fun q => by rw [q, h] at h1; cases h1
    exact .inl (.inl (by rw [del_ne ne]; exact h1))
  · have ne : t ≠ l := fun q => by rw [q, h] at h1; cases h1
    exact .inl (.inr ⟨o, by rw [del_ne ne]; exact h1⟩)
  · exact .inr h1
theorem rs_flat {α : Type} {r : α → Hp → V → Prop} {G G' : Hp} (h : ∀ x v, r x G v → r x G' v) : ∀ {xs : List α} {us : List V}, Rs r G xs us → Rs r G' xs us
  | _, _, .nil => .nil
  | _, _, .cons a b => .cons (h _ _ a) (rs_flat h b)
/-- to read a result as before -/
theorem rT_imp {K : PySem.W.Frag} {α : Type} {r r' : α → Hp → List V → Prop} {x : α} {G : Hp} {v : V} (i : ∀ vs, r x G vs → r' x G vs) (h : rT K r x G v) : rT K r' x G v :=
  let ⟨a, vs, e, h1, h2⟩ := h
  ⟨a, vs, e, h1, i vs h2⟩
theorem cc_imp {α β : Type} {r r' : α → Hp → V → Prop} {q q' : β → Hp → List V → Prop} {x : α × β} {G : Hp} {vs : List V} (i : ∀ v, r x.1 G v → r' x.1 G v) (j : ∀ ws, q x.2 G ws → q' x.2 G ws) (h : cc r q x G vs) : cc r' q' x G vs :=
  let ⟨v, ws, e, h1, h2⟩ := h
  ⟨v, ws, e, i v h1, j ws h2⟩
theorem c0_imp {α : Type} {r r' : α → Hp → V → Prop} {x : α} {G : Hp} {vs : List V} (i : ∀ v, r x G v → r' x G v) (h : c0 r x G vs) : c0 r' x G vs :=
  let ⟨v, e, h1⟩ := h
  ⟨v, e, i v h1⟩
section
variable {ε S L R : Type} {X : Cx} {W : ε → L2.St → Hp → Prop} {σ : L2.St} {G : Hp} {cs : Cells} {Φ : Po ε S L R} {m : Out ε S L R} {rest : List Stmt} {e : Expr} {pos p : Pos} {P : Hp → V → Prop}
/-- x = e, and what is new in it is told as cells -/
theorem b_setT (i : Nat) {x : Str} (hN : X.N.Nodup) (he : D X e σ G cs P) (k : ∀ v G1, Same G G1 → P G1 v → ∃ G2 cs2, Same G G2 ∧ (∀ H, Desc G1 cs H → Desc G2 cs2 H) ∧ B X W rest (σ.set i (some v)) G2 cs2 Φ m) (hi : X.N[i]? = some x := by rfl) (hx : Loc X.env.scope x := by first | exact Or.inl rfl | exact Or.inr rfl)
    (hs : swapsWith e (some (.Name x p)) pos.line X.env = pure false := by rfl) (hf : X.fn x = true ∨ X.env.scope.names.lookup x = some .local := by first | exact .inl rfl | exact .inr rfl) : B X W (.Assign [.Name x p] e pos :: rest) σ G cs Φ m :=
  b_cons (ps_set hN hi hx (sE X e) hs hf) fun H d E w => he G H (Same.refl _) d _ fun G2 H2 v s2 d2 hv => by
    obtain ⟨G3, cs3, s3, hd, hb⟩ := k v G2 s2 hv
    exact hb H2 (hd H2 d2) E (w.up s3)
end
section
variable {ε S L R : Type} {X : Cx} {W : ε → L2.St → Hp → Prop} {σ : L2.St} {G : Hp} {cs : Cells} {Φ : Po ε S L R} {m : Out ε S L R} {rest : List Stmt}
/-- as b_freeze; what is frozen was new -/
theorem b_freezeF (k : Nat) {l : Addr} {u : HO} (hk : cs[k]? = some (l, u)) (h : Same G (upd G l u) → (upd G l u) l = some u → G l = none → B X W rest σ (upd G l u) (cs.eraseIdx k) Φ m) : B X W rest σ G cs Φ m := fun H d E w => by
  obtain ⟨f1, f2⟩ := (d.perm (perm_at hk)).freeze
  exact h f1 upd_same (d.cell _ (List.mem_of_getElem? hk)).2 H f2 E (w.up f1)
end
section
variable {X : Cx} {σ : L2.St} {G : Hp} {cs : Cells} {e : Expr}
theorem view {G1 : Hp} {cs : Cells} {l : Addr} {us : List V} {H : Hp} {k : Nat} (hk : cs[k]? = some (l, .lst us)) (d : Desc G1 cs H) : Same G1 (upd G1 l (.lst us)) ∧ Desc (upd G1 l (.lst us)) (cs.eraseIdx k) H ∧ ∀ G2 H2, Same (upd G1 l (.lst us)) G2 → Desc G2 (cs.eraseIdx k) H2 → Desc G1 cs H2 := by
  have pm := perm_at hk
  obtain ⟨f1, f2⟩ := (d.perm pm).freeze
  refine ⟨f1, f2, fun G2 H2 s2 d2 => ⟨fun a o q => d2.same _ _ (s2 _ _ (f1 _ _ q)), d.nd, fun c hc => ⟨?_, (d.cell c hc).2⟩⟩⟩
  rcases List.mem_cons.mp (pm.mem_iff.mp hc) with q | q
  · subst q
    exact d2.same _ _ (s2 _ _ upd_same)
  · exact (d2.cell c q).1
/-- a test, with a cell seen as frozen data -/
theorem t_view (k : Nat) {l : Addr} {us : List V} {b : Bool} (hk : cs[k]? = some (l, .lst us)) (h : Same G (upd G l (.lst us)) → (upd G l (.lst us)) l = some (.lst us) → T X e σ (upd G l (.lst us)) (cs.eraseIdx k) b) : T X e σ G cs b := fun G1 H s d Q q => by
  obtain ⟨f1, f2, f3⟩ := view hk d
  have hn : G l = none := none_of s (d.cell _ (List.mem_of_getElem? hk)).2
  have s0 : Same (upd G l (.lst us)) (upd G1 l (.lst us)) := fun a o e => by
    by_cases z : a = l
    · subst z; rw [upd_same] at e; rw [upd_same]; exact e
    · rw [upd_ne z] at e; rw [upd_ne z]; exact s a o e
  have s1 : Same G (upd G l (.lst us)) := fun a o e => by
    have ne : a ≠ l := fun z => by rw [z, hn] at e; cases e
    rw [upd_ne ne]; exact e
  exact h s1 upd_same _ H s0 f2 Q fun G2 H2 s2 d2 => q G1 H2 (Same.refl _) (f3 G2 H2 s2 d2)
/-- the place of a tuple that holds a cell -/
theorem d_ixV {a b : Expr} {pos : Pos} {t : Addr} {vs : List V} {n : Nat} {v : V} (ha : D X a σ G cs (rV (.ref t))) (hs : SqT X.K G t vs) (hb : D X b σ G cs (rI (n : Int))) (hv : vs[n]? = some v := by rfl) (hp : PlainIx b := by exact fun _ _ => rfl) : D X (.Subscript a b pos) σ G cs (rV v) :=
  d_by (pe_ix ix_tup (sE X a) (sE X b) hp) fun G1 H s d Q q => ha G1 H s d _ fun G2 H2 u s2 d2 hu => hb G2 H2 (s.trans s2) d2 _ fun G3 H3 y s3 d3 hy =>
    ⟨t, vs, (n : Int), v, hu, hy, seqT ((s.trans s2).trans (s3.trans d3.same)) hs, atI_nat hv, q G3 H3 v (s2.trans s3) d3 rfl⟩
end
end J

/-! dicts whose keys are texts or ints: cells, told by a list of pairs -/
namespace J
open PySem PySem.Spec L2 PyProof.Rows
class KeyR (κ : Type) where
  key : κ → Key
  inj : ∀ {a b : κ}, key a = key b → a = b
instance : KeyR (List Nat) := { key := fun z => .inr (SX.S z), inj := fun h => SX.S_inj (Sum.inr.inj h) }
instance : KeyR Int := { key := .inl, inj := fun h => Sum.inl.inj h }
section
variable {κ β : Type} [DecidableEq κ] [KeyR κ]
def Ms (r : β → Hp → V → Prop) (G : Hp) (xs : List (κ × β)) (kvs : List (Key × V)) : Prop := Paired (fun p q => q.1 = KeyR.key p.1 ∧ r p.2 G q.2) xs kvs
/-- what is at k -/
def mget (xs : List (κ × β)) (k : κ) : Option β := (xs.find? fun p => decide (p.1 = k)).map (·.2)
/-- k gets the value v: in its place, or at the end -/
def mput (xs : List (κ × β)) (k : κ) (v : β) : List (κ × β) := if (xs.any fun p => decide (p.1 = k)) = true then xs.map (fun p => if p.1 = k then (p.1, v) else p) else xs ++ [(k, v)]
def mval [Inhabited β] (xs : List (κ × β)) (k : κ) : β := (mget xs k).getD default
def mhas (xs : List (κ × β)) (k : κ) : Bool := (mget xs k).isSome
variable {r : β → Hp → V → Prop} {G G' : Hp} {xs : List (κ × β)} {kvs : List (Key × V)} {k : κ} {b : β} {v : V}
theorem Ms.nil : Ms r G ([] : List (κ × β)) [] := Paired.nil
theorem Ms.mono [m : ∀ x, Mono (r x)] (e : Same G G') : ∀ {xs : List (κ × β)} {kvs : List (Key × V)}, Ms r G xs kvs → Ms r G' xs kvs
  | _, _, Paired.nil => Paired.nil
  | _, _, Paired.cons h t => Paired.cons ⟨h.1, (m _).mono e h.2⟩ (Ms.mono e t)
theorem Ms.length (h : Ms r G xs kvs) : xs.length = kvs.length := Paired.length h
theorem key_iff {a b : κ} : (KeyR.key a = KeyR.key b) ↔ a = b := ⟨KeyR.inj, fun e => by rw [e]⟩
theorem Ms.none : ∀ {xs : List (κ × β)} {kvs : List (Key × V)}, Ms r G xs kvs → mget xs k = .none → valV kvs (KeyR.key k) = .none
  | _, _, Paired.nil, _ => rfl
  | p :: xs, q :: kvs, Paired.cons h t, e => by
    by_cases hk : p.1 = k
    · simp [mget, List.find?_cons, hk] at e
    · have e' : mget xs k = .none := by simpa [mget, List.find?_cons, hk] using e
      rw [valV_neg (fun z => hk (KeyR.inj (h.1.symm.trans z)))]
      exact Ms.none t e'
theorem Ms.some : ∀ {xs : List (κ × β)} {kvs : List (Key × V)}, Ms r G xs kvs → mget xs k = .some b → ∃ v, valV kvs (KeyR.key k) = .some v ∧ r b G v
  | _, _, Paired.nil, e => by cases e
  | p :: xs, q :: kvs, Paired.cons h t, e => by
    by_cases hk : p.1 = k
    · have e' : p.2 = b := by simpa [mget, List.find?_cons, hk] using e
      exact ⟨q.2, valV_pos (by rw [h.1, hk]), e' ▸ h.2⟩
    · have e' : mget xs k = .some b := by simpa [mget, List.find?_cons, hk] using e
      rw [valV_neg (fun z => hk (KeyR.inj (h.1.symm.trans z)))]
      exact Ms.some t e'
theorem Ms.isSome (h : Ms r G xs kvs) : (valV kvs (KeyR.key k)).isSome = mhas xs k := by
  unfold mhas
  cases e : mget xs k with
  | none => rw [h.none e]; rfl
  | some b => obtain ⟨v, e1, _⟩ := h.some e; rw [e1]; rfl
theorem any_get (xs : List (κ × β)) (k : κ) : (xs.any fun p => decide (p.1 = k)) = mhas xs k := by
  induction xs with
  | nil => rfl
  | cons p xs ih =>
    rw [List.any_cons, ih]
    by_cases hk : p.1 = k
    · simp [mhas, mget, List.find?_cons, hk]
    · simp [mhas, mget, List.find?_cons, hk]
theorem Ms.snoc (h : Ms r G xs kvs) (hb : r b G v) : Ms r G (xs ++ [(k, b)]) (kvs ++ [(KeyR.key k, v)]) := by
  induction h with
  | nil => exact Paired.cons ⟨rfl, hb⟩ Paired.nil
  | cons a t ih => exact Paired.cons a ih
theorem Ms.upd (hb : r b G v) (h : Ms r G xs kvs) : Ms r G (xs.map fun p => if p.1 = k then (p.1, b) else p) (kvs.map fun kv => if kv.1 = KeyR.key k then (kv.1, v) else kv) := by
  induction h with
  | nil => exact Paired.nil
  | @cons p q _ _ a t ih =>
    refine Paired.cons ?_ ih
    dsimp only
    by_cases hk : p.1 = k
    · have e : q.1 = KeyR.key k := by rw [a.1, hk]
      rw [if_pos hk, if_pos e]
      exact ⟨a.1, hb⟩
    · have e : ¬ q.1 = KeyR.key k := fun z => hk (KeyR.inj (a.1.symm.trans z))
      rw [if_neg hk, if_neg e]
      exact a
theorem Ms.put (hb : r b G v) (h : Ms r G xs kvs) : Ms r G (mput xs k b) (putK kvs (KeyR.key k) v) := by
  unfold mput putK
  have e : (kvs.any fun kv => decide (kv.1 = KeyR.key k)) = (xs.any fun p => decide (p.1 = k)) := by
    rw [any_get xs k, valV_any, h.isSome]
  rw [e]
  split
  · exact h.upd hb
  · exact h.snoc hb
theorem mput_len (xs : List (κ × β)) (k : κ) (v : β) : (mput xs k v).length = if mhas xs k = true then xs.length else xs.length + 1 := by
  unfold mput
  rw [any_get]
  split <;> simp
theorem mput_le (xs : List (κ × β)) (k : κ) (v : β) : (mput xs k v).length ≤ xs.length + 1 := by
  rw [mput_len]
  split <;> omega
theorem mget_put (xs : List (κ × β)) (k j : κ) (v : β) : mget (mput xs k v) j = if j = k then .some v else mget xs j := by
  unfold mput
  split
  · rename_i h
    induction xs with
    | nil => simp at h
    | cons p xs ih =>
      by_cases hp : p.1 = k
      · by_cases hj : j = k
        · simp [mget, List.find?_cons, hp, hj]
        · by_cases hx : (xs.any fun p => decide (p.1 = k)) = true
          · have := ih hx
            simp only [if_neg hj] at this ⊢
            simp only [mget, List.map_cons, List.find?_cons, hp, if_true] at this ⊢
            have hkj : decide (k = j) = false := by simpa using fun e => hj e.symm
            simp only [hkj]
            exact this
          · have e : (xs.map fun p => if p.1 = k then (p.1, v) else p) = xs := by
              rw [List.map_congr_left (g := id), List.map_id]
              intro q hq
              have : ¬ q.1 = k := fun e => hx (List.any_eq_true.mpr ⟨q, hq, by simpa using e⟩)
              rw [if_neg this]; rfl
            have hkj : decide (k = j) = false := by simpa using fun e => hj e.symm
            simp only [mget, List.map_cons, List.find?_cons, hp, if_true, hkj, e, if_neg hj]
      · have hx : (xs.any fun p => decide (p.1 = k)) = true := by
          rw [List.any_cons] at h
          simpa [hp] using h
        have := ih hx
        by_cases hj : p.1 = j
        · have : ¬ j = k := fun e => hp (hj.trans e)
          simp [mget, List.find?_cons, hp, hj, this]
        · simp only [mget, List.map_cons, List.find?_cons, hp, if_false, hj, decide_false] at this ⊢
          exact this
  · rename_i h
    have hn : mget xs k = .none := by
      have := any_get xs k
      rw [this] at h
      unfold mhas at h
      cases e : mget xs k with
      | none => rfl
      | some b => rw [e] at h; exact absurd rfl h
    unfold mget at hn ⊢
    rw [List.find?_append]
    by_cases hj : j = k
    · subst hj
      rw [if_pos rfl]
      cases e : xs.find? (fun p => decide (p.1 = j)) with
      | none => simp [e]
      | some q => rw [e] at hn; cases hn
    · rw [if_neg hj]
      cases e : xs.find? (fun p => decide (p.1 = j)) with
      | none =>
        have hkj : decide (k = j) = false := by simpa using fun e => hj e.symm
        simp [List.find?_cons, hkj]
      | some q => simp
end
/-- a key's reading -/
class KeyV (κ : Type) [KeyR κ] (rk : κ → Hp → V → Prop) where
  is : ∀ {k G v}, rk k G v → v = kV (KeyR.key k)
instance : KeyV (List Nat) rS := ⟨fun h => h⟩
instance : KeyV Int rI := ⟨fun h => h⟩
section
variable {X : Cx} {σ : L2.St} {G : Hp} {cs : Cells} {o i : Expr} {pos p : Pos} {κ β : Type} [DecidableEq κ] [KeyR κ] {rk : κ → Hp → V → Prop} [hk : KeyV κ rk] {r : β → Hp → V → Prop} {xs : List (κ × β)} {kvs : List (Key × V)} {k : κ} {a : Addr}
/-- k in d -/
theorem d_min (hu : X.A.units + 1 < cLine) (hi : D X i σ G cs (rk k)) (ho : D X o σ G cs (rV (.ref a))) (hm : (a, HO.dK kvs) ∈ cs) (hx : Ms r G xs kvs) (h1 : behindInMarks .In o = false := by rfl) : D X (.Compare i [.In] [o] pos) σ G cs (rB (mhas xs k)) :=
  d_by (pe_cmp (pc_din hu (sE X i) (sE X o)) h1) fun G1 H s d Q q => hi G1 H s d _ fun G2 H2 y s2 d2 hy => ho G2 H2 (s.trans s2) d2 _ fun G3 H3 x s3 d3 hx' =>
    ⟨a, valV kvs (KeyR.key k), hx', by rw [hk.is hy]; exact DGet.k (d3.at_ hm), by rw [hx.isSome]; exact q G3 H3 _ (s2.trans s3) d3 rfl⟩
theorem d_mnin (hu : X.A.units + 1 < cLine) (hi : D X i σ G cs (rk k)) (ho : D X o σ G cs (rV (.ref a))) (hm : (a, HO.dK kvs) ∈ cs) (hx : Ms r G xs kvs) (h1 : behindInMarks .NotIn o = false := by rfl) : D X (.Compare i [.NotIn] [o] pos) σ G cs (rB (!mhas xs k)) :=
  d_by (pe_cmp (pc_dnotin hu (sE X i) (sE X o)) h1) fun G1 H s d Q q => hi G1 H s d _ fun G2 H2 y s2 d2 hy => ho G2 H2 (s.trans s2) d2 _ fun G3 H3 x s3 d3 hx' =>
    ⟨a, valV kvs (KeyR.key k), hx', by rw [hk.is hy]; exact DGet.k (d3.at_ hm), by rw [hx.isSome]; exact q G3 H3 _ (s2.trans s3) d3 rfl⟩
theorem t_min (hu : X.A.units + 1 < cLine) (hi : D X i σ G cs (rk k)) (ho : D X o σ G cs (rV (.ref a))) (hm : (a, HO.dK kvs) ∈ cs) (hx : Ms r G xs kvs) (h1 : behindInMarks .In o = false := by rfl) : T X (.Compare i [.In] [o] pos) σ G cs (mhas xs k) := fun G1 H s d Q q =>
  uT (pt_cmp (pc_din hu (sE X i) (sE X o)) h1) (hi G1 H s d _ fun G2 H2 y s2 d2 hy => ho G2 H2 (s.trans s2) d2 _ fun G3 H3 x s3 d3 hx' =>
    ⟨a, valV kvs (KeyR.key k), hx', by rw [hk.is hy]; exact DGet.k (d3.at_ hm), mhas xs k, by rw [hx.isSome], q G3 H3 (s2.trans s3) d3⟩)
theorem t_mnin (hu : X.A.units + 1 < cLine) (hi : D X i σ G cs (rk k)) (ho : D X o σ G cs (rV (.ref a))) (hm : (a, HO.dK kvs) ∈ cs) (hx : Ms r G xs kvs) (h1 : behindInMarks .NotIn o = false := by rfl) : T X (.Compare i [.NotIn] [o] pos) σ G cs (!mhas xs k) := fun G1 H s d Q q =>
  uT (pt_cmp (pc_dnotin hu (sE X i) (sE X o)) h1) (hi G1 H s d _ fun G2 H2 y s2 d2 hy => ho G2 H2 (s.trans s2) d2 _ fun G3 H3 x s3 d3 hx' =>
    ⟨a, valV kvs (KeyR.key k), hx', by rw [hk.is hy]; exact DGet.k (d3.at_ hm), !mhas xs k, by rw [hx.isSome], q G3 H3 (s2.trans s3) d3⟩)
/-- d[k] -/
theorem d_mget [Inhabited β] [∀ x, Mono (r x)] (hu : X.A.units + 1 < cLine) (ho : D X o σ G cs (rV (.ref a))) (hi : D X i σ G cs (rk k)) (hm : (a, HO.dK kvs) ∈ cs) (hx : Ms r G xs kvs) (hh : mhas xs k = true) (hs : NoSl i := by exact fun _ _ => rfl) : D X (.Subscript o i pos) σ G cs (r (mval xs k)) :=
  d_by (pe_dget hu (sE X o) (sE X i) hs) fun G1 H s d Q q => ho G1 H s d _ fun G2 H2 x s2 d2 hx' => hi G2 H2 (s.trans s2) d2 _ fun G3 H3 y s3 d3 hy => by
    obtain ⟨b, hb⟩ := Option.isSome_iff_exists.mp hh
    obtain ⟨v, h1, h2⟩ := hx.some hb
    refine ⟨a, v, hx', by rw [hk.is hy, ← h1]; exact DGet.k (d3.at_ hm), q G3 H3 v (s2.trans s3) d3 ?_⟩
    unfold mval
    rw [hb]
    exact Mono.mono ((s.trans s2).trans s3) h2
/-- len(d) -/
theorem d_mlen {x : Str} (hm0 : X.mg x = none) (ho : D X o σ G cs (rV (.ref a))) (hm : (a, HO.dK kvs) ∈ cs) (hx : Ms r G xs kvs) (hg : Gl X x := by rfl) (hv : bootBuiltins x = some (.builtin "len") := by first | exact PySem.boot_len | decide +kernel) (hn : x ≠ "__name__" := by decide) (hd : (x == ("__debug__" : Str)) = false := by decide)
    (he : starEach [o] X.env = (false, eval o X.env) :: starEach [] X.env := by rfl) (hpl : (backTo pos (starEach [] X.env)).any (·.1) = false := by rfl) : D X (.Call (.Name x p) [o] [] pos) σ G cs (rI (xs.length : Int)) :=
  d_callB call_lenD hm0 (a_cons ho a_nil he) (fun G1 H vs s d hvs Q q => by
    obtain ⟨v, ws, e1, h1, h2⟩ := hvs
    cases h2
    have e2 : v = .ref a := h1
    subst e2
    exact ⟨a, kvs, e1, d.at_ hm, by rw [← hx.length]; exact q G1 H _ (Same.refl _) d rfl⟩) hg hv hn hd he hpl
end
section
variable {ε S L R : Type} {X : Cx} {W : ε → L2.St → Hp → Prop} {σ : L2.St} {G : Hp} {cs : Cells} {Φ : Po ε S L R} {m : Out ε S L R} {rest : List Stmt} {o i e : Expr} {pos pos' p : Pos} {P : Hp → V → Prop}
/-- d[k] = e -/
theorem b_mput {κ : Type} [KeyR κ] {rk : κ → Hp → V → Prop} [hk : KeyV κ rk] {kk : κ} (k : Nat) {a : Addr} {kvs : List (Key × V)} (hu : X.A.units + 1 < cLine) (hc : cs[k]? = some (a, .dK kvs)) (he : D X e σ G cs P) (ho : D X o σ G cs (rV (.ref a))) (hi : D X i σ G cs (rk kk)) (hl : kvs.length < sizeLine)
    (q : ∀ v G1, Same G G1 → P G1 v → B X W rest σ G1 (cs.set k (a, .dK (putK kvs (KeyR.key kk) v))) Φ m) [Mono P] (hs : swapsWith e (some (.Subscript o i pos')) pos.line X.env = pure false := by rfl) : B X W (.Assign [.Subscript o i pos'] e pos :: rest) σ G cs Φ m :=
  b_cons (ps_dput hu (sE X o) (sE X i) (sE X e) hs) fun H d E w => he G H (Same.refl _) d _ fun G2 H2 v s2 d2 hv => ho G2 H2 s2 d2 _ fun G3 H3 x s3 d3 hx => hi G3 H3 (s2.trans s3) d3 _ fun G4 H4 y s4 d4 hy =>
    ⟨a, upd H4 a (.dK (putK kvs (KeyR.key kk) v)), hx, by rw [hk.is hy]; exact DPut.k (d4.at_ (List.mem_of_getElem? hc)) hl, q v G4 (s2.trans (s3.trans s4)) (Mono.mono (s3.trans s4) hv) _ (d4.write hc _) E (w.up (s2.trans (s3.trans s4)))⟩
/-- x = {} -/
theorem b_setD (j : Nat) {x : Str} (hN : X.N.Nodup) (q : ∀ l, B X W rest (σ.set j (some (.ref l))) G ((l, .dK []) :: cs) Φ m) (hi : X.N[j]? = some x := by rfl) (hx : Loc X.env.scope x := by first | exact Or.inl rfl | exact Or.inr rfl)
    (hs : swapsWith (.Dict [] [] pos') (some (.Name x p)) pos.line X.env = pure false := by rfl) (hf : X.fn x = true ∨ X.env.scope.names.lookup x = some .local := by first | exact .inl rfl | exact .inr rfl) : B X W (.Assign [.Name x p] (.Dict [] [] pos') pos :: rest) σ G cs Φ m :=
  b_cons (ps_set hN hi hx pe_dnewK hs hf) fun H d E w => fun l hl => q l _ (d.newCell hl _) E w
/-- o.f = {}, a new field -/
theorem b_fldNewD {f : Str} {a C dx : Addr} {nf : List Str} {vs : List V} (k : Nat) (ck : ClsK X.K C nf) (hk : cs[k]? = some (a, HO.ins C dx (nf.zip vs))) (ho : ∀ c, D X o σ G (c :: cs) (rV (.ref a)))
    (q : ∀ l G1, Same G G1 → B X W rest σ G1 ((l, HO.dK []) :: cs.set k (a, HO.ins C dx (nf.zip (vs ++ [.ref l])))) Φ m) (hi : nf[vs.length]? = some f := by rfl)
    (hs : swapsWith (.Dict [] [] p) (some (.Attribute o f pos')) pos.line X.env = pure false := by rfl) : B X W (.Assign [.Attribute o f pos'] (.Dict [] [] p) pos :: rest) σ G cs Φ m :=
  b_cons (ps_fld (sE X o) pe_dnewK hs) fun H d E w => fun l hl => by
    have d2 := d.newCell hl (.dK [])
    refine ho (l, .dK []) G _ (Same.refl _) d2 _ fun G3 H3 x s3 d3 hx => ?_
    refine ⟨a, C, dx, nf.zip vs, hx, d3.at_ (List.mem_cons_of_mem _ (List.mem_of_getElem? hk)), ck.cl, ck.na f (List.mem_of_getElem? hi), by rw [List.length_zip]; have := ck.le; omega, ?_⟩
    rw [putF_new ck.nn hi]
    exact q l G3 s3 _ (d3.write (k := k + 1) (by simpa using hk) _) E (w.up s3)
end
section
variable {X : Cx} {σ : L2.St} {G : Hp} {cs : Cells} {pos p : Pos} {k : V → Hp → Cells → Prop}
/-- {} as an argument -/
theorem ec_dnew (q : ∀ l G1, Same G G1 → k (.ref l) G1 ((l, .dK []) :: cs)) : EC X (.Dict [] [] pos) σ G cs k := fun G1 H s d Q qq =>
  uE pe_dnewK fun l hl => qq G1 _ _ _ (Same.refl _) (d.newCell hl _) (q l G1 s)
end
end J

/-! index of a text in a list or in a tuple of the module; truth of lists; dict.get; cells made within a test -/
namespace J
open PySem PySem.Spec L2 PyProof.Rows
instance {α β : Type} [Inhabited α] : Inhabited (α ⊕ β) := ⟨.inl default⟩
/-- where z stands -/
def idxL (ys : List (List Nat)) (z : List Nat) : Int := (ys.idxOf z : Nat)
theorem idx_map (z : List Nat) : ∀ ys : List (List Nat), (ys.map SX.S).idxOf (SX.S z) = ys.idxOf z
  | [] => rfl
  | y :: ys => by
    rw [List.map_cons, List.idxOf_cons, List.idxOf_cons, idx_map z ys]
    have : (SX.S y == SX.S z) = (y == z) := by
      by_cases h : y = z
      · subst h; simp
      · have h2 : ¬ SX.S y = SX.S z := fun e => h (SX.S_inj e)
        rw [beq_eq_false_iff_ne.mpr h, beq_eq_false_iff_ne.mpr h2]
    rw [this]
theorem mem_map_S {z : List Nat} {ys : List (List Nat)} (h : z ∈ ys) : SX.S z ∈ ys.map SX.S := List.mem_map_of_mem h
theorem rs_strM {G : Hp} : ∀ {ys : List (List Nat)} {us : List V}, Rs rS G ys us → us = (ys.map SX.S).map V.str
  | _, _, .nil => rfl
  | _, _, .cons a t => by rw [List.map_cons, List.map_cons, ← rs_strM t, show _ = V.str _ from a]
/-! ### == of tuples of any length, of None or a value, of other pairs of kinds -/
instance (K : PySem.W.Frag) {α : Type} (r : α → Hp → V → Prop) [q : EqR K r] : EqR K (rU K r) where
  toD xs := .tuple (xs.map q.toD)
  ok xs := ∀ x ∈ xs, q.ok x
  dep := q.dep + 1
  dp h s := by
    obtain ⟨a, vs, rfl, h1, h2⟩ := h
    exact .tup (seqT s h1) (dpAll s h2)
  lay h := by
    unfold PyData.canLay0
    exact layAll h
  deep xs := by
    unfold PyData.depth
    have := deepAll (K := K) (r := r) xs
    omega
  eqv xs ys := by
    unfold PyData.eqv
    rw [eqvAll]
instance (K : PySem.W.Frag) {α : Type} (r : α → Hp → V → Prop) : HasTy K (rU K r) "tuple" := ⟨fun h d => by
  obtain ⟨a, vs, rfl, h1, h2⟩ := h
  exact ty_tuple (seqT d.same h1)⟩
instance (K : PySem.W.Frag) {α : Type} (r : α → Hp → List V → Prop) [EqT K r] : NeR K rS (rT K r) := ⟨fun x y => by constructor <;> (show PyData.eqv _ _ = false; unfold PyData.eqv; rfl)⟩
instance (K : PySem.W.Frag) {α : Type} (r : α → Hp → List V → Prop) [EqT K r] : NeR K rI (rT K r) := ⟨fun x y => by constructor <;> (show PyData.eqv _ _ = false; unfold PyData.eqv; rfl)⟩
instance (K : PySem.W.Frag) {α : Type} (r : α → Hp → List V → Prop) [EqT K r] : NeR K rB (rT K r) := ⟨fun x y => by constructor <;> (show PyData.eqv _ _ = false; unfold PyData.eqv; rfl)⟩
/-- never equal to None -/
class NoR {α : Type} (K : PySem.W.Frag) (r : α → Hp → V → Prop) [q : EqR K r] : Prop where
  no : ∀ x, PyData.eqv .none (q.toD x) = false ∧ PyData.eqv (q.toD x) .none = false
instance (K : PySem.W.Frag) : NoR K rS := ⟨fun x => by constructor <;> (show PyData.eqv _ _ = false; unfold PyData.eqv; rfl)⟩
instance (K : PySem.W.Frag) : NoR K rI := ⟨fun x => by constructor <;> (show PyData.eqv _ _ = false; unfold PyData.eqv; rfl)⟩
instance (K : PySem.W.Frag) : NoR K rB := ⟨fun x => by constructor <;> (show PyData.eqv _ _ = false; unfold PyData.eqv; rfl)⟩
instance (K : PySem.W.Frag) {α : Type} (r : α → Hp → List V → Prop) [EqT K r] : NoR K (rT K r) := ⟨fun x => by constructor <;> (show PyData.eqv _ _ = false; unfold PyData.eqv; rfl)⟩
instance (K : PySem.W.Frag) {α : Type} (r : α → Hp → V → Prop) [EqR K r] : NoR K (rL K r) := ⟨fun x => by constructor <;> (show PyData.eqv _ _ = false; unfold PyData.eqv; rfl)⟩
instance (K : PySem.W.Frag) {α : Type} (r : α → Hp → V → Prop) [q : EqR K r] [n : NoR K r] : EqR K (rO r) where
  toD x := match x with
    | none => .none
    | some i => q.toD i
  ok x := match x with
    | none => True
    | some i => q.ok i
  dep := max 1 q.dep
  dp {x} _ _ _ h s := by
    cases x with
    | none => cases (show _ = V.non from h); exact .non
    | some i => exact q.dp h s
  lay {x} h := by
    cases x with
    | none => rfl
    | some i => exact q.lay h
  deep x := by
    cases x with
    | none => show PyData.depth .none ≤ _; unfold PyData.depth; omega
    | some i => exact Nat.le_trans (q.deep i) (Nat.le_max_right _ _)
  eqv x y := by
    cases x with
    | none =>
      cases y with
      | none => exact ⟨fun _ => rfl, fun _ => by show PyData.eqv .none .none = true; unfold PyData.eqv; rfl⟩
      | some y => exact ⟨fun h => (by rw [(n.no y).1] at h; cases h), fun h => nomatch h⟩
    | some x =>
      cases y with
      | none => exact ⟨fun h => (by rw [(n.no x).2] at h; cases h), fun h => nomatch h⟩
      | some y => exact (q.eqv x y).trans ⟨fun h => by rw [h], fun h => by cases h; rfl⟩
section
variable {X : Cx}
def rLIndexS (K : PySem.W.Frag) : V → List V → Hp → VK → Prop := fun x xs H Q => ∃ (a : Addr) (ys : List (List Nat)) (z : List Nat), x = V.ref a ∧ xs = [.str (SX.S z)] ∧ SqL K H a ((ys.map SX.S).map V.str) ∧ z ∈ ys ∧ Q (.int (idxL ys z)) H
theorem mt_lindexS : MtR X "list.index" (rLIndexS X.K) := by
  intro pins s σ H x xs v us Q I rx rxs h
  obtain ⟨a, ys, z, rfl, rfl, hs, hm, q⟩ := h
  cases rx
  obtain ⟨u, rfl, ru⟩ := Vals.one rxs
  obtain ⟨t, rfl⟩ := ru
  obtain ⟨its, rv, pl, hlen⟩ := I.list hs
  rw [List.length_map] at hlen
  have key : RelV (V.int (idxL ys z)) (Value.int (((ys.map SX.S).idxOf (SX.S z) : Nat) : Int) s.toks) := ⟨s.toks, by rw [idx_map]; rfl⟩
  exact PySem.SeqAt.list_index_strs pl.isList rv.strs hlen (mem_map_S hm) ⟨.int (idxL ys z), H, I.tok _, key, q⟩
def rTIndexS (K : PySem.W.Frag) : V → List V → Hp → VK → Prop := fun x xs H Q => ∃ (a : Addr) (ys : List (List Nat)) (z : List Nat), x = V.ref a ∧ xs = [.str (SX.S z)] ∧ SqT K H a ((ys.map SX.S).map V.str) ∧ z ∈ ys ∧ Q (.int (idxL ys z)) H
theorem mt_tindexS : MtR X "tuple.index" (rTIndexS X.K) := by
  intro pins s σ H x xs v us Q I rx rxs h
  obtain ⟨a, ys, z, rfl, rfl, hs, hm, q⟩ := h
  cases rx
  obtain ⟨u, rfl, ru⟩ := Vals.one rxs
  obtain ⟨t, rfl⟩ := ru
  obtain ⟨its, rv, pl, hlen⟩ := I.tuple hs
  have key : RelV (V.int (idxL ys z)) (Value.int (((ys.map SX.S).idxOf (SX.S z) : Nat) : Int) s.toks) := ⟨s.toks, by rw [idx_map]; rfl⟩
  exact PySem.SeqAt.tuple_index_strs (show s.heap.IsTuple a its.toArray from pl) rv.strs (mem_map_S hm) ⟨.int (idxL ys z), H, I.tok _, key, q⟩
end
/-- a tuple of texts of the module -/
def rUK (K : PySem.W.Frag) (ys : List (List Nat)) : Hp → V → Prop := fun G v => ∃ a o, v = .ref a ∧ K.lookup a = some o ∧ o.cls = .type "tuple" ∧ o.dict = none ∧ SqT K G a ((ys.map SX.S).map V.str)
theorem globK {K : PySem.W.Frag} {mg : Str → Option Value} {x : Str} {ys : List (List Nat)} {vs : List V} {a : Addr} {us : List Value} {n : Nat} {sl : Array (Option Value)} (hm : mg x = some (.ref a)) (hk : K.lookup a = some ⟨.type "tuple", none, .seq us.toArray n, sl⟩)
    (hv : Vals vs us) (hl : us.length ≤ sizeLine) (hr : ∀ G, Rs rS G ys vs) : GlobR mg x (rUK K ys) :=
  ⟨.ref a, _, hm, rfl, fun G => ⟨a, _, rfl, hk, rfl, rfl, by rw [← rs_strM (hr G)]; exact .inr ⟨_, us.toArray, n, hk, rfl, rfl, by rw [List.size_toArray]; exact hl, by simpa using hv⟩⟩⟩
section
variable {X : Cx} {σ : L2.St} {G : Hp} {cs : Cells} {o e : Expr} {apos pos p : Pos} {ys : List (List Nat)} {z : List Nat}
theorem d_tindex (ho : D X o σ G cs (rUK X.K ys)) (he : D X e σ G cs (rS z)) (hm : z ∈ ys) (hbase : attributeBase o "index" X.env (eval o X.env) = eval o X.env := by rfl)
    (hfew : ((backTo pos (starEach [e] X.env)).all (fun x => !x.1) && (backToKw pos (keywordEach [] X.env)).all (fun x => x.1.isSome)
      && decide (([e] : List Expr).length + ([] : List Keyword).length + (if ([] : List Keyword).isEmpty then 0 else 1) < 30)) = true := by rfl)
    (hline : (apos.endLine == pos.line) = true := by rfl) (hs : starEach [e] X.env = (false, eval e X.env) :: starEach [] X.env := by rfl) (hplain : (backTo pos (starEach [] X.env)).any (·.1) = false := by rfl) :
    D X (.Call (.Attribute o "index" apos) [e] [] pos) σ G cs (rI (idxL ys z)) :=
  d_by (pe_bm PySem.F.plainAttrs_tuple PySem.F.slot_tuple_index PySem.F.type_tuple_index mt_tindexS (sE X o) (sA X [e]) hbase hfew hline hs hplain) fun G1 H s d Q q => ho G1 H s d _ fun G2 H2 u s2 d2 hu => by
    obtain ⟨a, ob, rfl, h1, h2, h3, h4⟩ := hu
    refine ⟨.inr (.inl ⟨rfl, ob, h1, h2, h3⟩), (a_cons he a_nil hs) G2 H2 (s.trans s2) d2 _ fun G3 H3 vs s3 d3 hv => ?_⟩
    obtain ⟨v, ws, e1, h5, h6⟩ := hv
    cases h6
    exact ⟨a, ys, z, rfl, by rw [e1, show v = .str (SX.S z) from h5], seqT (s3.trans d3.same) h4, hm, q G3 H3 _ (s2.trans s3) d3 rfl⟩
theorem d_lindex (ho : D X o σ G cs (rdL X.K cs rS ys)) (he : D X e σ G cs (rS z)) (hm : z ∈ ys) (hbase : attributeBase o "index" X.env (eval o X.env) = eval o X.env := by rfl)
    (hfew : ((backTo pos (starEach [e] X.env)).all (fun x => !x.1) && (backToKw pos (keywordEach [] X.env)).all (fun x => x.1.isSome)
      && decide (([e] : List Expr).length + ([] : List Keyword).length + (if ([] : List Keyword).isEmpty then 0 else 1) < 30)) = true := by rfl)
    (hline : (apos.endLine == pos.line) = true := by rfl) (hs : starEach [e] X.env = (false, eval e X.env) :: starEach [] X.env := by rfl) (hplain : (backTo pos (starEach [] X.env)).any (·.1) = false := by rfl) :
    D X (.Call (.Attribute o "index" apos) [e] [] pos) σ G cs (rI (idxL ys z)) :=
  d_by (pe_bm PySem.F.plainAttrs_list PySem.F.slot_list_index PySem.F.type_list_index mt_lindexS (sE X o) (sA X [e]) hbase hfew hline hs hplain) fun G1 H s d Q q => ho G1 H s d _ fun G2 H2 u s2 d2 hu => by
    obtain ⟨a, vs, rfl, h1, h2⟩ := hu.sq d2
    refine ⟨.inl ⟨rfl, vs, h1⟩, (a_cons he a_nil hs) G2 H2 (s.trans s2) d2 _ fun G3 H3 us s3 d3 hv => ?_⟩
    obtain ⟨v, ws, e1, h5, h6⟩ := hv
    cases h6
    obtain ⟨a', vs', e2, h1', h2'⟩ := (show rdL X.K cs rS ys G3 (.ref a) from Mono.mono s3 hu).sq d3
    cases e2
    exact ⟨a, ys, z, rfl, by rw [e1, show v = .str (SX.S z) from h5], by rw [← rs_strM h2']; exact h1', hm, q G3 H3 _ (s2.trans s3) d3 rfl⟩
/-- a list's truth -/
theorem t_truL {α : Type} {r : α → Hp → V → Prop} {xs : List α} (h : D X e σ G cs (rdL X.K cs r xs)) (he : ∀ whole, isTrue e X.env whole = (do let v ← whole; standAt e.pos; holding [v] (truthy v)) := by intro _; rfl) : T X e σ G cs (decide (0 < xs.length)) := fun G1 H s d Q q =>
  uT (pt_truth (sE X e) he) (h G1 H s d _ fun G2 H2 v s2 d2 hv => by
    obtain ⟨a, vs, rfl, h1, h2⟩ := hv.sq d2
    refine ⟨decide (0 < xs.length), .inl ⟨vs, h1, ?_⟩, q G2 H2 s2 d2⟩
    cases h2 <;> simp)
end
section
variable {X : Cx} {σ : L2.St} {G : Hp} {cs : Cells} {o i f : Expr} {apos pos : Pos} {κ β : Type} [DecidableEq κ] [KeyR κ] {rk : κ → Hp → V → Prop} [hk : KeyV κ rk] {r : β → Hp → V → Prop} {xs : List (κ × β)} {kvs : List (Key × V)} {k : κ} {a : Addr}
/-- d.get(k, x) -/
theorem d_mgetD [∀ x, Mono (r x)] {b : β} (hu : X.A.units + 1 < cLine) (ho : D X o σ G cs (rV (.ref a))) (hi : D X i σ G cs (rk k)) (hf : D X f σ G cs (r b)) (hm : (a, HO.dK kvs) ∈ cs) (hx : Ms r G xs kvs) (m : M2 X o "get" apos i f pos := by exact ⟨rfl, rfl, rfl, rfl⟩) :
    D X (.Call (.Attribute o "get" apos) [i, f] [] pos) σ G cs (r ((mget xs k).getD b)) :=
  d_by (pe_dget2 hu (sE X o) (sE X i) (sE X f) m) fun G1 H s d Q q => ho G1 H s d _ fun G2 H2 x s2 d2 hx' => ⟨a, hx', .inl ⟨kvs, .inl (d2.at_ hm)⟩, hi G2 H2 (s.trans s2) d2 _ fun G3 H3 y s3 d3 hy => hf G3 H3 (s.trans (s2.trans s3)) d3 _ fun G4 H4 z s4 d4 hz => by
    refine ⟨valV kvs (KeyR.key k), by rw [hk.is hy]; exact DGet.k (d4.at_ hm), q G4 H4 _ (s2.trans (s3.trans s4)) d4 ?_⟩
    cases e : mget xs k with
    | none => rw [hx.none e]; exact hz
    | some c =>
      obtain ⟨v, h1, h2⟩ := hx.some e
      rw [h1]
      exact Mono.mono (s.trans (s2.trans (s3.trans s4))) h2⟩
/-- d.get(k) -/
theorem d_mgetO [∀ x, Mono (r x)] (hu : X.A.units + 1 < cLine) (ho : D X o σ G cs (rV (.ref a))) (hi : D X i σ G cs (rk k)) (hm : (a, HO.dK kvs) ∈ cs) (hx : Ms r G xs kvs) (m : M1 X o "get" apos i pos := by exact ⟨rfl, rfl, rfl, rfl⟩) :
    D X (.Call (.Attribute o "get" apos) [i] [] pos) σ G cs (rO r (mget xs k)) :=
  d_by (pe_dget1 hu (sE X o) (sE X i) m) fun G1 H s d Q q => ho G1 H s d _ fun G2 H2 x s2 d2 hx' => ⟨a, hx', .inl ⟨kvs, .inl (d2.at_ hm)⟩, hi G2 H2 (s.trans s2) d2 _ fun G3 H3 y s3 d3 hy => by
    refine ⟨valV kvs (KeyR.key k), by rw [hk.is hy]; exact DGet.k (d3.at_ hm), q G3 H3 _ (s2.trans s3) d3 ?_⟩
    cases e : mget xs k with
    | none => rw [hx.none e]; rfl
    | some c =>
      obtain ⟨v, h1, h2⟩ := hx.some e
      rw [h1]
      exact Mono.mono (s.trans (s2.trans s3)) h2⟩
end
section
variable {X : Cx} {σ : L2.St} {G : Hp} {cs : Cells} {e : Expr} {kb : Bool → Hp → Cells → Prop}
/-- cells made within a test are let go -/
theorem tc_kd {kb' : Bool → Hp → Cells → Prop} (h : TC X e σ G cs kb') (c : ∀ b G1 cs1, Same G G1 → kb' b G1 cs1 → ∃ loc cs2, cs1.Perm (loc ++ cs2) ∧ kb b G1 cs2) : TC X e σ G cs kb := fun G1 H s d Q q => h G1 H s d Q fun G2 H2 cs2 b s2 d2 hk => by
  obtain ⟨loc, cs3, pm, h3⟩ := c b G2 cs2 (s.trans s2) hk
  exact q G2 H2 cs3 b s2 (d2.perm pm).drop h3
end
section
variable {X : Cx} {σ : L2.St} {G : Hp} {cs : Cells} {k : V → Hp → Cells → Prop} {pos p : Pos}
/-- C() -/
theorem ec_make0 {I O : Type} {pre : I → Hp → Cells → List V → Prop} {post : I → List V → O → Hp → Cells → V → Prop} {mm : I → O} {j l na : Nat} {x : Str} {C : Addr} (F : In0 X.prog X.w X.K X.mg X.base CX0 j C na (SpM pre post mm)) (hm : X.mg x = some (.ref C)) (hr : Room l X.A) (hk : j + 1 ≤ l)
    (ha : ∀ G1, Same G G1 → ∀ a dx, ∃ i mc rest, ((a, HO.ins C dx []) :: (dx, HO.own a) :: cs).Perm (mc ++ rest) ∧ pre i G1 mc [.ref a] ∧ ∀ v G2 mc2, Same G1 G2 → post i [.ref a] (mm i) G2 mc2 v → v = .non ∧ ∃ cs2, (mc2 ++ rest).Perm cs2 ∧ k (.ref a) G2 cs2) (hg : Gl X x := by rfl) (hd : (x == ("__debug__" : Str)) = false := by decide) : EC X (.Call (.Name x p) [] [] pos) σ G cs k := by
  obtain ⟨f, fd, ps, F, M, b, _⟩ := F.ex
  intro G1 H s d Q q
  refine uE (pe_make0 M F (hr.mono hk) hg hm b .nil pass0 (hdb := hd)) ?_
  intro a dx ha0 hdx hne
  obtain ⟨i, mc, rest, pm, hp, hq⟩ := ha G1 s a dx
  have d4 := d.newCell hdx (.own a)
  have ha1 : (upd H dx (.own a)) a = none := by rw [upd_ne hne.symm]; exact ha0
  have d5 := d4.newCell ha1 (.ins C dx [])
  refine ⟨i, G1, mc, rest, d5.perm pm, hp, fun v G4 mc2 H4 s4 d6 hv => ?_⟩
  obtain ⟨ev, cs4, pm4, hk4⟩ := hq v G4 mc2 s4 hv
  exact ⟨ev, q G4 H4 cs4 (.ref a) s4 (d6.perm pm4) hk4⟩
end
section
variable {X : Cx} {σ : L2.St} {G : Hp} {cs : Cells} {o e : Expr} {es : List Expr} {pos p apos : Pos} {P : Hp → V → Prop} {n : Nat} {adr : Fin n → Addr} {Wx : WX}
theorem de_callRq {I O : Type} {res : Except (Fin n) O} {pre : I → Hp → Cells → List V → Prop} {r : I → O → Hp → V → Prop} {m : I → Except (Fin n) O} {Q' : O → Hp → V → Prop} {k j na : Nat} {x : Str} {Ps : Hp → List V → Prop} (i : I) (F : Fn0 X.prog X.w X.K X.mg X.base (L2.CX X.prog X.w) k x na (SpRE adr pre r m)) (tk : Takes X Wx) (hr : Room j X.A) (hk : k ≤ j)
    (ha : A X (e :: es) σ G cs Ps) (hp : ∀ G1 vs, Same G G1 → Ps G1 vs → ∃ mc rest, cs.Perm (mc ++ rest) ∧ pre i G1 mc vs) (hP : ∀ o G v, r i o G v → Q' o G v) (hg : Gl X x := by rfl) (hd : (x == ("__debug__" : Str)) = false := by decide)
    (he : starEach (e :: es) X.env = (false, eval e X.env) :: starEach es X.env := by exact star_plain rfl) (hpl : (backTo pos (starEach es X.env)).any (·.1) = false := by rfl) (hres : m i = res := by rfl) : DE X adr Wx (.Call (.Name x p) (e :: es) [] pos) σ G cs Q' res := by
  subst hres
  exact dx_callR (fun σ => passAt tk σ) i F hr hk ha hp hP hg hd he hpl
theorem de_methRq {I O : Type} {res : Except (Fin n) O} {pre : I → Hp → Cells → List V → Prop} {r : I → O → Hp → V → Prop} {mm : I → Except (Fin n) O} {Q' : O → Hp → V → Prop} {j l na : Nat} {m : Str} {C a dx : Addr} {fs : List (Str × V)} {pl : Sem Bool} {Ps : Hp → List V → Prop} (i : I) (F : Mt0 X.prog X.w X.K X.mg X.base (L2.CX X.prog X.w) j C m na (SpRE adr pre r mm)) (ck : Cls X.K C) (tk : Takes X Wx) (hr : Room l X.A) (hk : j ≤ l)
    (ho : D X o σ G cs (rV (.ref a))) (hc : (a, HO.ins C dx fs) ∈ cs) (hl : fs.lookup m = none)
    (ha : A X (e :: es) σ G cs Ps) (hp : ∀ G1 vs, Same G G1 → Ps G1 vs → ∃ mc rest, cs.Perm (mc ++ rest) ∧ pre i G1 mc (.ref a :: vs)) (hP : ∀ o G v, r i o G v → Q' o G v)
    (hst : starEach (e :: es) X.env = (false, eval e X.env) :: starEach es X.env := by exact star_plain rfl) (hpl : (backTo pos (starEach es X.env)).any (·.1) = false := by rfl)
    (ht : eval (.Call (.Attribute o m apos) (e :: es) [] pos) X.env = (do
      let ov ← eval o X.env
      standAt apos.atName
      let (f, first) ← holding [ov] (getMethod ov m pl)
      callWith pos f first (backTo pos (starEach (e :: es) X.env)) (backToKw pos (keywordEach [] X.env))) := by rfl) (hres : mm i = res := by rfl) : DE X adr Wx (.Call (.Attribute o m apos) (e :: es) [] pos) σ G cs Q' res := by
  subst hres
  exact dx_methR (fun σ => passAt tk σ) i F ck hr hk ho hc hl ha hp hP hst hpl ht
theorem de_methR0q {I O : Type} {res : Except (Fin n) O} {pre : I → Hp → Cells → List V → Prop} {r : I → O → Hp → V → Prop} {mm : I → Except (Fin n) O} {Q' : O → Hp → V → Prop} {j l na : Nat} {m : Str} {C a dx : Addr} {fs : List (Str × V)} {pl : Sem Bool} (i : I) (F : Mt0 X.prog X.w X.K X.mg X.base (L2.CX X.prog X.w) j C m na (SpRE adr pre r mm)) (ck : Cls X.K C) (tk : Takes X Wx) (hr : Room l X.A) (hk : j ≤ l)
    (ho : D X o σ G cs (rV (.ref a))) (hc : (a, HO.ins C dx fs) ∈ cs) (hl : fs.lookup m = none)
    (hp : ∀ G1, Same G G1 → ∃ mc rest, cs.Perm (mc ++ rest) ∧ pre i G1 mc [.ref a]) (hP : ∀ o G v, r i o G v → Q' o G v)
    (ht : eval (.Call (.Attribute o m apos) [] [] pos) X.env = (do
      let ov ← eval o X.env
      standAt apos.atName
      let (f, first) ← holding [ov] (getMethod ov m pl)
      callWith pos f first (backTo pos (starEach [] X.env)) (backToKw pos (keywordEach [] X.env))) := by rfl) (hres : mm i = res := by rfl) : DE X adr Wx (.Call (.Attribute o m apos) [] [] pos) σ G cs Q' res := by
  subst hres
  exact dx_methR0 (fun σ => passAt tk σ) i F ck hr hk ho hc hl hp hP ht
end
end J

namespace Ck47
open PySem L2 PyProof.Rows J
abbrev Users := List ((List Nat) × (List Nat))
/-- each user has one of the roles -/
def Good (U : Users) : Prop := ∀ p ∈ U, p.2 ∈ [[116, 101, 108, 108, 101, 114], [111, 102, 102, 105, 99, 101, 114], [99, 104, 105, 101, 102]]
end Ck47

set_option synthInstance.maxSize 10000
namespace Ck47
open PySem L2 PyProof.Rows J
def nm_ : _root_.Fin 7 → Str := fun i => match i with
  | 0 => "BadValue"
  | 1 => "BadDay"
  | 2 => "Missing"
  | 3 => "Refused"
  | 4 => "Full"
  | 5 => "NotAllowed"
  | 6 => "Damaged"
abbrev nf_Orders : List Str := ["roles", "rules", "placed", "numbers_by_key"]
abbrev Mo_Orders : Type := (List ((List Nat) × (List Nat))) × (List (Int × Int)) × (List Int) × (List (Int × Int))
def k_DIGITS : (List Nat) := [48, 49, 50, 51, 52, 53, 54, 55, 56, 57]
def k_LETTERS : (List Nat) := [97, 98, 99, 100, 101, 102, 103, 104, 105, 106, 107, 108, 109, 110, 111, 112, 113, 114, 115, 116, 117, 118, 119, 120, 121, 122]
def k_ROLES : (List (List Nat)) := [[116, 101, 108, 108, 101, 114], [111, 102, 102, 105, 99, 101, 114], [99, 104, 105, 101, 102]]
def st_law_numbers_1 (z7 : Int) (z35 : (Int × (List Int))) (x42 : Int) : Out Empty (Int × (List Int)) (Int × (List Int)) (List Int) :=
  if (decide (0 < z35.1)) = true then (
          letV (z35.2 ++ [(z35.1 % 4000000007)]) fun numbers_here_51 =>
          letV (z35.1 / 4000000007) fun rest_53 =>
          .nx (rest_53, numbers_here_51)) else (
          letV ((((z7 * 48271) + (x42 * 69621)) + 11) % 2147483647) fun mixed_57 =>
          letV ((((mixed_57 % 46337) + 1) * (((mixed_57 / 46337) + (3 * x42)) + 1)) * 16807) fun mixed_61 =>
          letV (z35.2 ++ [((mixed_61 % 2147483629) / 32)]) fun numbers_here_68 =>
          .nx (z35.1, numbers_here_68))

def b_law_numbers (cell_ : Int) (count_ : Int) : Out Empty Unit Empty (List Int) :=
  letV (2 * cell_) fun seed_1 =>
  (if (decide (seed_1 < 0)) = true then (
    letV ((0 - seed_1) - 1) fun seed_12 =>
    .nx (seed_12)) else (
    .nx (seed_1)) : Out Empty (Int) Empty (List Int)).bind fun z7 =>
  letV 0 fun rest_16 =>
    (if (decide (1000000000000000000 ≤ z7)) = true then (
      letV z7 fun rest_26 =>
      .nx (rest_26)) else (
      .nx (rest_16)) : Out Empty (Int) Empty (List Int)).bind fun z22 =>
    letV ([] : (List Int)) fun numbers_here_30 =>
      (forL (st_law_numbers_1 z7) (z22, numbers_here_30) (rng 0 count_)).bind fun z35 =>
      .rt z35.2

def m_law_numbers (cell_ : Int) (count_ : Int) : (List Int) := (b_law_numbers cell_ count_).val

def pre_law_numbers (K : PySem.W.Frag) : (Int × Int) → Hp → List V → Prop := fun i G vs => ∃ v0_ v1_ : V, vs = [v0_, v1_] ∧ rI i.1 G v0_ ∧ rI i.2 G v1_ ∧ (0 ≤ i.2 ∧ i.2 ≤ 100)

abbrev sp_law_numbers (K : PySem.W.Frag) : Sp := SpP (pre_law_numbers K) (fun _ o => (rL K rI) o) fun i : (Int × Int) => m_law_numbers i.1 i.2

def st_law_text_1 (row_ : (List Int)) (small_1 : (List Nat)) (z21 : ((List Nat))) (x27 : Int) : Out Empty ((List Nat)) ((List Nat)) (List Nat) :=
  letV (small_1 ++ [48, 49, 50, 51, 52, 53, 54, 55, 56, 57]) fun signs_31 =>
    (if ((decide (x27 = 0)) && (decide (0 < ((ixg row_ 15) % 4)))) = true then (
      letV small_1 fun signs_40 =>
      .nx (signs_40)) else (
      .nx (signs_31)) : Out Empty ((List Nat)) ((List Nat)) (List Nat)).bind fun z38 =>
    letV (z21 ++ [(ixg z38 ((ixg row_ (1 + x27)) % (z38.length : Int)))]) fun text_here_44 =>
      .nx (text_here_44)

def b_law_text (row_ : (List Int)) : Out Empty Unit Empty (List Nat) :=
  letV [97, 98, 99, 100, 101, 102, 103, 104, 105, 106, 107, 108, 109, 110, 111, 112, 113, 114, 115, 116, 117, 118, 119, 120, 121, 122] fun small_1 =>
  letV [32, 33, 34, 35, 36, 38, 39, 40, 41, 42, 43, 44, 45, 46, 47, 48, 49, 50, 51, 52, 53, 54, 55, 56, 57, 58, 59, 60, 61, 62, 63, 64, 65, 66, 67, 68, 69, 70, 71, 72, 73, 74, 75, 76, 77, 78, 79, 80, 81, 82, 83, 84, 85, 86, 87, 88, 89, 90, 91, 92, 93, 94, 95, 96] fun every_5 =>
  letV ((every_5 ++ small_1) ++ [123, 124, 125, 126]) fun every_9 =>
  letV ([] : List Nat) fun text_here_13 =>
  letV ((ixg row_ 0) % 15) fun size_17 =>
  (forL (st_law_text_1 row_ small_1) (text_here_13) (rng 0 size_17)).bind fun z21 =>
  (if ((decide (((ixg row_ 16) % 3) = 1)) && (decide (0 < size_17))) = true then (
      letV ((ixg row_ 17) % size_17) fun place_57 =>
      letV (((cutL z21 none (some place_57)) ++ [(ixg every_9 ((ixg row_ 18) % (every_9.length : Int)))]) ++ (cutL z21 (some (place_57 + 1)) none)) fun text_here_61 =>
      .nx (text_here_61)) else (
      .nx (z21)) : Out Empty ((List Nat)) Empty (List Nat)).bind fun z53 =>
    .rt z53

def m_law_text (row_ : (List Int)) : (List Nat) := (b_law_text row_).val

def pre_law_text (K : PySem.W.Frag) : ((List Int)) → Hp → List V → Prop := fun i G vs => ∃ v0_ : V, vs = [v0_] ∧ (rL K rI) i G v0_ ∧ (i.length = 23)

abbrev sp_law_text (K : PySem.W.Frag) : Sp := SpP (pre_law_text K) (fun _ o => rS o) fun i : ((List Int)) => m_law_text i

def b_is_name (text_ : (List Nat)) : Out Empty Unit Empty Bool :=
  if ((!(decide (1 ≤ (text_.length : Int)) && decide ((text_.length : Int) ≤ 12))) || (!decide ((ixg text_ 0) ∈ k_LETTERS))) = true then (.rt false) else
  .rt ((text_.map (fun sign_ : Nat => (((decide (sign_ ∈ k_LETTERS))) || ((decide (sign_ ∈ k_DIGITS)))))).all id)

def m_is_name (text_ : (List Nat)) : Bool := (b_is_name text_).val

def pre_is_name (K : PySem.W.Frag) : ((List Nat)) → Hp → List V → Prop := fun i G vs => ∃ v0_ : V, vs = [v0_] ∧ rS i G v0_ ∧ (i.length ≤ 1000)

abbrev sp_is_name (K : PySem.W.Frag) : Sp := SpP (pre_is_name K) (fun _ o => rB o) fun i : ((List Nat)) => m_is_name i

def st_law_is_name_1 (text_here_ : (List Nat)) (z3 : Unit) (x8 : Int) : Out Empty Unit Unit Bool :=
  letV (decide ((ixg text_here_ x8) ∈ [97, 98, 99, 100, 101, 102, 103, 104, 105, 106, 107, 108, 109, 110, 111, 112, 113, 114, 115, 116, 117, 118, 119, 120, 121, 122])) fun letter_12 =>
      if ((!(letter_12)) && ((decide (x8 = 0)) || (!decide ((ixg text_here_ x8) ∈ [48, 49, 50, 51, 52, 53, 54, 55, 56, 57])))) = true then (.rt false) else
      .nx ()

def b_law_is_name (text_here_ : (List Nat)) : Out Empty Unit Empty Bool :=
  if (!(decide (1 ≤ (text_here_.length : Int)) && decide ((text_here_.length : Int) ≤ 12))) = true then (.rt false) else
  (forL (st_law_is_name_1 text_here_) () (rng 0 (text_here_.length : Int))).bind fun z3 =>
    .rt true

def m_law_is_name (text_here_ : (List Nat)) : Bool := (b_law_is_name text_here_).val

def pre_law_is_name (K : PySem.W.Frag) : ((List Nat)) → Hp → List V → Prop := fun i G vs => ∃ v0_ : V, vs = [v0_] ∧ rS i G v0_ ∧ (i.length ≤ 1000)

abbrev sp_law_is_name (K : PySem.W.Frag) : Sp := SpP (pre_law_is_name K) (fun _ o => rB o) fun i : ((List Nat)) => m_law_is_name i

def b_law_due (users_ : (List ((List Nat) × (List Nat)))) (name_ : (List Nat)) (role_here_ : (List Nat)) : Out Empty Unit Empty (Option (List Nat)) :=
  if ((!((m_law_is_name name_))) || (!(inB role_here_ [[116, 101, 108, 108, 101, 114], [111, 102, 102, 105, 99, 101, 114], [99, 104, 105, 101, 102]]))) = true then (.rt (some [66, 97, 100, 86, 97, 108, 117, 101])) else
  if ((mhas users_ name_)) = true then (.rt (some [82, 101, 102, 117, 115, 101, 100])) else
    .rt none

def m_law_due (users_ : (List ((List Nat) × (List Nat)))) (name_ : (List Nat)) (role_here_ : (List Nat)) : (Option (List Nat)) := (b_law_due users_ name_ role_here_).val

def pre_law_due (K : PySem.W.Frag) : ((List ((List Nat) × (List Nat))) × (List Nat) × (List Nat)) → Hp → Cells → List V → Prop := fun i G mc vs => ∃ v1_ : V, ∃ v2_ : V, ∃ a0_ : Addr, ∃ u0_ : List (Key × V), vs = [.ref a0_, v1_, v2_] ∧ mc = [(a0_, HO.dK u0_)] ∧ Ms rS G i.1 u0_ ∧ rS i.2.1 G v1_ ∧ rS i.2.2 G v2_ ∧ (i.2.1.length ≤ 1000)

abbrev sp_law_due (K : PySem.W.Frag) : Sp := SpR (pre_law_due K) (fun _ o => (rO rS) o) fun i : ((List ((List Nat) × (List Nat))) × (List Nat) × (List Nat)) => m_law_due i.1 i.2.1 i.2.2

def b_law_class (e_ : (_root_.Fin 7)) : Out Empty Unit Empty (List Nat) :=
  letV ([] : (List (List Nat))) fun found_1 =>
  (if ((decide (e_ = 0))) = true then (
    letV (found_1 ++ [[66, 97, 100, 86, 97, 108, 117, 101]]) fun found_14 =>
    .nx (found_14)) else (
    .nx (found_1)) : Out Empty ((List (List Nat))) Empty (List Nat)).bind fun z8 =>
  (if ((decide (e_ = 1))) = true then (
      letV (z8 ++ [[66, 97, 100, 68, 97, 121]]) fun found_24 =>
      .nx (found_24)) else (
      .nx (z8)) : Out Empty ((List (List Nat))) Empty (List Nat)).bind fun z18 =>
    (if ((decide (e_ = 2))) = true then (
        letV (z18 ++ [[77, 105, 115, 115, 105, 110, 103]]) fun found_34 =>
        .nx (found_34)) else (
        .nx (z18)) : Out Empty ((List (List Nat))) Empty (List Nat)).bind fun z28 =>
      (if ((decide (e_ = 3))) = true then (
          letV (z28 ++ [[82, 101, 102, 117, 115, 101, 100]]) fun found_44 =>
          .nx (found_44)) else (
          .nx (z28)) : Out Empty ((List (List Nat))) Empty (List Nat)).bind fun z38 =>
        (if ((decide (e_ = 4))) = true then (
            letV (z38 ++ [[70, 117, 108, 108]]) fun found_54 =>
            .nx (found_54)) else (
            .nx (z38)) : Out Empty ((List (List Nat))) Empty (List Nat)).bind fun z48 =>
          (if ((decide (e_ = 5))) = true then (
              letV (z48 ++ [[78, 111, 116, 65, 108, 108, 111, 119, 101, 100]]) fun found_64 =>
              .nx (found_64)) else (
              .nx (z48)) : Out Empty ((List (List Nat))) Empty (List Nat)).bind fun z58 =>
            (if ((decide (e_ = 6))) = true then (
                letV (z58 ++ [[68, 97, 109, 97, 103, 101, 100]]) fun found_74 =>
                .nx (found_74)) else (
                .nx (z58)) : Out Empty ((List (List Nat))) Empty (List Nat)).bind fun z68 =>
              if ((decide ((z68.length : Int) = 1)) && (true)) = true then (.rt (ixg z68 0)) else
                .rt [111, 100, 100]

def m_law_class (e_ : (_root_.Fin 7)) : (List Nat) := (b_law_class e_).val

abbrev sp_law_class (K : PySem.W.Frag) (adr : _root_.Fin 7 → Addr) : Addr → Addr → Sp := SpK adr (fun o => rS o) m_law_class

def b_check_name (text_ : (List Nat)) : Out (_root_.Fin 7) Unit Empty Unit :=
  if (!((m_is_name text_))) = true then (.er 0) else
  .nx ()

def m_check_name (text_ : (List Nat)) : Except (_root_.Fin 7) Unit := (b_check_name text_).res

def pre_check_name (K : PySem.W.Frag) : ((List Nat)) → Hp → List V → Prop := fun i G vs => ∃ v0_ : V, vs = [v0_] ∧ rS i G v0_ ∧ (i.length ≤ 1000)

abbrev sp_check_name (K : PySem.W.Frag) (adr : _root_.Fin 7 → Addr) : Sp := SpE (cE adr) (pre_check_name K) (fun i o => rN o) fun i : ((List Nat)) => m_check_name i

def b_Orders_add_user (self_ : Mo_Orders) (name_ : (List Nat)) (role_ : (List Nat)) : Out (_root_.Fin 7 × Mo_Orders) (Unit × Mo_Orders) Empty (Unit × Mo_Orders) :=
  callF (m_check_name name_) (self_) fun _o2 =>
  if (!(inB role_ k_ROLES)) = true then (.er (0, (self_))) else
  if ((mhas self_.1 name_)) = true then (.er (3, (self_))) else
    letV (mput self_.1 name_ role_) fun roles_11 =>
      .nx ((), (roles_11, self_.2.1, self_.2.2.1, self_.2.2.2))

def m_Orders_add_user (self_ : Mo_Orders) (name_ : (List Nat)) (role_ : (List Nat)) : Except (_root_.Fin 7 × Mo_Orders) (Unit × Mo_Orders) := (b_Orders_add_user self_ name_ role_).resM

def pre_Orders_add_user (K : PySem.W.Frag) (mg : Str → Option Value) : (Mo_Orders × (List Nat) × (List Nat)) → Hp → Cells → List V → Prop := fun i G mc vs => ∃ v1_ : V, ∃ v2_ : V, ∃ a0_ : Addr, ∃ dx0_ : Addr, ∃ l0_ : Addr, ∃ u0_ : List (Key × V), ∃ l0_2 : Addr, ∃ u0_2 : List (Key × V), ∃ v0_ : V, ∃ l0_3 : Addr, ∃ u0_3 : List (Key × V), vs = [.ref a0_, v1_, v2_] ∧ mc = [(a0_, HO.ins (clA mg "Orders") dx0_ (nf_Orders.zip [.ref l0_, .ref l0_2, v0_, .ref l0_3])), (dx0_, HO.own a0_), (l0_, HO.dK u0_), (l0_2, HO.dK u0_2), (l0_3, HO.dK u0_3)] ∧ Ms rS G i.1.1 u0_ ∧ Ms rI G i.1.2.1 u0_2 ∧ (rL K rI) i.1.2.2.1 G v0_ ∧ Ms rI G i.1.2.2.2 u0_3 ∧ rS i.2.1 G v1_ ∧ rS i.2.2 G v2_ ∧ (i.2.1.length ≤ 1000 ∧ i.1.1.length ≤ 1000)

def post_Orders_add_user (K : PySem.W.Frag) (mg : Str → Option Value) : (Mo_Orders × (List Nat) × (List Nat)) → List V → (Unit × Mo_Orders) → Hp → Cells → V → Prop := fun i vs o G mc v => ∃ v1_ : V, ∃ v2_ : V, ∃ a0_ : Addr, ∃ dx0_ : Addr, ∃ l0_ : Addr, ∃ u0_ : List (Key × V), ∃ l0_2 : Addr, ∃ u0_2 : List (Key × V), ∃ v0_ : V, ∃ l0_3 : Addr, ∃ u0_3 : List (Key × V), vs = [.ref a0_, v1_, v2_] ∧ mc = [(a0_, HO.ins (clA mg "Orders") dx0_ (nf_Orders.zip [.ref l0_, .ref l0_2, v0_, .ref l0_3])), (dx0_, HO.own a0_), (l0_, HO.dK u0_), (l0_2, HO.dK u0_2), (l0_3, HO.dK u0_3)] ∧ Ms rS G o.2.1 u0_ ∧ Ms rI G o.2.2.1 u0_2 ∧ (rL K rI) o.2.2.2.1 G v0_ ∧ Ms rI G o.2.2.2.2 u0_3 ∧ rN o.1 G v

def perr_Orders_add_user (K : PySem.W.Frag) (mg : Str → Option Value) : (Mo_Orders × (List Nat) × (List Nat)) → List V → Mo_Orders → Hp → Cells → Prop := fun i vs s G mc => ∃ v1_ : V, ∃ v2_ : V, ∃ a0_ : Addr, ∃ dx0_ : Addr, ∃ l0_ : Addr, ∃ u0_ : List (Key × V), ∃ l0_2 : Addr, ∃ u0_2 : List (Key × V), ∃ v0_ : V, ∃ l0_3 : Addr, ∃ u0_3 : List (Key × V), vs = [.ref a0_, v1_, v2_] ∧ mc = [(a0_, HO.ins (clA mg "Orders") dx0_ (nf_Orders.zip [.ref l0_, .ref l0_2, v0_, .ref l0_3])), (dx0_, HO.own a0_), (l0_, HO.dK u0_), (l0_2, HO.dK u0_2), (l0_3, HO.dK u0_3)] ∧ Ms rS G s.1 u0_ ∧ Ms rI G s.2.1 u0_2 ∧ (rL K rI) s.2.2.1 G v0_ ∧ Ms rI G s.2.2.2 u0_3

abbrev sp_Orders_add_user (K : PySem.W.Frag) (mg : Str → Option Value) (adr : _root_.Fin 7 → Addr) : Sp := SpME adr (pre_Orders_add_user K mg) (post_Orders_add_user K mg) (perr_Orders_add_user K mg) fun i : (Mo_Orders × (List Nat) × (List Nat)) => m_Orders_add_user i.1 i.2.1 i.2.2

def b_law_add (orders_ : Mo_Orders) (name_ : (List Nat)) (role_here_ : (List Nat)) : Out Empty ((Option (List Nat)) × Mo_Orders) Empty ((Option (List Nat)) × Mo_Orders) :=
  (tryO (ε' := (_root_.Fin 7 × Mo_Orders)) (callX (m_Orders_add_user orders_ name_ role_here_) (fun o42 =>
    .nx (o42.1, o42.2)) (fun t62 => (t62)) : Out (_root_.Fin 7 × Mo_Orders) (Unit × Mo_Orders) Empty ((Option (List Nat)) × Mo_Orders)) (fun k15 => .rt ((some (m_law_class k15.1)), k15.2)) : Out Empty (Unit × Mo_Orders) Empty ((Option (List Nat)) × Mo_Orders)).bind fun z1 =>
  .rt (none, z1.2)

def m_law_add (orders_ : Mo_Orders) (name_ : (List Nat)) (role_here_ : (List Nat)) : ((Option (List Nat)) × Mo_Orders) := (b_law_add orders_ name_ role_here_).valM

def pre_law_add (K : PySem.W.Frag) (mg : Str → Option Value) : (Mo_Orders × (List Nat) × (List Nat)) → Hp → Cells → List V → Prop := fun i G mc vs => ∃ v1_ : V, ∃ v2_ : V, ∃ a0_ : Addr, ∃ dx0_ : Addr, ∃ l0_ : Addr, ∃ u0_ : List (Key × V), ∃ l0_2 : Addr, ∃ u0_2 : List (Key × V), ∃ v0_ : V, ∃ l0_3 : Addr, ∃ u0_3 : List (Key × V), vs = [.ref a0_, v1_, v2_] ∧ mc = [(a0_, HO.ins (clA mg "Orders") dx0_ (nf_Orders.zip [.ref l0_, .ref l0_2, v0_, .ref l0_3])), (dx0_, HO.own a0_), (l0_, HO.dK u0_), (l0_2, HO.dK u0_2), (l0_3, HO.dK u0_3)] ∧ Ms rS G i.1.1 u0_ ∧ Ms rI G i.1.2.1 u0_2 ∧ (rL K rI) i.1.2.2.1 G v0_ ∧ Ms rI G i.1.2.2.2 u0_3 ∧ rS i.2.1 G v1_ ∧ rS i.2.2 G v2_ ∧ (i.2.1.length ≤ 1000 ∧ i.1.1.length ≤ 1000)

def post_law_add (K : PySem.W.Frag) (mg : Str → Option Value) : (Mo_Orders × (List Nat) × (List Nat)) → List V → ((Option (List Nat)) × Mo_Orders) → Hp → Cells → V → Prop := fun i vs o G mc v => ∃ v1_ : V, ∃ v2_ : V, ∃ a0_ : Addr, ∃ dx0_ : Addr, ∃ l0_ : Addr, ∃ u0_ : List (Key × V), ∃ l0_2 : Addr, ∃ u0_2 : List (Key × V), ∃ v0_ : V, ∃ l0_3 : Addr, ∃ u0_3 : List (Key × V), vs = [.ref a0_, v1_, v2_] ∧ mc = [(a0_, HO.ins (clA mg "Orders") dx0_ (nf_Orders.zip [.ref l0_, .ref l0_2, v0_, .ref l0_3])), (dx0_, HO.own a0_), (l0_, HO.dK u0_), (l0_2, HO.dK u0_2), (l0_3, HO.dK u0_3)] ∧ Ms rS G o.2.1 u0_ ∧ Ms rI G o.2.2.1 u0_2 ∧ (rL K rI) o.2.2.2.1 G v0_ ∧ Ms rI G o.2.2.2.2 u0_3 ∧ (rO rS) o.1 G v

abbrev sp_law_add (K : PySem.W.Frag) (mg : Str → Option Value) : Sp := SpM (pre_law_add K mg) (post_law_add K mg) fun i : (Mo_Orders × (List Nat) × (List Nat)) => m_law_add i.1 i.2.1 i.2.2

def b_Orders_role_of (self_ : Mo_Orders) (name_ : (List Nat)) : Out (_root_.Fin 7) Unit Empty (List Nat) :=
  if (!(mhas self_.1 name_)) = true then (.er 2) else
  .rt (mval self_.1 name_)

def m_Orders_role_of (self_ : Mo_Orders) (name_ : (List Nat)) : Except (_root_.Fin 7) (List Nat) := (b_Orders_role_of self_ name_).res

def pre_Orders_role_of (K : PySem.W.Frag) (mg : Str → Option Value) : (Mo_Orders × (List Nat)) → Hp → Cells → List V → Prop := fun i G mc vs => ∃ v1_ : V, ∃ a0_ : Addr, ∃ dx0_ : Addr, ∃ l0_ : Addr, ∃ u0_ : List (Key × V), ∃ l0_2 : Addr, ∃ u0_2 : List (Key × V), ∃ v0_ : V, ∃ l0_3 : Addr, ∃ u0_3 : List (Key × V), vs = [.ref a0_, v1_] ∧ mc = [(a0_, HO.ins (clA mg "Orders") dx0_ (nf_Orders.zip [.ref l0_, .ref l0_2, v0_, .ref l0_3])), (dx0_, HO.own a0_), (l0_, HO.dK u0_), (l0_2, HO.dK u0_2), (l0_3, HO.dK u0_3)] ∧ Ms rS G i.1.1 u0_ ∧ Ms rI G i.1.2.1 u0_2 ∧ (rL K rI) i.1.2.2.1 G v0_ ∧ Ms rI G i.1.2.2.2 u0_3 ∧ rS i.2 G v1_

abbrev sp_Orders_role_of (K : PySem.W.Frag) (mg : Str → Option Value) (adr : _root_.Fin 7 → Addr) : Sp := SpRE adr (pre_Orders_role_of K mg) (fun _ o => rS o) fun i : (Mo_Orders × (List Nat)) => m_Orders_role_of i.1 i.2

def b_law_role (orders_ : Mo_Orders) (name_ : (List Nat)) : Out Empty Unit Empty ((List Nat) ⊕ ((List Nat))) :=
  (tryO (ε' := (_root_.Fin 7)) (callE (m_Orders_role_of orders_ name_) fun answer_12 =>
    .nx (answer_12) : Out (_root_.Fin 7) ((List Nat)) Empty ((List Nat) ⊕ ((List Nat)))) (fun k3 => .rt (Sum.inr ((m_law_class k3)))) : Out Empty ((List Nat)) Empty ((List Nat) ⊕ ((List Nat)))).bind fun z1 =>
  .rt (Sum.inl z1)

def m_law_role (orders_ : Mo_Orders) (name_ : (List Nat)) : ((List Nat) ⊕ ((List Nat))) := (b_law_role orders_ name_).val

def pre_law_role (K : PySem.W.Frag) (mg : Str → Option Value) : (Mo_Orders × (List Nat)) → Hp → Cells → List V → Prop := fun i G mc vs => ∃ v1_ : V, ∃ a0_ : Addr, ∃ dx0_ : Addr, ∃ l0_ : Addr, ∃ u0_ : List (Key × V), ∃ l0_2 : Addr, ∃ u0_2 : List (Key × V), ∃ v0_ : V, ∃ l0_3 : Addr, ∃ u0_3 : List (Key × V), vs = [.ref a0_, v1_] ∧ mc = [(a0_, HO.ins (clA mg "Orders") dx0_ (nf_Orders.zip [.ref l0_, .ref l0_2, v0_, .ref l0_3])), (dx0_, HO.own a0_), (l0_, HO.dK u0_), (l0_2, HO.dK u0_2), (l0_3, HO.dK u0_3)] ∧ Ms rS G i.1.1 u0_ ∧ Ms rI G i.1.2.1 u0_2 ∧ (rL K rI) i.1.2.2.1 G v0_ ∧ Ms rI G i.1.2.2.2 u0_3 ∧ rS i.2 G v1_

abbrev sp_law_role (K : PySem.W.Frag) (mg : Str → Option Value) : Sp := SpR (pre_law_role K mg) (fun _ o => (rSum rS (rT K (c0 rS))) o) fun i : (Mo_Orders × (List Nat)) => m_law_role i.1 i.2

def b_Orders_may (self_ : Mo_Orders) (name_ : (List Nat)) (role_ : (List Nat)) : Out (_root_.Fin 7) Unit Empty Bool :=
  if (!(inB role_ k_ROLES)) = true then (.er 0) else
  if (!(mhas self_.1 name_)) = true then (.rt false) else
    .rt (decide ((idxL k_ROLES role_) ≤ (idxL k_ROLES (mval self_.1 name_))))

def m_Orders_may (self_ : Mo_Orders) (name_ : (List Nat)) (role_ : (List Nat)) : Except (_root_.Fin 7) Bool := (b_Orders_may self_ name_ role_).res

def pre_Orders_may (K : PySem.W.Frag) (mg : Str → Option Value) : (Mo_Orders × (List Nat) × (List Nat)) → Hp → Cells → List V → Prop := fun i G mc vs => ∃ v1_ : V, ∃ v2_ : V, ∃ a0_ : Addr, ∃ dx0_ : Addr, ∃ l0_ : Addr, ∃ u0_ : List (Key × V), ∃ l0_2 : Addr, ∃ u0_2 : List (Key × V), ∃ v0_ : V, ∃ l0_3 : Addr, ∃ u0_3 : List (Key × V), vs = [.ref a0_, v1_, v2_] ∧ mc = [(a0_, HO.ins (clA mg "Orders") dx0_ (nf_Orders.zip [.ref l0_, .ref l0_2, v0_, .ref l0_3])), (dx0_, HO.own a0_), (l0_, HO.dK u0_), (l0_2, HO.dK u0_2), (l0_3, HO.dK u0_3)] ∧ Ms rS G i.1.1 u0_ ∧ Ms rI G i.1.2.1 u0_2 ∧ (rL K rI) i.1.2.2.1 G v0_ ∧ Ms rI G i.1.2.2.2 u0_3 ∧ rS i.2.1 G v1_ ∧ rS i.2.2 G v2_ ∧ (Good i.1.1)

abbrev sp_Orders_may (K : PySem.W.Frag) (mg : Str → Option Value) (adr : _root_.Fin 7 → Addr) : Sp := SpRE adr (pre_Orders_may K mg) (fun _ o => rB o) fun i : (Mo_Orders × (List Nat) × (List Nat)) => m_Orders_may i.1 i.2.1 i.2.2

def b_law_may (orders_ : Mo_Orders) (name_ : (List Nat)) (role_here_ : (List Nat)) : Out Empty Unit Empty (Bool ⊕ (List Nat)) :=
  (tryO (ε' := (_root_.Fin 7)) (callE (m_Orders_may orders_ name_ role_here_) fun answer_12 =>
    .nx (answer_12) : Out (_root_.Fin 7) (Bool) Empty (Bool ⊕ (List Nat))) (fun k3 => .rt (Sum.inr (m_law_class k3))) : Out Empty (Bool) Empty (Bool ⊕ (List Nat))).bind fun z1 =>
  .rt (Sum.inl z1)

def m_law_may (orders_ : Mo_Orders) (name_ : (List Nat)) (role_here_ : (List Nat)) : (Bool ⊕ (List Nat)) := (b_law_may orders_ name_ role_here_).val

def pre_law_may (K : PySem.W.Frag) (mg : Str → Option Value) : (Mo_Orders × (List Nat) × (List Nat)) → Hp → Cells → List V → Prop := fun i G mc vs => ∃ v1_ : V, ∃ v2_ : V, ∃ a0_ : Addr, ∃ dx0_ : Addr, ∃ l0_ : Addr, ∃ u0_ : List (Key × V), ∃ l0_2 : Addr, ∃ u0_2 : List (Key × V), ∃ v0_ : V, ∃ l0_3 : Addr, ∃ u0_3 : List (Key × V), vs = [.ref a0_, v1_, v2_] ∧ mc = [(a0_, HO.ins (clA mg "Orders") dx0_ (nf_Orders.zip [.ref l0_, .ref l0_2, v0_, .ref l0_3])), (dx0_, HO.own a0_), (l0_, HO.dK u0_), (l0_2, HO.dK u0_2), (l0_3, HO.dK u0_3)] ∧ Ms rS G i.1.1 u0_ ∧ Ms rI G i.1.2.1 u0_2 ∧ (rL K rI) i.1.2.2.1 G v0_ ∧ Ms rI G i.1.2.2.2 u0_3 ∧ rS i.2.1 G v1_ ∧ rS i.2.2 G v2_ ∧ (Good i.1.1)

abbrev sp_law_may (K : PySem.W.Frag) (mg : Str → Option Value) : Sp := SpR (pre_law_may K mg) (fun _ o => (rSum rB rS) o) fun i : (Mo_Orders × (List Nat) × (List Nat)) => m_law_may i.1 i.2.1 i.2.2

def st_law_asked_1 (orders_ : Mo_Orders) (users_ : (List ((List Nat) × (List Nat)))) (name_ : (List Nat)) (ranks_1 : (List (List Nat))) (z19 : Unit) (x25 : Int) : Out Empty Unit Unit Bool :=
  letV ((((mhas users_ name_))) && ((decide (x25 ≤ (idxL ranks_1 (mval users_ name_)))))) fun allowed_30 =>
      letV (m_law_may orders_ name_ (ixg ranks_1 x25)) fun told_34 =>
      if ((!((kSum true false told_34))) || (!decide (told_34 = (Sum.inl allowed_30)))) = true then (.rt false) else
      .nx ()

def b_law_asked (orders_ : Mo_Orders) (users_ : (List ((List Nat) × (List Nat)))) (name_ : (List Nat)) : Out Empty Unit Empty Bool :=
  letV [[116, 101, 108, 108, 101, 114], [111, 102, 102, 105, 99, 101, 114], [99, 104, 105, 101, 102]] fun ranks_1 =>
  letV (m_law_role orders_ name_) fun told_5 =>
  (if (!(mhas users_ name_)) = true then (
    if (!decide (told_5 = (Sum.inr ([77, 105, 115, 115, 105, 110, 103])))) = true then (.rt false) else
    .nx ()) else (
    if ((!((kSum true false told_5))) || (!decide (told_5 = (Sum.inl (mval users_ name_))))) = true then (.rt false) else
    .nx ()) : Out Empty Unit Empty Bool).bind fun z11 =>
  (forL (st_law_asked_1 orders_ users_ name_ ranks_1) () (rng 0 3)).bind fun z19 =>
    .rt (((decide ((m_law_may orders_ name_ [84, 101, 108, 108, 101, 114]) = (Sum.inr [66, 97, 100, 86, 97, 108, 117, 101])))) && ((decide ((m_law_may orders_ name_ ([] : List Nat)) = (Sum.inr [66, 97, 100, 86, 97, 108, 117, 101])))))

def m_law_asked (orders_ : Mo_Orders) (users_ : (List ((List Nat) × (List Nat)))) (name_ : (List Nat)) : Bool := (b_law_asked orders_ users_ name_).val

def pre_law_asked (K : PySem.W.Frag) (mg : Str → Option Value) : (Mo_Orders × (List ((List Nat) × (List Nat))) × (List Nat)) → Hp → Cells → List V → Prop := fun i G mc vs => ∃ v2_ : V, ∃ a0_ : Addr, ∃ dx0_ : Addr, ∃ l0_ : Addr, ∃ u0_ : List (Key × V), ∃ l0_2 : Addr, ∃ u0_2 : List (Key × V), ∃ v0_ : V, ∃ l0_3 : Addr, ∃ u0_3 : List (Key × V), ∃ a1_ : Addr, ∃ u1_ : List (Key × V), vs = [.ref a0_, .ref a1_, v2_] ∧ mc = [(a0_, HO.ins (clA mg "Orders") dx0_ (nf_Orders.zip [.ref l0_, .ref l0_2, v0_, .ref l0_3])), (dx0_, HO.own a0_), (l0_, HO.dK u0_), (l0_2, HO.dK u0_2), (l0_3, HO.dK u0_3), (a1_, HO.dK u1_)] ∧ Ms rS G i.1.1 u0_ ∧ Ms rI G i.1.2.1 u0_2 ∧ (rL K rI) i.1.2.2.1 G v0_ ∧ Ms rI G i.1.2.2.2 u0_3 ∧ Ms rS G i.2.1 u1_ ∧ rS i.2.2 G v2_ ∧ (Good i.1.1 ∧ Good i.2.1)

abbrev sp_law_asked (K : PySem.W.Frag) (mg : Str → Option Value) : Sp := SpR (pre_law_asked K mg) (fun _ o => rB o) fun i : (Mo_Orders × (List ((List Nat) × (List Nat))) × (List Nat)) => m_law_asked i.1 i.2.1 i.2.2

def b_Orders___init__ : Out Empty (Unit × Mo_Orders) Empty (Unit × Mo_Orders) :=
  letV [] fun roles_1 =>
  letV [] fun rules_5 =>
  letV ([] : (List Int)) fun placed_9 =>
  letV [] fun numbers_by_key_13 =>
  .nx ((), (roles_1, rules_5, placed_9, numbers_by_key_13))

def m_Orders___init__ : (Unit × Mo_Orders) := (b_Orders___init__).valM

def pre_Orders___init__ (K : PySem.W.Frag) (mg : Str → Option Value) : Unit → Hp → Cells → List V → Prop := fun i G mc vs => ∃ a0_ : Addr, ∃ dx0_ : Addr, vs = [.ref a0_] ∧ mc = [(a0_, HO.ins (clA mg "Orders") dx0_ (nf_Orders.zip [])), (dx0_, HO.own a0_)]

def post_Orders___init__ (K : PySem.W.Frag) (mg : Str → Option Value) : Unit → List V → (Unit × Mo_Orders) → Hp → Cells → V → Prop := fun i vs o G mc v => ∃ a0_ : Addr, ∃ dx0_ : Addr, ∃ l0_ : Addr, ∃ u0_ : List (Key × V), ∃ l0_2 : Addr, ∃ u0_2 : List (Key × V), ∃ v0_ : V, ∃ l0_3 : Addr, ∃ u0_3 : List (Key × V), vs = [.ref a0_] ∧ mc = [(a0_, HO.ins (clA mg "Orders") dx0_ (nf_Orders.zip [.ref l0_, .ref l0_2, v0_, .ref l0_3])), (dx0_, HO.own a0_), (l0_, HO.dK u0_), (l0_2, HO.dK u0_2), (l0_3, HO.dK u0_3)] ∧ Ms rS G o.2.1 u0_ ∧ Ms rI G o.2.2.1 u0_2 ∧ (rL K rI) o.2.2.2.1 G v0_ ∧ Ms rI G o.2.2.2.2 u0_3 ∧ rN o.1 G v

abbrev sp_Orders___init__ (K : PySem.W.Frag) (mg : Str → Option Value) : Sp := SpM (pre_Orders___init__ K mg) (post_Orders___init__ K mg) fun i : Unit => m_Orders___init__

def st_law_1 (r30 : (Unit × Mo_Orders)) (z64 : (Mo_Orders × (List ((List Nat) × (List Nat))) × (List (List Nat)))) (x89 : Int) : Out Empty (Mo_Orders × (List ((List Nat) × (List Nat))) × (List (List Nat))) (Mo_Orders × (List ((List Nat) × (List Nat))) × (List (List Nat))) Bool :=
  letV (m_law_numbers x89 23) fun row_93 =>
      letV (m_law_text row_93) fun name_97 =>
      (if ((decide (0 < z64.2.2.length)) && (decide (((ixg row_93 19) % 4) = 0))) = true then (
        letV (ixg z64.2.2 ((ixg row_93 20) % (z64.2.2.length : Int))) fun name_108 =>
        .nx (name_108)) else (
        .nx (name_97)) : Out Empty ((List Nat)) (Mo_Orders × (List ((List Nat) × (List Nat))) × (List (List Nat))) Bool).bind fun z104 =>
      letV (z64.2.2 ++ [z104]) fun tried_115 =>
        letV (ixg [([116, 101, 108, 108, 101, 114], [111, 102, 102, 105, 99, 101, 114], [99, 104, 105, 101, 102], [99, 104, 105, 101], [116, 101, 108, 108, 101, 114, 115], ([] : List Nat), [99, 104, 105, 101, 102], [111, 102, 102, 105, 99, 101, 114]).1, ([116, 101, 108, 108, 101, 114], [111, 102, 102, 105, 99, 101, 114], [99, 104, 105, 101, 102], [99, 104, 105, 101], [116, 101, 108, 108, 101, 114, 115], ([] : List Nat), [99, 104, 105, 101, 102], [111, 102, 102, 105, 99, 101, 114]).2.1, ([116, 101, 108, 108, 101, 114], [111, 102, 102, 105, 99, 101, 114], [99, 104, 105, 101, 102], [99, 104, 105, 101], [116, 101, 108, 108, 101, 114, 115], ([] : List Nat), [99, 104, 105, 101, 102], [111, 102, 102, 105, 99, 101, 114]).2.2.1, ([116, 101, 108, 108, 101, 114], [111, 102, 102, 105, 99, 101, 114], [99, 104, 105, 101, 102], [99, 104, 105, 101], [116, 101, 108, 108, 101, 114, 115], ([] : List Nat), [99, 104, 105, 101, 102], [111, 102, 102, 105, 99, 101, 114]).2.2.2.1, ([116, 101, 108, 108, 101, 114], [111, 102, 102, 105, 99, 101, 114], [99, 104, 105, 101, 102], [99, 104, 105, 101], [116, 101, 108, 108, 101, 114, 115], ([] : List Nat), [99, 104, 105, 101, 102], [111, 102, 102, 105, 99, 101, 114]).2.2.2.2.1, ([116, 101, 108, 108, 101, 114], [111, 102, 102, 105, 99, 101, 114], [99, 104, 105, 101, 102], [99, 104, 105, 101], [116, 101, 108, 108, 101, 114, 115], ([] : List Nat), [99, 104, 105, 101, 102], [111, 102, 102, 105, 99, 101, 114]).2.2.2.2.2.1, ([116, 101, 108, 108, 101, 114], [111, 102, 102, 105, 99, 101, 114], [99, 104, 105, 101, 102], [99, 104, 105, 101], [116, 101, 108, 108, 101, 114, 115], ([] : List Nat), [99, 104, 105, 101, 102], [111, 102, 102, 105, 99, 101, 114]).2.2.2.2.2.2.1, ([116, 101, 108, 108, 101, 114], [111, 102, 102, 105, 99, 101, 114], [99, 104, 105, 101, 102], [99, 104, 105, 101], [116, 101, 108, 108, 101, 114, 115], ([] : List Nat), [99, 104, 105, 101, 102], [111, 102, 102, 105, 99, 101, 114]).2.2.2.2.2.2.2] ((ixg row_93 21) % 8)) fun role_here_117 =>
        letV (m_is_name z104) fun told_121 =>
        if ((!(true)) || (!decide (told_121 = (m_law_is_name z104)))) = true then (.rt false) else
        letV (m_law_due z64.2.1 z104 role_here_117) fun due_here_128 =>
          letV (m_law_add z64.1 z104 role_here_117) fun r140 =>
          letV r140.1 fun told_165 =>
          (if (due_here_128.isNone) = true then (
            if (!told_165.isNone) = true then (.rt false) else
            letV (mput z64.2.1 z104 role_here_117) fun users_178 =>
              .nx (users_178)) else (
            if (!decide (told_165 = due_here_128)) = true then (.rt false) else
            .nx (z64.2.1)) : Out Empty ((List ((List Nat) × (List Nat)))) (Mo_Orders × (List ((List Nat) × (List Nat))) × (List (List Nat))) Bool).bind fun z169 =>
          letV (if (!((m_law_asked r140.2 z169 z104))) = true then (true) else (letV (m_law_asked r30.2 ([] : (List ((List Nat) × (List Nat)))) z104) fun r194 => !(r194))) fun t183 =>
            if (t183) = true then (.rt false) else
            .nx (r140.2, z169, tried_115)

def st_law_2 (z64 : (Mo_Orders × (List ((List Nat) × (List Nat))) × (List (List Nat)))) (z208 : Unit) (x217 : (List Nat)) : Out Empty Unit Unit Bool :=
  if (!((m_law_asked z64.1 z64.2.1 x217))) = true then (.rt false) else
        .nx ()

def b_law (script_ : (List Int)) : Out Empty Unit Empty Bool :=
  letV m_Orders___init__ fun r4 =>
  letV m_Orders___init__ fun r30 =>
  letV ([] : (List ((List Nat) × (List Nat)))) fun users_53 =>
  letV ([] : (List (List Nat))) fun tried_56 =>
  if ((!decide (k_ROLES = [[116, 101, 108, 108, 101, 114], [111, 102, 102, 105, 99, 101, 114], [99, 104, 105, 101, 102]])) || (!(true))) = true then (.rt false) else
  (forL (st_law_1 r30) (r4.2, users_53, tried_56) ([5] ++ (cutL script_ none (some 63)))).bind fun z64 =>
    (forL (st_law_2 z64) () z64.2.2).bind fun z208 =>
      .rt true

def m_law (script_ : (List Int)) : Bool := (b_law script_).val

def pre_law (K : PySem.W.Frag) : ((List Int)) → Hp → List V → Prop := fun i G vs => ∃ v0_ : V, vs = [v0_] ∧ (rL K rI) i G v0_ ∧ (i.length ≤ 63)

abbrev sp_law (K : PySem.W.Frag) : Sp := SpP (pre_law K) (fun _ o => rB o) fun i : ((List Int)) => m_law i
end Ck47

namespace Ck47
open PySem L2 PyProof.Rows J
/-! ### numbers, texts -/
theorem num_step (z7 : Int) (s : Int × List Int) (x : Int) : ∃ s', st_law_numbers_1 z7 s x = .nx s' ∧ s'.2.length = s.2.length + 1 := by
  unfold st_law_numbers_1 letV
  split
  · exact ⟨_, rfl, by simp⟩
  · exact ⟨_, rfl, by simp⟩
theorem numbers_len (c : Int) : (m_law_numbers c 23).length = 23 := by
  let Q : Out Empty Unit Empty (List Int) → Prop := fun o => o.val.length = 23
  show Q (b_law_numbers c 23)
  unfold b_law_numbers
  refine letV_p fun seed _ => ?_
  refine bind_p (fun _ => True) ?_ fun z _ => letV_p fun r _ => bind_p (fun _ => True) ?_ fun z2 _ => letV_p fun l el => bind_p (fun s => s.2.length = 23) ?_ fun s hs => hs
  · unfold letV; split <;> exact ⟨_, rfl, trivial⟩
  · unfold letV; split <;> exact ⟨_, rfl, trivial⟩
  · obtain ⟨s, e, h⟩ := forL_inv (ε := Empty) (L := Empty) (R := List Int) (f := st_law_numbers_1 z) (fun n s => s.2.length = n) (xs := rng 0 23) (s := (z2, l)) (n := 0) (by rw [el]; rfl) fun n s x _ h => by
      obtain ⟨s', e, h'⟩ := num_step z s x
      exact ⟨s', e, by omega⟩
    exact ⟨s, e, by show s.2.length = 23; rw [h, rng_length]; rfl⟩
theorem text_step (row : List Int) (small z : List Nat) (x : Int) : ∃ z', st_law_text_1 row small z x = .nx z' ∧ z'.length = z.length + 1 := by
  unfold st_law_text_1 letV
  split
  · exact ⟨_, rfl, by simp⟩
  · exact ⟨_, rfl, by simp⟩
theorem text_len (row : List Int) : (m_law_text row).length ≤ 100 := by
  let Q : Out Empty Unit Empty (List Nat) → Prop := fun o => o.val.length ≤ 100
  show Q (b_law_text row)
  unfold b_law_text
  refine letV_p fun small _ => letV_p fun e1 _ => letV_p fun every _ => letV_p fun t0 et => letV_p fun size es => ?_
  have hs : 0 ≤ size ∧ size ≤ 14 := by rw [es]; omega
  refine bind_p (fun z => z.length ≤ 15) ?_ fun z hz => bind_p (fun z => z.length ≤ 100) ?_ fun z hz => hz
  · obtain ⟨s, e, h⟩ := forL_inv (ε := Empty) (L := Empty) (R := List Nat) (f := st_law_text_1 row small) (fun n s => s.length = n) (xs := rng 0 size) (s := t0) (n := 0) (by rw [et]; rfl) fun n s x _ h => by
      obtain ⟨s', e, h'⟩ := text_step row small s x
      exact ⟨s', e, by omega⟩
    exact ⟨s, e, by show s.length ≤ 15; rw [h, rng_length]; omega⟩
  · unfold letV
    split
    · refine ⟨_, rfl, ?_⟩
      have q1 := cutL_le z none (some (ixg row 17 % size))
      have q2 := cutL_le z (some (ixg row 17 % size + 1)) none
      simp only [List.length_append, List.length_cons, List.length_nil]
      omega
    · exact ⟨_, rfl, by omega⟩
/-! ### names -/
theorem forL_test {α : Type} {f : Unit → α → Out Empty Unit Unit Bool} (b : α → Bool) : ∀ xs : List α, (∀ x ∈ xs, f () x = if b x = true then .nx () else .rt false) → (forL f () xs : Out Empty Unit Empty Bool) = if xs.all b = true then .nx () else .rt false
  | [], _ => rfl
  | x :: xs, h => by
    rw [forL_cons, h x List.mem_cons_self, List.all_cons]
    cases b x with
    | false => rfl
    | true => exact forL_test b xs fun y hy => h y (List.mem_cons_of_mem _ hy)
def Small (c : Nat) : Bool := decide (c ∈ k_LETTERS)
def Digit (c : Nat) : Bool := decide (c ∈ k_DIGITS)
theorem is_name_is (s : List Nat) : m_is_name s = true ↔ (1 ≤ s.length ∧ s.length ≤ 12) ∧ Small (ixg s 0) = true ∧ ∀ c ∈ s, Small c = true ∨ Digit c = true := by
  unfold m_is_name b_is_name Small Digit
  by_cases h : ((!(decide (1 ≤ (s.length : Int)) && decide ((s.length : Int) ≤ 12))) || (!decide ((ixg s 0) ∈ k_LETTERS))) = true
  · rw [if_pos h]
    constructor
    · intro q; cases q
    · intro ⟨⟨h1, h2⟩, h3, _⟩
      rw [decide_eq_true_eq] at h3
      simp [h3] at h
      omega
  · rw [if_neg h]
    show List.all _ id = true ↔ _
    rw [List.all_map, List.all_eq_true]
    simp only [Bool.or_eq_true, not_or, Bool.not_eq_true, Bool.not_eq_false', Bool.and_eq_true, decide_eq_true_eq] at h
    constructor
    · intro q
      exact ⟨by omega, by simpa using h.2, fun c hc => by simpa using q c hc⟩
    · intro q c hc
      simpa using q.2.2 c hc
def okAt (s : List Nat) (k : Int) : Bool := Small (ixg s k) || (!decide (k = 0) && Digit (ixg s k))
theorem law_is_name_is (s : List Nat) : m_law_is_name s = true ↔ (1 ≤ s.length ∧ s.length ≤ 12) ∧ ∀ k, 0 ≤ k → k < (s.length : Int) → okAt s k = true := by
  unfold m_law_is_name b_law_is_name
  by_cases h : (!(decide (1 ≤ (s.length : Int)) && decide ((s.length : Int) ≤ 12))) = true
  · rw [if_pos h]
    constructor
    · intro q; cases q
    · intro ⟨⟨h1, h2⟩, _⟩
      simp at h
      omega
  · rw [if_neg h, forL_test (okAt s) _ fun k _ => by
      unfold st_law_is_name_1 letV okAt
      have e1 : (decide ((ixg s k) ∈ [97, 98, 99, 100, 101, 102, 103, 104, 105, 106, 107, 108, 109, 110, 111, 112, 113, 114, 115, 116, 117, 118, 119, 120, 121, 122])) = Small (ixg s k) := rfl
      have e2 : (decide ((ixg s k) ∈ [48, 49, 50, 51, 52, 53, 54, 55, 56, 57])) = Digit (ixg s k) := rfl
      rw [e1, e2]
      cases Small (ixg s k) <;> cases Digit (ixg s k) <;> cases decide (k = 0) <;> rfl]
    simp only [Bool.not_eq_true, Bool.not_eq_false', Bool.and_eq_true, decide_eq_true_eq] at h
    have hl : 1 ≤ s.length ∧ s.length ≤ 12 := by omega
    by_cases q : ((rng 0 (s.length : Int)).all (okAt s)) = true
    · rw [if_pos q]
      exact ⟨fun _ => ⟨hl, fun k h0 h1 => List.all_eq_true.mp q k (rng_mem.mpr ⟨h0, h1⟩)⟩, fun _ => rfl⟩
    · rw [if_neg q]
      constructor
      · intro z; cases z
      · intro ⟨_, z⟩
        exact absurd (List.all_eq_true.mpr fun k hk => z k (rng_mem.mp hk).1 (rng_mem.mp hk).2) q
theorem name_eq (s : List Nat) : m_is_name s = m_law_is_name s := by
  rw [Bool.eq_iff_iff, is_name_is, law_is_name_is]
  constructor
  · intro ⟨h1, h2, h3⟩
    refine ⟨h1, fun k g0 g1 => ?_⟩
    unfold okAt
    by_cases hk : k = 0
    · subst hk; rw [h2]; rfl
    · rcases h3 _ (ixg_mem g0 g1) with q | q
      · rw [q]; rfl
      · rw [q, decide_eq_false hk]; simp
  · intro ⟨h1, h2⟩
    refine ⟨h1, ?_, fun c hc => ?_⟩
    · have q := h2 0 (by omega) (by omega)
      unfold okAt at q
      simpa using q
    · obtain ⟨j, hj, e⟩ := List.getElem_of_mem hc
      have q := h2 (j : Int) (by omega) (by omega)
      have e2 : ixg s (j : Int) = c := by
        rw [ixg_nat (by omega) (by omega), ← e]
        simp [List.getD, hj]
      unfold okAt at q
      rw [e2] at q
      cases h3 : Small c with
      | true => exact .inl rfl
      | false =>
        rw [h3] at q
        simp only [Bool.false_or, Bool.and_eq_true] at q
        exact .inr q.2
/-! ### users -/
theorem mval_mem {U : Users} {n : List Nat} (h : mhas U n = true) : ∃ p ∈ U, p.2 = mval U n := by
  unfold mhas mget at h
  unfold mval mget
  cases e : U.find? (fun p => decide (p.1 = n)) with
  | none => rw [e] at h; cases h
  | some p => exact ⟨p, List.mem_of_find?_eq_some e, rfl⟩
theorem Good.val {U : Users} {n : List Nat} (g : Good U) (h : mhas U n = true) : mval U n ∈ k_ROLES := by
  obtain ⟨p, hp, e⟩ := mval_mem h
  rw [← e]
  exact g p hp
theorem Good.put {U : Users} {n r : List Nat} (g : Good U) (h : r ∈ k_ROLES) : Good (mput U n r) := by
  unfold mput
  split
  · intro p hp
    obtain ⟨q, hq, e⟩ := List.mem_map.mp hp
    split at e
    · rw [← e]; exact h
    · rw [← e]; exact g q hq
  · intro p hp
    rcases List.mem_append.mp hp with q | q
    · exact g p q
    · rw [List.mem_singleton.mp q]; exact h
theorem roles_plain : ∀ r ∈ k_ROLES, ∀ c ∈ r, c < 1114112 := by decide +kernel
abbrev sBV : List Nat := [66, 97, 100, 86, 97, 108, 117, 101]
abbrev sRF : List Nat := [82, 101, 102, 117, 115, 101, 100]
abbrev sMI : List Nat := [77, 105, 115, 115, 105, 110, 103]
theorem cls0 : m_law_class 0 = sBV := rfl
theorem cls2 : m_law_class 2 = sMI := rfl
theorem cls3 : m_law_class 3 = sRF := rfl
theorem role_is (o : Mo_Orders) (n : List Nat) : m_law_role o n = if mhas o.1 n = true then .inl (mval o.1 n) else .inr sMI := by
  unfold m_law_role b_law_role m_Orders_role_of b_Orders_role_of
  cases h : mhas o.1 n with
  | true => rfl
  | false => rfl
theorem may_is (o : Mo_Orders) (n r : List Nat) : m_law_may o n r = if inB r k_ROLES = true then .inl (mhas o.1 n && decide (idxL k_ROLES r ≤ idxL k_ROLES (mval o.1 n))) else .inr sBV := by
  unfold m_law_may b_law_may m_Orders_may b_Orders_may
  cases h : inB r k_ROLES with
  | true =>
    cases h2 : mhas o.1 n with
    | true => rfl
    | false => rfl
  | false => rfl
theorem add_is (o : Mo_Orders) (n r : List Nat) : m_law_add o n r = if (m_is_name n && inB r k_ROLES) = true then (if mhas o.1 n = true then (some sRF, o) else (none, (mput o.1 n r, o.2.1, o.2.2.1, o.2.2.2))) else (some sBV, o) := by
  unfold m_law_add b_law_add m_Orders_add_user b_Orders_add_user m_check_name b_check_name
  cases h : m_is_name n with
  | true =>
    cases h1 : inB r k_ROLES with
    | true =>
      cases h2 : mhas o.1 n with
      | true => rfl
      | false => rfl
    | false => rfl
  | false => rfl
theorem due_is (U : Users) (n r : List Nat) : m_law_due U n r = if (m_is_name n && inB r k_ROLES) = true then (if mhas U n = true then some sRF else none) else some sBV := by
  unfold m_law_due b_law_due
  rw [name_eq]
  show Out.val (if ((!((m_law_is_name n))) || (!(inB r k_ROLES))) = true then _ else _) = _
  cases h : m_law_is_name n with
  | true =>
    cases h1 : inB r k_ROLES with
    | true =>
      cases h2 : mhas U n with
      | true => rfl
      | false => rfl
    | false => rfl
  | false => rfl
/-- what adding does, and what is due -/
theorem add_due {o : Mo_Orders} {U : Users} (n r : List Nat) (h : o.1 = U) (g : Good U) : (m_law_add o n r).1 = m_law_due U n r ∧ (m_law_add o n r).2.1 = (if (m_law_due U n r).isNone = true then mput U n r else U) ∧ Good (m_law_add o n r).2.1 := by
  subst h
  rw [add_is, due_is]
  split
  · rename_i h1
    rw [Bool.and_eq_true] at h1
    split
    · exact ⟨rfl, rfl, g⟩
    · exact ⟨rfl, rfl, g.put (inB_iff.mp h1.2)⟩
  · exact ⟨rfl, rfl, g⟩
theorem due_ok (U : Users) (n r : List Nat) {x : Option (List Nat)} (h : x = m_law_due U n r) : ∀ z, x = some z → ∀ c ∈ z, c < 1114112 := by
  rw [h, due_is]
  intro z hz
  split at hz
  · split at hz
    · cases hz; decide +kernel
    · cases hz
  · cases hz; decide +kernel
variable {K : PySem.W.Frag}
theorem okO {x : Option (List Nat)} (h : ∀ z, x = some z → ∀ c ∈ z, c < 1114112) : (inferInstance : EqR K (rO rS)).ok x := by
  cases x with
  | none => exact trivial
  | some z => exact h z rfl
theorem ok_role {o : Mo_Orders} {n : List Nat} (g : Good o.1) : (inferInstance : EqR K (rSum rS (rT K (c0 rS)))).ok (m_law_role o n) := by
  rw [role_is]
  cases h : mhas o.1 n with
  | true => exact roles_plain _ (g.val h)
  | false => show ∀ c ∈ sMI, c < 1114112; decide +kernel
theorem ok_inl {z : List Nat} (h : ∀ c ∈ z, c < 1114112) : (inferInstance : EqR K (rSum rS (rT K (c0 rS)))).ok (.inl z) := h
theorem ok_may {o : Mo_Orders} {n r : List Nat} : (inferInstance : EqR K (rSum rB rS)).ok (m_law_may o n r) := by
  rw [may_is]
  cases h : inB r k_ROLES with
  | true => exact trivial
  | false => show ∀ c ∈ sBV, c < 1114112; decide +kernel
theorem ok_bool {b : Bool} : (inferInstance : EqR K (rSum rB rS)).ok (.inl b) := trivial
theorem inv_start {r : Unit × Mo_Orders} {U : Users} {T : List (List Nat)} (e1 : r = m_Orders___init__) (e2 : U = []) (e3 : T = []) : (r.2.1 = U ∧ Good U) ∧ (U.length ≤ 0 ∧ T.length = 0 ∧ ∀ t ∈ T, t.length ≤ 100) := by
  subst e1 e2 e3
  exact ⟨⟨rfl, fun p h => by cases h⟩, Nat.le_refl 0, rfl, fun t h => by cases h⟩
theorem join_ok {S : Type} {d told : Option (List Nat)} {U z : Users} {n r : List Nat} (h : (if d.isNone = true then (if (!told.isNone) = true then .rt false else letV (mput U n r) fun u => .nx u) else (if (!decide (told = d)) = true then .rt false else .nx U) : Out Empty Users S Bool) = .nx z) : (if d.isNone = true then mput U n r else U) = z := by
  unfold letV at h
  split at h
  · rename_i q
    rw [if_pos q]
    split at h
    · cases h
    · cases h; rfl
  · rename_i q
    rw [if_neg q]
    split at h
    · cases h
    · cases h; rfl
theorem tried_ok {T : List (List Nat)} {x : List Nat} (h : ∀ t ∈ T, t.length ≤ 100) (hx : x.length ≤ 100) : ∀ t ∈ T ++ [x], t.length ≤ 100 := fun t ht => by
  rcases List.mem_append.mp ht with q | q
  · exact h t q
  · rw [List.mem_singleton.mp q]; exact hx
end Ck47

namespace Ck47
open PySem L2 PyProof.Rows J
def LQ (m : Out Empty Unit Empty Bool) : Prop := m.val = true
theorem rank_at (k : Int) (h0 : 0 ≤ k) (h1 : k < 3) : inB (ixg k_ROLES k) k_ROLES = true ∧ idxL k_ROLES (ixg k_ROLES k) = k := by
  have : k = 0 ∨ k = 1 ∨ k = 2 := by omega
  rcases this with e | e | e <;> subst e <;> exact ⟨rfl, rfl⟩
theorem asked_true (o : Mo_Orders) (U : Users) (n : List Nat) (h : o.1 = U) : m_law_asked o U n = true := by
  subst h
  show LQ (b_law_asked o o.1 n)
  unfold b_law_asked
  refine letV_p fun ranks er => letV_p fun told et => ?_
  rw [role_is] at et
  refine bind_p (fun _ => True) ?_ fun _ _ => ?_
  · rw [et]
    cases hh : mhas o.1 n with
    | true =>
      rw [if_neg (by simp), if_pos rfl, if_neg (by simp [kSum])]
      exact ⟨_, rfl, trivial⟩
    | false =>
      rw [if_pos (show (!false) = true from rfl), if_neg (show ¬ (false = true) by simp), if_neg (by simp)]
      exact ⟨_, rfl, trivial⟩
  have er' : ranks = k_ROLES := er
  refine bind_p (fun _ => True) ?_ fun _ _ => ?_
  · obtain ⟨s, e, _⟩ := forL_all (ε := Empty) (L := Empty) (R := Bool) (f := st_law_asked_1 o o.1 n ranks) (fun _ => True) (xs := rng 0 3) (s := ()) trivial fun s k hk _ => by
      obtain ⟨k0, k1⟩ := rng_mem.mp hk
      obtain ⟨r1, r2⟩ := rank_at k k0 k1
      refine ⟨(), ?_, trivial⟩
      unfold st_law_asked_1 letV
      rw [er', may_is, if_pos r1, r2]
      simp [kSum]
    exact ⟨s, e, trivial⟩
  · show (decide (m_law_may o n [84, 101, 108, 108, 101, 114] = Sum.inr [66, 97, 100, 86, 97, 108, 117, 101]) && decide (m_law_may o n ([] : List Nat) = Sum.inr [66, 97, 100, 86, 97, 108, 117, 101])) = true
    rw [may_is, may_is, if_neg (by decide), if_neg (by decide)]
    simp
def Inv (z : Mo_Orders × Users × List (List Nat)) : Prop := z.1.1 = z.2.1 ∧ Good z.2.1
theorem step_ok {r30 : Unit × Mo_Orders} (h0 : r30.2.1 = []) (z : Mo_Orders × Users × List (List Nat)) (x : Int) (h : Inv z) : NxI Inv (st_law_1 r30 z x) := by
  unfold st_law_1
  refine letV_p fun row _ => letV_p fun name _ => bind_p (fun _ => True) ?_ fun nm _ => ?_
  · unfold letV
    split
    · exact ⟨_, rfl, trivial⟩
    · exact ⟨_, rfl, trivial⟩
  refine letV_p fun tried _ => letV_p fun role _ => letV_p fun told et => ?_
  refine ite_p (fun q => by rw [et, name_eq] at q; simp at q) fun _ => ?_
  refine letV_p fun due ed => letV_p fun r er => letV_p fun told2 et2 => ?_
  obtain ⟨a1, a2, a3⟩ := add_due (o := z.1) nm role h.1 h.2
  rw [← er] at a1 a2 a3
  rw [← ed] at a1 a2
  refine bind_p (fun u => u = r.2.1) ?_ fun u hu => ?_
  · rw [et2, a1]
    cases hd : due with
    | none =>
      rw [hd] at a2
      refine ⟨mput z.2.1 nm role, rfl, a2.symm⟩
    | some d =>
      rw [hd] at a2
      refine ⟨z.2.1, ?_, a2.symm⟩
      simp
  subst hu
  refine letV_p fun t3 e3 => ?_
  have e4 : t3 = false := by
    rw [e3, asked_true _ _ _ rfl]
    unfold letV
    rw [asked_true _ _ _ h0]
    rfl
  rw [e4, if_neg (by simp)]
  exact ⟨_, rfl, rfl, a3⟩
theorem law_true (ns : List Int) : m_law ns = true := by
  show LQ (b_law ns)
  unfold b_law
  refine letV_p fun r4 e4 => letV_p fun r30 e30 => letV_p fun U eU => letV_p fun T eT => ?_
  refine ite_p (fun q => absurd q (by decide)) fun _ => ?_
  refine bind_p (fun z => Inv z) ?_ fun z hz => ?_
  · obtain ⟨s, e, h⟩ := forL_all (ε := Empty) (L := Empty) (R := Bool) (f := st_law_1 r30) Inv (xs := [5] ++ cutL ns none (some 63)) (s := (r4.2, U, T)) ⟨by rw [e4, eU]; rfl, by rw [eU]; exact fun p h => (by cases h)⟩ fun s x _ h => step_ok (by rw [e30]; rfl) s x h
    exact ⟨s, e, h⟩
  · refine bind_p (fun _ => True) ?_ fun _ _ => rfl
    obtain ⟨s, e, h⟩ := forL_all (ε := Empty) (L := Empty) (R := Bool) (f := st_law_2 z) (fun _ => True) (xs := z.2.2) (s := ()) trivial fun s x _ _ => by
      refine ⟨(), ?_, trivial⟩
      unfold st_law_2
      rw [asked_true _ _ _ hz.1]
      rfl
    exact ⟨s, e, trivial⟩
end Ck47

set_option synthInstance.maxSize 10000
namespace Ck47
open PySem L2 PyProof.Rows J
abbrev s_law_numbers : Stmt := PySem.Challenge.pw_corebank_k47_names_and_roles.main.body.getD 18 (.Pass ⟨0, 0, 0, 0⟩)
abbrev N_law_numbers : List Str := ["_law_cell", "_law_count", "_law_seed", "_law_rest", "_law_numbers_here", "_law_k", "_law_mixed"]
theorem sc_law_numbers : FnScope ["_law_cell", "_law_count", "_law_seed", "_law_rest", "_law_numbers_here", "_law_k", "_law_mixed"] ["_law_cell", "_law_count"] (defScope s_law_numbers) := ⟨rfl, rfl, rfl, by decide +kernel, rfl, by decide +kernel, by decide +kernel⟩
theorem ok_law_numbers {P : Program} {w : World} {K : PySem.W.Frag} {mg : Str → Option Value} {base : Heap} {f : Addr} {fd : FuncData} (F : Fun K "_law_numbers" "_law_numbers" s_law_numbers f fd) (b : Binds K fd ["_law_cell", "_law_count"] []) (hmg : mg "_law_numbers" = some (.ref f)) {adr : _root_.Fin 7 → Addr} {B0 : Addr} (Er : Errs K mg nm_ adr B0) (m_int : mg "int" = none) (m_range : mg "range" = none) :
    Fn0 P w K mg base CX0 1 "_law_numbers" 2 (sp_law_numbers K) := by
  have hsl := sizeLine_eq
  refine fn_mk F sc_law_numbers b hmg (fun i : (Int × Int) => b_law_numbers i.1 i.2) (fun i G vs h => ?_) (fun cdv A outer s H E i G cs vs hr hp => ?_)
  · obtain ⟨v0_, v1_, h, _⟩ := h
    rw [h]
    rfl
  obtain ⟨cell_, count_⟩ := i
  obtain ⟨v0_, v1_, rfl, h0_, h1_, hpre⟩ := hp
  cases h0_
  cases h1_
  show B _ _ _ [some (.int cell_), some (.int count_), none, none, none, none, none] G cs _ (b_law_numbers cell_ count_)
  unfold b_law_numbers
  try dsimp only at hpre
  have hc0 := hpre.1
  have hc1 := hpre.2
  refine b_setV (r := rI) 2 sc_law_numbers.nd (d_mul d_int (d_int1 m_int (d_var 0 (P := rI cell_) rfl rfl)) (.inl ⟨by omega, by omega⟩)) (fun seed_1 eseed_1 v3 Gs2 s2 h4 => ?_)
  cases h4
  refine b_if (S' := (Int)) (fun (z7 : (Int)) σ_ G_ cs_ => ∃ o8 : Option V, ∃ o9 : Option V, ∃ o10 : Option V, ∃ o11 : Option V, σ_ = [some (.int cell_), some (.int count_), some (.int z7), o8, o9, o10, o11] ∧ cs = cs_) (t_cmp op_lt (nomark _) (d_var 2 (P := rI seed_1) rfl rfl) d_int fun _ _ _ _ _ _ hx hy _ q => c_lt hx hy q) ?_ ?_ ?_
  · intro hc5 Gs6 s6
    have dhc5 := hc5
    try simp only [decide_eq_true_eq, decide_eq_false_iff_not, Bool.and_eq_true, Bool.and_eq_false_imp, Bool.or_eq_true, Bool.or_eq_false_iff, Bool.not_eq_true', Bool.not_eq_false', Bool.not_not, ne_eq, Int.not_lt, Int.not_le] at dhc5
    refine b_setV (r := rI) 2 sc_law_numbers.nd (d_sub (d_sub d_int (d_var 2 (P := rI seed_1) rfl rfl)) d_int) (fun seed_12 eseed_12 v14 Gs13 s13 h15 => ?_)
    cases h15
    exact b_nil (by refine ⟨_, _, _, _, rfl, rfl⟩)
  · intro hc5 Gs6 s6
    have dhc5 := hc5
    try simp only [decide_eq_true_eq, decide_eq_false_iff_not, Bool.and_eq_true, Bool.and_eq_false_imp, Bool.or_eq_true, Bool.or_eq_false_iff, Bool.not_eq_true', Bool.not_eq_false', Bool.not_not, ne_eq, Int.not_lt, Int.not_le] at dhc5
    exact b_nil (by refine ⟨_, _, _, _, rfl, rfl⟩)
  · intro z7 _ _ _ sz7 hNz7 hmz7
    obtain ⟨o8, o9, o10, o11, rfl, rfl⟩ := hNz7
    refine b_setV (r := rI) 3 sc_law_numbers.nd d_int (fun rest_16 erest_16 v18 Gs17 s17 h19 => ?_)
    cases h19
    refine b_if (S' := (Int)) (fun (z22 : (Int)) σ_ G_ cs_ => ∃ o23 : Option V, ∃ o24 : Option V, ∃ o25 : Option V, σ_ = [some (.int cell_), some (.int count_), some (.int z7), some (.int z22), o23, o24, o25] ∧ cs = cs_) (t_cmp op_ge (nomark _) (d_var 2 (P := rI z7) rfl rfl) (d_pow (z := 1000000000000000000) d_int d_int ⟨by decide, by decide, by decide⟩ (by decide +kernel)) fun _ _ _ _ _ _ hx hy _ q => c_ge hx hy q) ?_ ?_ ?_
    · intro hc20 Gs21 s21
      have dhc20 := hc20
      try simp only [decide_eq_true_eq, decide_eq_false_iff_not, Bool.and_eq_true, Bool.and_eq_false_imp, Bool.or_eq_true, Bool.or_eq_false_iff, Bool.not_eq_true', Bool.not_eq_false', Bool.not_not, ne_eq, Int.not_lt, Int.not_le] at dhc20
      refine b_setV (r := rI) 3 sc_law_numbers.nd (d_var 2 (P := rI z7) rfl rfl) (fun rest_26 erest_26 v28 Gs27 s27 h29 => ?_)
      cases h29
      exact b_nil (by refine ⟨_, _, _, rfl, rfl⟩)
    · intro hc20 Gs21 s21
      have dhc20 := hc20
      try simp only [decide_eq_true_eq, decide_eq_false_iff_not, Bool.and_eq_true, Bool.and_eq_false_imp, Bool.or_eq_true, Bool.or_eq_false_iff, Bool.not_eq_true', Bool.not_eq_false', Bool.not_not, ne_eq, Int.not_lt, Int.not_le] at dhc20
      exact b_nil (by refine ⟨_, _, _, rfl, rfl⟩)
    · intro z22 _ _ _ sz22 hNz22 hmz22
      obtain ⟨o23, o24, o25, rfl, rfl⟩ := hNz22
      refine b_setN 4 sc_law_numbers.nd (n_lst (r := rI) (xs := ([] : (List Int))) a_nil ls_n) (fun l31 us32 Gs33 s33 h34 => ?_)
      refine letV_intro (fun numbers_here_30 enumbers_here_30 => ?_)
      rw [← enumbers_here_30] at h34
      have nnumbers_here_30 : numbers_here_30.length = 0 := by rw [enumbers_here_30]; rfl
      refine b_for (f := (st_law_numbers_1 z7)) (s0 := (z22, numbers_here_30)) (xs := (rng 0 count_)) (fun n_ (z35 : (Int × (List Int))) σ_ G_ cs_ => ∃ us38 : List V, ∃ o40 : Option V, ∃ o41 : Option V, σ_ = [some (.int cell_), some (.int count_), some (.int z7), some (.int z35.1), some (.ref l31), o40, o41] ∧ (l31, HO.lst us38) :: cs = cs_ ∧ Rs rI G_ z35.2 us38 ∧ z35.2.length ≤ numbers_here_30.length + 1 * n_) (i_rng1 m_range (d_var 1 (P := rI count_) rfl rfl) (by omega) (by omega)) (tg_name 5 sc_law_numbers.nd) rfl PassesOwn.never ?_ ?_ ?_ ?_
      · intro _ s70
        exact ⟨_, _, _, rfl, rfl, (Rs.mono s70 h34), Nat.le_add_right _ _⟩
      · intro _ _ _ _ _ _
        trivial
      · intro pre_ x42 post_ z35 _ _ _ _ _ hxsz35 hrez35 s43 hNz35 s44 hSz35
        obtain ⟨us38, o40, o41, rfl, rfl, h39, hbz35⟩ := hNz35
        obtain ⟨v36, h37, rfl⟩ := hSz35
        have hltz35 : pre_.length < (rng 0 count_).length := by rw [hxsz35, List.length_append, List.length_cons]; omega
        have hmemz35 : x42 ∈ (rng 0 count_) := by rw [hxsz35]; exact List.mem_append_right _ List.mem_cons_self
        try simp only [rng_length, rng_mem, enumL_length] at hltz35 hmemz35
        show B _ _ _ _ _ _ _ (st_law_numbers_1 z7 z35 x42)
        unfold st_law_numbers_1
        cases h37
        refine b_ifl (t_cmp op_gt (nomark _) (d_var 3 (P := rI z35.1) rfl rfl) d_int fun _ _ _ _ _ _ hx hy _ q => c_gt hx hy q) ?_ ?_
        · intro hc46 Gs47 s47
          have dhc46 := hc46
          try simp only [decide_eq_true_eq, decide_eq_false_iff_not, Bool.and_eq_true, Bool.and_eq_false_imp, Bool.or_eq_true, Bool.or_eq_false_iff, Bool.not_eq_true', Bool.not_eq_false', Bool.not_not, ne_eq, Int.not_lt, Int.not_le] at dhc46
          refine b_app 0 (P := rI (z35.1 % 4000000007)) rfl (d_var 4 (P := rV (.ref l31)) rfl rfl) (d_mod (d_int1 m_int (d_var 3 (P := rI z35.1) rfl rfl)) d_int (by decide)) (by have hq := Rs.length h39; omega) (fun v48 Gs49 s49 h50 => ?_)
          have h52 := Rs.snoc h50 (Rs.mono (s44.trans (s47.trans s49)) h39)
          refine letV_intro (fun numbers_here_51 enumbers_here_51 => ?_)
          rw [← enumbers_here_51] at h52
          have nnumbers_here_51 : numbers_here_51.length = z35.2.length + 1 := by rw [enumbers_here_51, List.length_append]; rfl
          refine b_setV (r := rI) 3 sc_law_numbers.nd (d_fdiv (d_var 3 (P := rI z35.1) rfl rfl) d_int (divW (by decide) (by decide +kernel))) (fun rest_53 erest_53 v55 Gs54 s54 h56 => ?_)
          cases h56
          exact b_nil (by refine ⟨_, _, _, rfl, rfl, (Rs.mono s54 h52), by first | omega | (simp only [List.length_append, List.length_cons, List.length_nil] at *; omega)⟩)
        · intro hc46 Gs47 s47
          have dhc46 := hc46
          try simp only [decide_eq_true_eq, decide_eq_false_iff_not, Bool.and_eq_true, Bool.and_eq_false_imp, Bool.or_eq_true, Bool.or_eq_false_iff, Bool.not_eq_true', Bool.not_eq_false', Bool.not_not, ne_eq, Int.not_lt, Int.not_le] at dhc46
          refine b_setV (r := rI) 6 sc_law_numbers.nd (d_mod (d_int1 m_int (d_add (d_add (d_mul (d_var 2 (P := rI z7) rfl rfl) d_int (.inr ⟨by omega, by omega⟩)) (d_mul (d_var 5 (P := rI x42) rfl rfl) d_int (.inr ⟨by omega, by omega⟩))) d_int)) d_int (by decide)) (fun mixed_57 emixed_57 v59 Gs58 s58 h60 => ?_)
          cases h60
          refine b_setV (r := rI) 6 sc_law_numbers.nd (d_mul (d_mul (d_add (d_mod (d_int1 m_int (d_var 6 (P := rI mixed_57) rfl rfl)) d_int (by decide)) d_int) (d_add (d_add (d_fdiv (d_var 6 (P := rI mixed_57) rfl rfl) d_int (divW (by decide) (by decide +kernel))) (d_mul d_int (d_var 5 (P := rI x42) rfl rfl) (.inl ⟨by omega, by omega⟩))) d_int) (by first | exact .inr ⟨by omega, by omega⟩ | exact .inl ⟨by omega, by omega⟩)) d_int (.inr ⟨by omega, by omega⟩)) (fun mixed_61 emixed_61 v63 Gs62 s62 h64 => ?_)
          cases h64
          refine b_app 0 (P := rI ((mixed_61 % 2147483629) / 32)) rfl (d_var 4 (P := rV (.ref l31)) rfl rfl) (d_fdiv (d_mod (d_int1 m_int (d_var 6 (P := rI mixed_61) rfl rfl)) d_int (by decide)) d_int (divW (by decide) (by decide +kernel))) (by have hq := Rs.length h39; omega) (fun v65 Gs66 s66 h67 => ?_)
          have h69 := Rs.snoc h67 (Rs.mono (s44.trans (s47.trans (s58.trans (s62.trans s66)))) h39)
          refine letV_intro (fun numbers_here_68 enumbers_here_68 => ?_)
          rw [← enumbers_here_68] at h69
          have nnumbers_here_68 : numbers_here_68.length = z35.2.length + 1 := by rw [enumbers_here_68, List.length_append]; rfl
          exact b_nil (by refine ⟨_, _, _, rfl, rfl, h69, by first | omega | (simp only [List.length_append, List.length_cons, List.length_nil] at *; omega)⟩)
      · intro n_ z35 _ _ _ hnz35 s71 hNz35 hfz35
        obtain ⟨us38, o40, o41, rfl, rfl, h39, hbz35⟩ := hNz35
        try simp only [rng_length, enumL_length] at hnz35
        have hzs72 := h39
        refine b_freeze 0 rfl (fun s72 h73 => ?_)
        have kh73 : (rL K rI) z35.2 _ (.ref l31) := ⟨_, _, rfl, SqL.of h73, Rs.mono s72 hzs72⟩
        exact b_ret (P := (rL K rI) z35.2) (d_var 4 (P := (rL K rI) z35.2) rfl kh73) (fun _ _ _ h => ⟨⟨[], rfl⟩, h⟩)
end Ck47

set_option synthInstance.maxSize 10000
namespace Ck47
open PySem L2 PyProof.Rows J
abbrev s_law_text : Stmt := PySem.Challenge.pw_corebank_k47_names_and_roles.main.body.getD 20 (.Pass ⟨0, 0, 0, 0⟩)
abbrev N_law_text : List Str := ["_law_row", "_law_small", "_law_every", "_law_text_here", "_law_size", "_law_k", "_law_signs", "_law_place"]
theorem sc_law_text : FnScope ["_law_row", "_law_small", "_law_every", "_law_text_here", "_law_size", "_law_k", "_law_signs", "_law_place"] ["_law_row"] (defScope s_law_text) := ⟨rfl, rfl, rfl, by decide +kernel, rfl, by decide +kernel, by decide +kernel⟩
theorem ok_law_text {P : Program} {w : World} {K : PySem.W.Frag} {mg : Str → Option Value} {base : Heap} {f : Addr} {fd : FuncData} (F : Fun K "_law_text" "_law_text" s_law_text f fd) (b : Binds K fd ["_law_row"] []) (hmg : mg "_law_text" = some (.ref f)) {adr : _root_.Fin 7 → Addr} {B0 : Addr} (Er : Errs K mg nm_ adr B0) (m_int : mg "int" = none) (m_len : mg "len" = none) (m_range : mg "range" = none) :
    Fn0 P w K mg base CX0 1 "_law_text" 1 (sp_law_text K) := by
  have hsl := sizeLine_eq
  refine fn_mk F sc_law_text b hmg (fun i : ((List Int)) => b_law_text i) (fun i G vs h => ?_) (fun cdv A outer s H E row_ G cs vs hr hp => ?_)
  · obtain ⟨v0_, h, _⟩ := h
    rw [h]
    rfl
  obtain ⟨v0_, rfl, h0_, hpre⟩ := hp
  show B _ _ _ [some v0_, none, none, none, none, none, none, none] G cs _ (b_law_text row_)
  unfold b_law_text
  try dsimp only at hpre
  have hrl := hpre
  refine b_setV (r := rS) 1 sc_law_text.nd (d_str (l := [97, 98, 99, 100, 101, 102, 103, 104, 105, 106, 107, 108, 109, 110, 111, 112, 113, 114, 115, 116, 117, 118, 119, 120, 121, 122]) (by decide +kernel)) (fun small_1 esmall_1 v3 Gs2 s2 h4 => ?_)
  cases h4
  have hsm : small_1.length = 26 := by rw [esmall_1]; rfl
  refine b_setV (r := rS) 2 sc_law_text.nd (d_str (l := [32, 33, 34, 35, 36, 38, 39, 40, 41, 42, 43, 44, 45, 46, 47, 48, 49, 50, 51, 52, 53, 54, 55, 56, 57, 58, 59, 60, 61, 62, 63, 64, 65, 66, 67, 68, 69, 70, 71, 72, 73, 74, 75, 76, 77, 78, 79, 80, 81, 82, 83, 84, 85, 86, 87, 88, 89, 90, 91, 92, 93, 94, 95, 96]) (by decide +kernel)) (fun every_5 eevery_5 v7 Gs6 s6 h8 => ?_)
  cases h8
  have hev : every_5.length = 64 := by rw [eevery_5]; rfl
  refine b_setV (r := rS) 2 sc_law_text.nd (d_cat (d_cat (d_var 2 (P := rS every_5) rfl rfl) (d_var 1 (P := rS small_1) rfl rfl) (by first | omega | (simp only [List.length_append, List.length_cons, List.length_nil]; omega) | (simp only [List.length_cons, List.length_nil]; omega) | (simp only [List.length_append, List.length_cons, List.length_nil]; (try have q1 := cutL_le z21 none (some place_57)); (try have q2 := cutL_le z21 (some (place_57 + 1)) none); omega))) (d_str (l := [123, 124, 125, 126]) (by decide +kernel)) (by first | omega | (simp only [List.length_append, List.length_cons, List.length_nil]; omega) | (simp only [List.length_cons, List.length_nil]; omega) | (simp only [List.length_append, List.length_cons, List.length_nil]; (try have q1 := cutL_le z21 none (some place_57)); (try have q2 := cutL_le z21 (some (place_57 + 1)) none); omega))) (fun every_9 eevery_9 v11 Gs10 s10 h12 => ?_)
  cases h12
  have hev2 : every_9.length = 94 := by rw [eevery_9, List.length_append, List.length_append, hev, hsm]; rfl
  refine b_setV (r := rS) 3 sc_law_text.nd (d_str (l := []) (by decide +kernel)) (fun text_here_13 etext_here_13 v15 Gs14 s14 h16 => ?_)
  cases h16
  refine b_setV (r := rI) 4 sc_law_text.nd (d_mod (d_int1 m_int (d_ixL (r := rI) (xs := row_) (i := 0) (x := (ixg row_ 0)) (D.imp (P := (rL K rI) row_) (d_var 0 (P := (rL K rI) row_) rfl (Mono.mono (s2.trans (s6.trans (s10.trans s14))) h0_)) fun _ _ => rdL_of) d_int (atI_ixg (by first | (constructor <;> omega) | (simp only [List.length_cons, List.length_nil]; constructor <;> omega) | exact ix_mod (by omega) | (simp only [decide_eq_true_eq, decide_eq_false_iff_not] at *; constructor <;> omega) | (simp only [decide_eq_true_eq, decide_eq_false_iff_not, Bool.and_eq_true, Bool.or_eq_true, Bool.or_eq_false_iff, Bool.not_eq_true', Bool.not_eq_false', Bool.not_not, ne_eq, Int.not_lt, Int.not_le] at *; constructor <;> omega))))) d_int (by decide)) (fun size_17 esize_17 v19 Gs18 s18 h20 => ?_)
  cases h20
  have hz0 : 0 ≤ size_17 ∧ size_17 ≤ 14 := by rw [esize_17]; omega
  refine b_for (f := (st_law_text_1 row_ small_1)) (s0 := (text_here_13)) (xs := (rng 0 size_17)) (fun n_ (z21 : ((List Nat))) σ_ G_ cs_ => ∃ o24 : Option V, ∃ o25 : Option V, ∃ o26 : Option V, σ_ = [some v0_, some (.str (SX.S small_1)), some (.str (SX.S every_9)), some (.str (SX.S z21)), some (.int size_17), o24, o25, o26] ∧ cs = cs_ ∧ (z21.length = n_)) (i_rng1 m_range (d_var 4 (P := rI size_17) rfl rfl) (by omega) (by omega)) (tg_name 5 sc_law_text.nd) rfl PassesOwn.never ?_ ?_ ?_ ?_
  · intro _ s48
    exact ⟨_, _, _, rfl, rfl, by rw [etext_here_13]; rfl⟩
  · intro _ _ _ _ _ _
    trivial
  · intro pre_ x27 post_ z21 _ _ _ _ _ hxsz21 hrez21 s28 hNz21 s29 hSz21
    obtain ⟨o24, o25, o26, rfl, rfl, hbz21⟩ := hNz21
    obtain ⟨v22, h23, rfl⟩ := hSz21
    have hltz21 : pre_.length < (rng 0 size_17).length := by rw [hxsz21, List.length_append, List.length_cons]; omega
    have hmemz21 : x27 ∈ (rng 0 size_17) := by rw [hxsz21]; exact List.mem_append_right _ List.mem_cons_self
    try simp only [rng_length, rng_mem, enumL_length] at hltz21 hmemz21
    show B _ _ _ _ _ _ _ (st_law_text_1 row_ small_1 z21 x27)
    unfold st_law_text_1
    cases h23
    refine b_setV (r := rS) 6 sc_law_text.nd (d_cat (d_var 1 (P := rS small_1) rfl rfl) (d_str (l := [48, 49, 50, 51, 52, 53, 54, 55, 56, 57]) (by decide +kernel)) (by first | omega | (simp only [List.length_append, List.length_cons, List.length_nil]; omega) | (simp only [List.length_cons, List.length_nil]; omega) | (simp only [List.length_append, List.length_cons, List.length_nil]; (try have q1 := cutL_le z21 none (some place_57)); (try have q2 := cutL_le z21 (some (place_57 + 1)) none); omega))) (fun signs_31 esigns_31 v33 Gs32 s32 h34 => ?_)
    cases h34
    have hsg : signs_31.length = 36 := by rw [esigns_31, List.length_append, hsm]; rfl
    refine b_if (S' := ((List Nat))) (fun (z38 : ((List Nat))) σ_ G_ cs_ => ∃ o39 : Option V, σ_ = [some v0_, some (.str (SX.S small_1)), some (.str (SX.S every_9)), some (.str (SX.S z21)), some (.int size_17), some (.int x27), some (.str (SX.S z38)), o39] ∧ cs = cs_) (t_w (w_and (t_cmp op_eq (nomark _) (d_var 5 (P := rI x27) rfl rfl) d_int fun _ _ _ _ _ _ hx hy _ q => c_eqI hx hy q) fun hk37 => (w_and1 (t_cmp op_gt (nomark _) (d_mod (d_int1 m_int (d_ixL (r := rI) (xs := row_) (i := 15) (x := (ixg row_ 15)) (D.imp (P := (rL K rI) row_) (d_var 0 (P := (rL K rI) row_) rfl (Mono.mono (s2.trans (s6.trans (s10.trans (s14.trans (s18.trans (s28.trans (s29.trans s32))))))) h0_)) fun _ _ => rdL_of) d_int (atI_ixg (by first | (constructor <;> omega) | (simp only [List.length_cons, List.length_nil]; constructor <;> omega) | exact ix_mod (by omega) | (simp only [decide_eq_true_eq, decide_eq_false_iff_not] at *; constructor <;> omega) | (simp only [decide_eq_true_eq, decide_eq_false_iff_not, Bool.and_eq_true, Bool.or_eq_true, Bool.or_eq_false_iff, Bool.not_eq_true', Bool.not_eq_false', Bool.not_not, ne_eq, Int.not_lt, Int.not_le] at *; constructor <;> omega))))) d_int (by decide)) d_int fun _ _ _ _ _ _ hx hy _ q => c_gt hx hy q)))) ?_ ?_ ?_
    · intro hc35 Gs36 s36
      have dhc35 := hc35
      try simp only [decide_eq_true_eq, decide_eq_false_iff_not, Bool.and_eq_true, Bool.and_eq_false_imp, Bool.or_eq_true, Bool.or_eq_false_iff, Bool.not_eq_true', Bool.not_eq_false', Bool.not_not, ne_eq, Int.not_lt, Int.not_le] at dhc35
      refine b_setV (r := rS) 6 sc_law_text.nd (d_var 1 (P := rS small_1) rfl rfl) (fun signs_40 esigns_40 v42 Gs41 s41 h43 => ?_)
      cases h43
      have hsg2 : signs_40.length = 26 := by rw [esigns_40]; exact hsm
      exact b_nil (by refine ⟨_, rfl, rfl⟩)
    · intro hc35 Gs36 s36
      have dhc35 := hc35
      try simp only [decide_eq_true_eq, decide_eq_false_iff_not, Bool.and_eq_true, Bool.and_eq_false_imp, Bool.or_eq_true, Bool.or_eq_false_iff, Bool.not_eq_true', Bool.not_eq_false', Bool.not_not, ne_eq, Int.not_lt, Int.not_le] at dhc35
      exact b_nil (by refine ⟨_, rfl, rfl⟩)
    · intro z38 _ _ _ sz38 hNz38 hmz38
      obtain ⟨o39, rfl, rfl⟩ := hNz38
      have hjz38 : 26 ≤ z38.length ∧ z38.length ≤ 36 := by (try unfold letV at hmz38); (try split at hmz38) <;> cases hmz38 <;> (omega)
      refine b_setV (r := rS) 3 sc_law_text.nd (d_cat (d_var 3 (P := rS z21) rfl rfl) (d_ixS (d_var 6 (P := rS z38) rfl rfl) (d_mod (d_int1 m_int (d_ixL (r := rI) (xs := row_) (i := (1 + x27)) (x := (ixg row_ (1 + x27))) (D.imp (P := (rL K rI) row_) (d_var 0 (P := (rL K rI) row_) rfl (Mono.mono (s2.trans (s6.trans (s10.trans (s14.trans (s18.trans (s28.trans (s29.trans (s32.trans sz38)))))))) h0_)) fun _ _ => rdL_of) (d_add d_int (d_var 5 (P := rI x27) rfl rfl)) (atI_ixg (by first | (constructor <;> omega) | (simp only [List.length_cons, List.length_nil]; constructor <;> omega) | exact ix_mod (by omega) | (simp only [decide_eq_true_eq, decide_eq_false_iff_not] at *; constructor <;> omega) | (simp only [decide_eq_true_eq, decide_eq_false_iff_not, Bool.and_eq_true, Bool.or_eq_true, Bool.or_eq_false_iff, Bool.not_eq_true', Bool.not_eq_false', Bool.not_not, ne_eq, Int.not_lt, Int.not_le] at *; constructor <;> omega))))) (d_lenS m_len (d_var 6 (P := rS z38) rfl rfl) (by first | omega | (simp; done) | (simp; omega))) (by omega)) (by first | omega | (simp; done) | (simp; omega)) (atI_ixg (by first | (constructor <;> omega) | (simp only [List.length_cons, List.length_nil]; constructor <;> omega) | exact ix_mod (by omega) | (simp only [decide_eq_true_eq, decide_eq_false_iff_not] at *; constructor <;> omega) | (simp only [decide_eq_true_eq, decide_eq_false_iff_not, Bool.and_eq_true, Bool.or_eq_true, Bool.or_eq_false_iff, Bool.not_eq_true', Bool.not_eq_false', Bool.not_not, ne_eq, Int.not_lt, Int.not_le] at *; constructor <;> omega)))) (by first | omega | (simp only [List.length_append, List.length_cons, List.length_nil]; omega) | (simp only [List.length_cons, List.length_nil]; omega) | (simp only [List.length_append, List.length_cons, List.length_nil]; (try have q1 := cutL_le z21 none (some place_57)); (try have q2 := cutL_le z21 (some (place_57 + 1)) none); omega))) (fun text_here_44 etext_here_44 v46 Gs45 s45 h47 => ?_)
      cases h47
      exact b_nil (by refine ⟨_, _, _, rfl, rfl, by ((try dsimp only); rw [etext_here_44, List.length_append]; simp only [List.length_cons, List.length_nil]; omega)⟩)
  · intro n_ z21 _ _ _ hnz21 s49 hNz21 hfz21
    obtain ⟨o24, o25, o26, rfl, rfl, hbz21⟩ := hNz21
    try simp only [rng_length, enumL_length] at hnz21
    refine b_if (S' := ((List Nat))) (fun (z53 : ((List Nat))) σ_ G_ cs_ => ∃ o54 : Option V, ∃ o55 : Option V, ∃ o56 : Option V, σ_ = [some v0_, some (.str (SX.S small_1)), some (.str (SX.S every_9)), some (.str (SX.S z53)), some (.int size_17), o54, o55, o56] ∧ cs = cs_) (t_w (w_and (t_cmp op_eq (nomark _) (d_mod (d_int1 m_int (d_ixL (r := rI) (xs := row_) (i := 16) (x := (ixg row_ 16)) (D.imp (P := (rL K rI) row_) (d_var 0 (P := (rL K rI) row_) rfl (Mono.mono (s2.trans (s6.trans (s10.trans (s14.trans (s18.trans s49))))) h0_)) fun _ _ => rdL_of) d_int (atI_ixg (by first | (constructor <;> omega) | (simp only [List.length_cons, List.length_nil]; constructor <;> omega) | exact ix_mod (by omega) | (simp only [decide_eq_true_eq, decide_eq_false_iff_not] at *; constructor <;> omega) | (simp only [decide_eq_true_eq, decide_eq_false_iff_not, Bool.and_eq_true, Bool.or_eq_true, Bool.or_eq_false_iff, Bool.not_eq_true', Bool.not_eq_false', Bool.not_not, ne_eq, Int.not_lt, Int.not_le] at *; constructor <;> omega))))) d_int (by decide)) d_int fun _ _ _ _ _ _ hx hy _ q => c_eqI hx hy q) fun hk52 => (w_and1 (t_cmp op_gt (nomark _) (d_var 4 (P := rI size_17) rfl rfl) d_int fun _ _ _ _ _ _ hx hy _ q => c_gt hx hy q)))) ?_ ?_ ?_
    · intro hc50 Gs51 s51
      have dhc50 := hc50
      try simp only [decide_eq_true_eq, decide_eq_false_iff_not, Bool.and_eq_true, Bool.and_eq_false_imp, Bool.or_eq_true, Bool.or_eq_false_iff, Bool.not_eq_true', Bool.not_eq_false', Bool.not_not, ne_eq, Int.not_lt, Int.not_le] at dhc50
      refine b_setV (r := rI) 7 sc_law_text.nd (d_mod (d_int1 m_int (d_ixL (r := rI) (xs := row_) (i := 17) (x := (ixg row_ 17)) (D.imp (P := (rL K rI) row_) (d_var 0 (P := (rL K rI) row_) rfl (Mono.mono (s2.trans (s6.trans (s10.trans (s14.trans (s18.trans (s49.trans s51)))))) h0_)) fun _ _ => rdL_of) d_int (atI_ixg (by first | (constructor <;> omega) | (simp only [List.length_cons, List.length_nil]; constructor <;> omega) | exact ix_mod (by omega) | (simp only [decide_eq_true_eq, decide_eq_false_iff_not] at *; constructor <;> omega) | (simp only [decide_eq_true_eq, decide_eq_false_iff_not, Bool.and_eq_true, Bool.or_eq_true, Bool.or_eq_false_iff, Bool.not_eq_true', Bool.not_eq_false', Bool.not_not, ne_eq, Int.not_lt, Int.not_le] at *; constructor <;> omega))))) (d_var 4 (P := rI size_17) rfl rfl) (by omega)) (fun place_57 eplace_57 v59 Gs58 s58 h60 => ?_)
      cases h60
      refine b_setV (r := rS) 3 sc_law_text.nd (d_cat (d_cat (d_slS (d_var 3 (P := rS z21) rfl rfl) do_none (do_some (d_var 7 (P := rI place_57) rfl rfl)) (by first | omega | (simp; done) | (simp; omega))) (d_ixS (d_var 2 (P := rS every_9) rfl rfl) (d_mod (d_int1 m_int (d_ixL (r := rI) (xs := row_) (i := 18) (x := (ixg row_ 18)) (D.imp (P := (rL K rI) row_) (d_var 0 (P := (rL K rI) row_) rfl (Mono.mono (s2.trans (s6.trans (s10.trans (s14.trans (s18.trans (s49.trans (s51.trans s58))))))) h0_)) fun _ _ => rdL_of) d_int (atI_ixg (by first | (constructor <;> omega) | (simp only [List.length_cons, List.length_nil]; constructor <;> omega) | exact ix_mod (by omega) | (simp only [decide_eq_true_eq, decide_eq_false_iff_not] at *; constructor <;> omega) | (simp only [decide_eq_true_eq, decide_eq_false_iff_not, Bool.and_eq_true, Bool.or_eq_true, Bool.or_eq_false_iff, Bool.not_eq_true', Bool.not_eq_false', Bool.not_not, ne_eq, Int.not_lt, Int.not_le] at *; constructor <;> omega))))) (d_lenS m_len (d_var 2 (P := rS every_9) rfl rfl) (by first | omega | (simp; done) | (simp; omega))) (by omega)) (by first | omega | (simp; done) | (simp; omega)) (atI_ixg (by first | (constructor <;> omega) | (simp only [List.length_cons, List.length_nil]; constructor <;> omega) | exact ix_mod (by omega) | (simp only [decide_eq_true_eq, decide_eq_false_iff_not] at *; constructor <;> omega) | (simp only [decide_eq_true_eq, decide_eq_false_iff_not, Bool.and_eq_true, Bool.or_eq_true, Bool.or_eq_false_iff, Bool.not_eq_true', Bool.not_eq_false', Bool.not_not, ne_eq, Int.not_lt, Int.not_le] at *; constructor <;> omega)))) (by first | omega | (simp only [List.length_append, List.length_cons, List.length_nil]; omega) | (simp only [List.length_cons, List.length_nil]; omega) | (simp only [List.length_append, List.length_cons, List.length_nil]; (try have q1 := cutL_le z21 none (some place_57)); (try have q2 := cutL_le z21 (some (place_57 + 1)) none); omega))) (d_slS (d_var 3 (P := rS z21) rfl rfl) (do_some (d_add (d_var 7 (P := rI place_57) rfl rfl) d_int)) do_none (by first | omega | (simp; done) | (simp; omega))) (by first | omega | (simp only [List.length_append, List.length_cons, List.length_nil]; omega) | (simp only [List.length_cons, List.length_nil]; omega) | (simp only [List.length_append, List.length_cons, List.length_nil]; (try have q1 := cutL_le z21 none (some place_57)); (try have q2 := cutL_le z21 (some (place_57 + 1)) none); omega))) (fun text_here_61 etext_here_61 v63 Gs62 s62 h64 => ?_)
      cases h64
      exact b_nil (by refine ⟨_, _, _, rfl, rfl⟩)
    · intro hc50 Gs51 s51
      have dhc50 := hc50
      try simp only [decide_eq_true_eq, decide_eq_false_iff_not, Bool.and_eq_true, Bool.and_eq_false_imp, Bool.or_eq_true, Bool.or_eq_false_iff, Bool.not_eq_true', Bool.not_eq_false', Bool.not_not, ne_eq, Int.not_lt, Int.not_le] at dhc50
      exact b_nil (by refine ⟨_, _, _, rfl, rfl⟩)
    · intro z53 _ _ _ sz53 hNz53 hmz53
      obtain ⟨o54, o55, o56, rfl, rfl⟩ := hNz53
      exact b_ret (P := rS z53) (d_var 3 (P := rS z53) rfl rfl) (fun _ _ _ h => ⟨⟨[], rfl⟩, h⟩)
end Ck47

set_option synthInstance.maxSize 10000
namespace Ck47
open PySem L2 PyProof.Rows J
abbrev s_is_name : Stmt := PySem.Challenge.pw_corebank_k47_names_and_roles.main.body.getD 14 (.Pass ⟨0, 0, 0, 0⟩)
abbrev N_is_name : List Str := ["text", "sign"]
theorem sc_is_name : FnScope ["text", "sign"] ["text"] (defScope s_is_name) := ⟨rfl, rfl, rfl, by decide +kernel, rfl, by decide +kernel, by decide +kernel⟩
theorem ok_is_name {P : Program} {w : World} {K : PySem.W.Frag} {mg : Str → Option Value} {base : Heap} {f : Addr} {fd : FuncData} (F : Fun K "is_name" "is_name" s_is_name f fd) (b : Binds K fd ["text"] []) (hmg : mg "is_name" = some (.ref f)) {adr : _root_.Fin 7 → Addr} {B0 : Addr} (Er : Errs K mg nm_ adr B0) (m_all : mg "all" = none) (c_DIGITS : GlobR mg "DIGITS" (rS k_DIGITS)) (c_LETTERS : GlobR mg "LETTERS" (rS k_LETTERS)) (m_len : mg "len" = none) :
    Fn0 P w K mg base CX0 1 "is_name" 1 (sp_is_name K) := by
  have hsl := sizeLine_eq
  refine fn_mk F sc_is_name b hmg (fun i : ((List Nat)) => b_is_name i) (fun i G vs h => ?_) (fun cdv A outer s H E text_ G cs vs hr hp => ?_)
  · obtain ⟨v0_, h, _⟩ := h
    rw [h]
    rfl
  obtain ⟨v0_, rfl, h0_, hpre⟩ := hp
  cases h0_
  show B _ _ _ [some (.str (SX.S text_)), none] G cs _ (b_is_name text_)
  unfold b_is_name
  try dsimp only at hpre
  refine b_ifx (t_w (w_or (t_not (t_chain op_le op_le d_int (d_lenS m_len (d_var 0 (P := rS text_) rfl rfl) (by first | omega | (simp; done) | (simp; omega))) d_int (fun _ _ _ _ _ _ hx hy _ q => c_le hx hy q) (fun _ _ _ _ _ _ hx hy _ q => c_le hx hy q))) fun hk3 => (w_or1 (t_cmp op_notIn_sign (by rfl) (d_ixS (d_var 0 (P := rS text_) rfl rfl) d_int (by first | omega | (simp; done) | (simp; omega)) (atI_ixg (by first | (constructor <;> omega) | (simp only [List.length_cons, List.length_nil]; constructor <;> omega) | exact ix_mod (by omega) | (simp only [decide_eq_true_eq, decide_eq_false_iff_not] at *; constructor <;> omega) | (simp only [decide_eq_true_eq, decide_eq_false_iff_not, Bool.and_eq_true, Bool.or_eq_true, Bool.or_eq_false_iff, Bool.not_eq_true', Bool.not_eq_false', Bool.not_not, ne_eq, Int.not_lt, Int.not_le] at *; constructor <;> omega)))) (d_globR c_LETTERS) fun _ _ _ _ _ _ hx hy _ q => c_ninS hx hy q)))) ?_ ?_
  · intro hc1 Gs2 s2
    have dhc1 := hc1
    try simp only [decide_eq_true_eq, decide_eq_false_iff_not, Bool.and_eq_true, Bool.and_eq_false_imp, Bool.or_eq_true, Bool.or_eq_false_iff, Bool.not_eq_true', Bool.not_eq_false', Bool.not_not, ne_eq, Int.not_lt, Int.not_le] at dhc1
    exact b_ret (P := rB false) d_bl (fun _ _ _ h => ⟨⟨[], rfl⟩, h⟩)
  · intro hc1 Gs2 s2
    have dhc1 := hc1
    try simp only [decide_eq_true_eq, decide_eq_false_iff_not, Bool.and_eq_true, Bool.and_eq_false_imp, Bool.or_eq_true, Bool.or_eq_false_iff, Bool.not_eq_true', Bool.not_eq_false', Bool.not_not, ne_eq, Int.not_lt, Int.not_le] at dhc1
    exact b_ret (P := rB ((text_.map (fun sign_ : Nat => (((decide (sign_ ∈ k_LETTERS))) || ((decide (sign_ ∈ k_DIGITS)))))).all id)) (d_all rfl m_all (D.imp (P := (rL K rB) (text_.map (fun sign_ : Nat => (((decide (sign_ ∈ k_LETTERS))) || ((decide (sign_ ∈ k_DIGITS))))))) (d_new (n_lc (C := fun _ => True) (own := [("sign", 1)]) (xs := text_) (r := rB) (f := (fun sign_ : Nat => (((decide (sign_ ∈ k_LETTERS))) || ((decide (sign_ ∈ k_DIGITS)))))) rfl sc_is_name.nd (blkOk_by (N := N_is_name) (sc := defScope s_is_name) (by decide +kernel)) (i_str (d_var 0 (P := rS text_) rfl rfl)) (tgb_name 1 sc_is_name.nd) (fun _ _ => trivial) (fun _ _ _ ⟨_, _, e⟩ => by subst e; exact wipe1) (fun (sign_ : Nat) hx7 _ _ _ s6 ⟨c0_, ec⟩ hS _ _ _ _ _ => by subst ec; obtain ⟨v4, h5, rfl⟩ := hS; cases h5; have hmhx7 := hx7; (try simp only [rng_mem, rng_length] at hmhx7); exact (d_or (d_cmp op_in_sign (by rfl) (d_var 1 (P := rC sign_) rfl rfl) (d_globR c_LETTERS) fun _ _ _ _ _ _ hx hy _ q => c_inS hx hy q) fun hk8 => (d_one (d_cmp op_in_sign (by rfl) (d_var 1 (P := rC sign_) rfl rfl) (d_globR c_DIGITS) fun _ _ _ _ _ _ hx hy _ q => c_inS hx hy q)))) (by first | omega | (simp only [rng_length, enumL_length, List.length_map]; omega) | (simp; done) | (simp; omega)))) fun _ _ => rdL_of)) (fun _ _ _ h => ⟨⟨[], rfl⟩, h⟩)
end Ck47

set_option synthInstance.maxSize 10000
namespace Ck47
open PySem L2 PyProof.Rows J
abbrev s_law_is_name : Stmt := PySem.Challenge.pw_corebank_k47_names_and_roles.main.body.getD 21 (.Pass ⟨0, 0, 0, 0⟩)
abbrev N_law_is_name : List Str := ["_law_text_here", "_law_k", "_law_letter"]
theorem sc_law_is_name : FnScope ["_law_text_here", "_law_k", "_law_letter"] ["_law_text_here"] (defScope s_law_is_name) := ⟨rfl, rfl, rfl, by decide +kernel, rfl, by decide +kernel, by decide +kernel⟩
theorem ok_law_is_name {P : Program} {w : World} {K : PySem.W.Frag} {mg : Str → Option Value} {base : Heap} {f : Addr} {fd : FuncData} (F : Fun K "_law_is_name" "_law_is_name" s_law_is_name f fd) (b : Binds K fd ["_law_text_here"] []) (hmg : mg "_law_is_name" = some (.ref f)) {adr : _root_.Fin 7 → Addr} {B0 : Addr} (Er : Errs K mg nm_ adr B0) (m_len : mg "len" = none) (m_range : mg "range" = none) :
    Fn0 P w K mg base CX0 1 "_law_is_name" 1 (sp_law_is_name K) := by
  have hsl := sizeLine_eq
  refine fn_mk F sc_law_is_name b hmg (fun i : ((List Nat)) => b_law_is_name i) (fun i G vs h => ?_) (fun cdv A outer s H E text_here_ G cs vs hr hp => ?_)
  · obtain ⟨v0_, h, _⟩ := h
    rw [h]
    rfl
  obtain ⟨v0_, rfl, h0_, hpre⟩ := hp
  cases h0_
  show B _ _ _ [some (.str (SX.S text_here_)), none, none] G cs _ (b_law_is_name text_here_)
  unfold b_law_is_name
  try dsimp only at hpre
  refine b_ifx (t_not (t_chain op_le op_le d_int (d_lenS m_len (d_var 0 (P := rS text_here_) rfl rfl) (by first | omega | (simp; done) | (simp; omega))) d_int (fun _ _ _ _ _ _ hx hy _ q => c_le hx hy q) (fun _ _ _ _ _ _ hx hy _ q => c_le hx hy q))) ?_ ?_
  · intro hc1 Gs2 s2
    have dhc1 := hc1
    try simp only [decide_eq_true_eq, decide_eq_false_iff_not, Bool.and_eq_true, Bool.and_eq_false_imp, Bool.or_eq_true, Bool.or_eq_false_iff, Bool.not_eq_true', Bool.not_eq_false', Bool.not_not, ne_eq, Int.not_lt, Int.not_le] at dhc1
    exact b_ret (P := rB false) d_bl (fun _ _ _ h => ⟨⟨[], rfl⟩, h⟩)
  · intro hc1 Gs2 s2
    have dhc1 := hc1
    try simp only [decide_eq_true_eq, decide_eq_false_iff_not, Bool.and_eq_true, Bool.and_eq_false_imp, Bool.or_eq_true, Bool.or_eq_false_iff, Bool.not_eq_true', Bool.not_eq_false', Bool.not_not, ne_eq, Int.not_lt, Int.not_le] at dhc1
    refine b_for (f := (st_law_is_name_1 text_here_)) (s0 := ()) (xs := (rng 0 (text_here_.length : Int))) (fun n_ (z3 : Unit) σ_ G_ cs_ => ∃ o6 : Option V, ∃ o7 : Option V, σ_ = [some (.str (SX.S text_here_)), o6, o7] ∧ cs = cs_) (i_rng1 m_range (d_lenS m_len (d_var 0 (P := rS text_here_) rfl rfl) (by first | omega | (simp; done) | (simp; omega))) (by omega) (by omega)) (tg_name 1 sc_law_is_name.nd) rfl PassesOwn.never ?_ ?_ ?_ ?_
    · intro _ s20
      exact ⟨_, _, rfl, rfl⟩
    · intro _ _ _ _ _ _
      trivial
    · intro pre_ x8 post_ z3 _ _ _ _ _ hxsz3 hrez3 s9 hNz3 s10 hSz3
      obtain ⟨o6, o7, rfl, rfl⟩ := hNz3
      obtain ⟨v4, h5, rfl⟩ := hSz3
      have hltz3 : pre_.length < (rng 0 (text_here_.length : Int)).length := by rw [hxsz3, List.length_append, List.length_cons]; omega
      have hmemz3 : x8 ∈ (rng 0 (text_here_.length : Int)) := by rw [hxsz3]; exact List.mem_append_right _ List.mem_cons_self
      try simp only [rng_length, rng_mem, enumL_length] at hltz3 hmemz3
      show B _ _ _ _ _ _ _ (st_law_is_name_1 text_here_ z3 x8)
      unfold st_law_is_name_1
      cases h5
      refine b_setV (r := rB) 2 sc_law_is_name.nd (d_cmp op_in_sign (by rfl) (d_ixS (d_var 0 (P := rS text_here_) rfl rfl) (d_var 1 (P := rI x8) rfl rfl) (by first | omega | (simp; done) | (simp; omega)) (atI_ixg (by first | (constructor <;> omega) | (simp only [List.length_cons, List.length_nil]; constructor <;> omega) | exact ix_mod (by omega) | (simp only [decide_eq_true_eq, decide_eq_false_iff_not] at *; constructor <;> omega) | (simp only [decide_eq_true_eq, decide_eq_false_iff_not, Bool.and_eq_true, Bool.or_eq_true, Bool.or_eq_false_iff, Bool.not_eq_true', Bool.not_eq_false', Bool.not_not, ne_eq, Int.not_lt, Int.not_le] at *; constructor <;> omega)))) (d_str (l := [97, 98, 99, 100, 101, 102, 103, 104, 105, 106, 107, 108, 109, 110, 111, 112, 113, 114, 115, 116, 117, 118, 119, 120, 121, 122]) (by decide +kernel)) fun _ _ _ _ _ _ hx hy _ q => c_inS hx hy q) (fun letter_12 eletter_12 v14 Gs13 s13 h15 => ?_)
      cases h15
      refine b_ifx (t_w (w_and (t_not (t_val (d_var 2 (P := rB letter_12) rfl rfl))) fun hk19 => (w_and1 (t_w (w_or (t_cmp op_eq (nomark _) (d_var 1 (P := rI x8) rfl rfl) d_int fun _ _ _ _ _ _ hx hy _ q => c_eqI hx hy q) fun hk18 => (w_or1 (t_cmp op_notIn_sign (by rfl) (d_ixS (d_var 0 (P := rS text_here_) rfl rfl) (d_var 1 (P := rI x8) rfl rfl) (by first | omega | (simp; done) | (simp; omega)) (atI_ixg (by first | (constructor <;> omega) | (simp only [List.length_cons, List.length_nil]; constructor <;> omega) | exact ix_mod (by omega) | (simp only [decide_eq_true_eq, decide_eq_false_iff_not] at *; constructor <;> omega) | (simp only [decide_eq_true_eq, decide_eq_false_iff_not, Bool.and_eq_true, Bool.or_eq_true, Bool.or_eq_false_iff, Bool.not_eq_true', Bool.not_eq_false', Bool.not_not, ne_eq, Int.not_lt, Int.not_le] at *; constructor <;> omega)))) (d_str (l := [48, 49, 50, 51, 52, 53, 54, 55, 56, 57]) (by decide +kernel)) fun _ _ _ _ _ _ hx hy _ q => c_ninS hx hy q))))))) ?_ ?_
      · intro hc16 Gs17 s17
        have dhc16 := hc16
        try simp only [decide_eq_true_eq, decide_eq_false_iff_not, Bool.and_eq_true, Bool.and_eq_false_imp, Bool.or_eq_true, Bool.or_eq_false_iff, Bool.not_eq_true', Bool.not_eq_false', Bool.not_not, ne_eq, Int.not_lt, Int.not_le] at dhc16
        exact b_ret (P := rB false) d_bl (fun _ _ _ h => ⟨⟨[], rfl⟩, h⟩)
      · intro hc16 Gs17 s17
        have dhc16 := hc16
        try simp only [decide_eq_true_eq, decide_eq_false_iff_not, Bool.and_eq_true, Bool.and_eq_false_imp, Bool.or_eq_true, Bool.or_eq_false_iff, Bool.not_eq_true', Bool.not_eq_false', Bool.not_not, ne_eq, Int.not_lt, Int.not_le] at dhc16
        exact b_nil (by refine ⟨_, _, rfl, rfl⟩)
    · intro n_ z3 _ _ _ hnz3 s21 hNz3 hfz3
      obtain ⟨o6, o7, rfl, rfl⟩ := hNz3
      try simp only [rng_length, enumL_length] at hnz3
      exact b_ret (P := rB true) d_bl (fun _ _ _ h => ⟨⟨[], rfl⟩, h⟩)
end Ck47

set_option synthInstance.maxSize 10000
namespace Ck47
open PySem L2 PyProof.Rows J
abbrev s_law_due : Stmt := PySem.Challenge.pw_corebank_k47_names_and_roles.main.body.getD 25 (.Pass ⟨0, 0, 0, 0⟩)
abbrev N_law_due : List Str := ["_law_users", "_law_name", "_law_role_here"]
theorem sc_law_due : FnScope ["_law_users", "_law_name", "_law_role_here"] ["_law_users", "_law_name", "_law_role_here"] (defScope s_law_due) := ⟨rfl, rfl, rfl, by decide +kernel, rfl, by decide +kernel, by decide +kernel⟩
theorem ok_law_due {P : Program} {w : World} {K : PySem.W.Frag} {mg : Str → Option Value} {base : Heap} {f : Addr} {fd : FuncData} (F : Fun K "_law_due" "_law_due" s_law_due f fd) (b : Binds K fd ["_law_users", "_law_name", "_law_role_here"] []) (hmg : mg "_law_due" = some (.ref f)) {adr : _root_.Fin 7 → Addr} {B0 : Addr} (Er : Errs K mg nm_ adr B0) (F_law_is_name : Fn0 P w K mg base CX0 1 "_law_is_name" 1 (sp_law_is_name K)) :
    Fn0 P w K mg base CX0 2 "_law_due" 3 (sp_law_due K) := by
  have hsl := sizeLine_eq
  refine ⟨f, fd, ["_law_users", "_law_name", "_law_role_here"], fn_okR (pre := pre_law_due K) (r := fun _ o => (rO rS) o) F sc_law_due (fun i : ((List ((List Nat) × (List Nat))) × (List Nat) × (List Nat)) => b_law_due i.1 i.2.1 i.2.2) (fun i G mc vs h => ?_) (fun cdv A outer s H E i G mc cs vs hr hp => ?_), hmg, F.kp, b, rfl⟩
  · obtain ⟨_, _, _, _, h, _⟩ := h
    rw [h]
    rfl
  obtain ⟨users_, name_, role_here_⟩ := i
  obtain ⟨v1_, v2_, a0_, u0_, rfl, rfl, kh0_, h1_, h2_, hpre⟩ := hp
  replace kh0_ : Ms rS G users_ u0_ := kh0_
  cases h1_
  cases h2_
  show B _ _ _ [some (.ref a0_), some (.str (SX.S name_)), some (.str (SX.S role_here_))] G ((a0_, HO.dK u0_) :: cs) _ (b_law_due users_ name_ role_here_)
  unfold b_law_due
  try dsimp only at hpre
  refine b_ifx (t_w (w_or (t_not (t_val (d_callQ (P := rB (m_law_is_name name_)) (name_) F_law_is_name hr (by decide) (a_cons (P := rS name_) (d_var 1 (P := rS name_) rfl rfl) a_nil) (fun _ _ s_ h => by obtain ⟨v0, w0, rfl, h0, rfl⟩ := h; exact ⟨v0, rfl, h0, (by (try dsimp only); first | assumption | omega | (refine ⟨?_, ?_⟩ <;> omega) | (refine ⟨?_, ?_, ?_⟩ <;> omega) | simp_all)⟩) fun _ _ h => h))) fun hk3 => (w_or1 (t_nin (r := rS) (d_var 2 (P := rS role_here_) rfl rfl) (D.imp (P := (rU K rS) [[116, 101, 108, 108, 101, 114], [111, 102, 102, 105, 99, 101, 114], [99, 104, 105, 101, 102]]) (d_homT (r := (cc rS (cc rS (c0 rS)))) (d_tup (r := (cc rS (cc rS (c0 rS)))) (x := ([116, 101, 108, 108, 101, 114], [111, 102, 102, 105, 99, 101, 114], [99, 104, 105, 101, 102])) (a_cons (P := rS [116, 101, 108, 108, 101, 114]) (d_str (l := [116, 101, 108, 108, 101, 114]) (by decide +kernel)) (a_cons (P := rS [111, 102, 102, 105, 99, 101, 114]) (d_str (l := [111, 102, 102, 105, 99, 101, 114]) (by decide +kernel)) (a_cons (P := rS [99, 104, 105, 101, 102]) (d_str (l := [99, 104, 105, 101, 102]) (by decide +kernel)) a_nil))) (tp_c (tp_c tp_1)))) fun _ _ => rRow_t))))) ?_ ?_
  · intro hc1 Gs2 s2
    have dhc1 := hc1
    try simp only [decide_eq_true_eq, decide_eq_false_iff_not, Bool.and_eq_true, Bool.and_eq_false_imp, Bool.or_eq_true, Bool.or_eq_false_iff, Bool.not_eq_true', Bool.not_eq_false', Bool.not_not, ne_eq, Int.not_lt, Int.not_le] at dhc1
    exact b_ret (P := (rO rS) (some [66, 97, 100, 86, 97, 108, 117, 101])) (d_toO (r := rS) (d_str (l := [66, 97, 100, 86, 97, 108, 117, 101]) (by decide +kernel))) (fun _ _ _ h => ⟨⟨[], rfl⟩, h⟩)
  · intro hc1 Gs2 s2
    have dhc1 := hc1
    try simp only [decide_eq_true_eq, decide_eq_false_iff_not, Bool.and_eq_true, Bool.and_eq_false_imp, Bool.or_eq_true, Bool.or_eq_false_iff, Bool.not_eq_true', Bool.not_eq_false', Bool.not_not, ne_eq, Int.not_lt, Int.not_le] at dhc1
    refine b_ifx (t_min (rk := rS) (hu_of hr) (d_var 1 (P := rS name_) rfl rfl) (d_var 0 (P := rV (.ref a0_)) rfl rfl) List.mem_cons_self (Ms.mono s2 kh0_)) ?_ ?_
    · intro hc4 Gs5 s5
      have dhc4 := hc4
      try simp only [decide_eq_true_eq, decide_eq_false_iff_not, Bool.and_eq_true, Bool.and_eq_false_imp, Bool.or_eq_true, Bool.or_eq_false_iff, Bool.not_eq_true', Bool.not_eq_false', Bool.not_not, ne_eq, Int.not_lt, Int.not_le] at dhc4
      exact b_ret (P := (rO rS) (some [82, 101, 102, 117, 115, 101, 100])) (d_toO (r := rS) (d_str (l := [82, 101, 102, 117, 115, 101, 100]) (by decide +kernel))) (fun _ _ _ h => ⟨⟨[], rfl⟩, h⟩)
    · intro hc4 Gs5 s5
      have dhc4 := hc4
      try simp only [decide_eq_true_eq, decide_eq_false_iff_not, Bool.and_eq_true, Bool.and_eq_false_imp, Bool.or_eq_true, Bool.or_eq_false_iff, Bool.not_eq_true', Bool.not_eq_false', Bool.not_not, ne_eq, Int.not_lt, Int.not_le] at dhc4
      exact b_ret (P := (rO rS) none) (d_toN (r := rS) d_non) (fun _ _ _ h => ⟨⟨[], rfl⟩, h⟩)
end Ck47

set_option synthInstance.maxSize 10000
namespace Ck47
open PySem L2 PyProof.Rows J
abbrev s_law_class : Stmt := PySem.Challenge.pw_corebank_k47_names_and_roles.main.body.getD 19 (.Pass ⟨0, 0, 0, 0⟩)
abbrev N_law_class : List Str := ["_law_e", "_law_found"]
theorem sc_law_class : FnScope ["_law_e", "_law_found"] ["_law_e"] (defScope s_law_class) := ⟨rfl, rfl, rfl, by decide +kernel, rfl, by decide +kernel, by decide +kernel⟩
theorem ok_law_class {P : Program} {w : World} {K : PySem.W.Frag} {mg : Str → Option Value} {base : Heap} {f : Addr} {fd : FuncData} (F : Fun K "_law_class" "_law_class" s_law_class f fd) (b : Binds K fd ["_law_e"] []) (hmg : mg "_law_class" = some (.ref f)) {adr : _root_.Fin 7 → Addr} {B0 : Addr} (Er : Errs K mg nm_ adr B0) (m_ValueError : mg "ValueError" = none) (m_isinstance : mg "isinstance" = none) (m_len : mg "len" = none) :
    FnX P w K mg base 1 "_law_class" 1 (sp_law_class K adr) := by
  have hsl := sizeLine_eq
  refine fn_mkX F sc_law_class b hmg b_law_class (fun cdv A outer s H E p e_ G cs hr hz hf => ?_)
  show B _ _ _ [some (.ref p.1), none] G cs _ (b_law_class e_)
  unfold b_law_class
  refine b_setN 1 sc_law_class.nd (n_lst (r := rS) (xs := ([] : (List (List Nat)))) a_nil ls_n) (fun l2 us3 Gs4 s4 h5 => ?_)
  refine letV_intro (fun found_1 efound_1 => ?_)
  rw [← efound_1] at h5
  have nfound_1 : found_1.length = 0 := by rw [efound_1]; rfl
  refine b_if (S' := ((List (List Nat)))) (fun (z8 : ((List (List Nat)))) σ_ G_ cs_ => ∃ us9 : List V, σ_ = [some (.ref p.1), some (.ref l2)] ∧ (l2, HO.lst us9) :: cs = cs_ ∧ Rs rS G_ z8 us9 ∧ z8.length ≤ found_1.length + 1) (t_val (d_isE e_ 0 Er hz hf List.mem_cons_self m_isinstance (d_var 0 (P := rV (.ref p.1)) rfl rfl) rfl)) ?_ ?_ ?_
  · intro hc6 Gs7 s7
    have dhc6 := hc6
    try simp only [decide_eq_true_eq, decide_eq_false_iff_not, Bool.and_eq_true, Bool.and_eq_false_imp, Bool.or_eq_true, Bool.or_eq_false_iff, Bool.not_eq_true', Bool.not_eq_false', Bool.not_not, ne_eq, Int.not_lt, Int.not_le] at dhc6
    refine b_app 0 (P := rS [66, 97, 100, 86, 97, 108, 117, 101]) rfl (d_var 1 (P := rV (.ref l2)) rfl rfl) (d_str (l := [66, 97, 100, 86, 97, 108, 117, 101]) (by decide +kernel)) (by have hq := Rs.length h5; omega) (fun v11 Gs12 s12 h13 => ?_)
    have h15 := Rs.snoc h13 (Rs.mono (s7.trans s12) h5)
    refine letV_intro (fun found_14 efound_14 => ?_)
    rw [← efound_14] at h15
    have nfound_14 : found_14.length = found_1.length + 1 := by rw [efound_14, List.length_append]; rfl
    exact b_nil (by refine ⟨_, rfl, rfl, h15, by first | omega | (simp only [List.length_append, List.length_cons, List.length_nil] at *; omega)⟩)
  · intro hc6 Gs7 s7
    have dhc6 := hc6
    try simp only [decide_eq_true_eq, decide_eq_false_iff_not, Bool.and_eq_true, Bool.and_eq_false_imp, Bool.or_eq_true, Bool.or_eq_false_iff, Bool.not_eq_true', Bool.not_eq_false', Bool.not_not, ne_eq, Int.not_lt, Int.not_le] at dhc6
    exact b_nil (by refine ⟨_, rfl, rfl, (Rs.mono s7 h5), by first | omega | (simp only [List.length_append, List.length_cons, List.length_nil] at *; omega)⟩)
  · intro z8 _ _ _ sz8 hNz8 hmz8
    obtain ⟨us9, rfl, rfl, h10, hbz8⟩ := hNz8
    refine b_if (S' := ((List (List Nat)))) (fun (z18 : ((List (List Nat)))) σ_ G_ cs_ => ∃ us19 : List V, σ_ = [some (.ref p.1), some (.ref l2)] ∧ (l2, HO.lst us19) :: cs = cs_ ∧ Rs rS G_ z18 us19 ∧ z18.length ≤ z8.length + 1) (t_val (d_isE e_ 1 Er hz hf List.mem_cons_self m_isinstance (d_var 0 (P := rV (.ref p.1)) rfl rfl) rfl)) ?_ ?_ ?_
    · intro hc16 Gs17 s17
      have dhc16 := hc16
      try simp only [decide_eq_true_eq, decide_eq_false_iff_not, Bool.and_eq_true, Bool.and_eq_false_imp, Bool.or_eq_true, Bool.or_eq_false_iff, Bool.not_eq_true', Bool.not_eq_false', Bool.not_not, ne_eq, Int.not_lt, Int.not_le] at dhc16
      refine b_app 0 (P := rS [66, 97, 100, 68, 97, 121]) rfl (d_var 1 (P := rV (.ref l2)) rfl rfl) (d_str (l := [66, 97, 100, 68, 97, 121]) (by decide +kernel)) (by have hq := Rs.length h10; omega) (fun v21 Gs22 s22 h23 => ?_)
      have h25 := Rs.snoc h23 (Rs.mono (s17.trans s22) h10)
      refine letV_intro (fun found_24 efound_24 => ?_)
      rw [← efound_24] at h25
      have nfound_24 : found_24.length = z8.length + 1 := by rw [efound_24, List.length_append]; rfl
      exact b_nil (by refine ⟨_, rfl, rfl, h25, by first | omega | (simp only [List.length_append, List.length_cons, List.length_nil] at *; omega)⟩)
    · intro hc16 Gs17 s17
      have dhc16 := hc16
      try simp only [decide_eq_true_eq, decide_eq_false_iff_not, Bool.and_eq_true, Bool.and_eq_false_imp, Bool.or_eq_true, Bool.or_eq_false_iff, Bool.not_eq_true', Bool.not_eq_false', Bool.not_not, ne_eq, Int.not_lt, Int.not_le] at dhc16
      exact b_nil (by refine ⟨_, rfl, rfl, (Rs.mono s17 h10), by first | omega | (simp only [List.length_append, List.length_cons, List.length_nil] at *; omega)⟩)
    · intro z18 _ _ _ sz18 hNz18 hmz18
      obtain ⟨us19, rfl, rfl, h20, hbz18⟩ := hNz18
      refine b_if (S' := ((List (List Nat)))) (fun (z28 : ((List (List Nat)))) σ_ G_ cs_ => ∃ us29 : List V, σ_ = [some (.ref p.1), some (.ref l2)] ∧ (l2, HO.lst us29) :: cs = cs_ ∧ Rs rS G_ z28 us29 ∧ z28.length ≤ z18.length + 1) (t_val (d_isE e_ 2 Er hz hf List.mem_cons_self m_isinstance (d_var 0 (P := rV (.ref p.1)) rfl rfl) rfl)) ?_ ?_ ?_
      · intro hc26 Gs27 s27
        have dhc26 := hc26
        try simp only [decide_eq_true_eq, decide_eq_false_iff_not, Bool.and_eq_true, Bool.and_eq_false_imp, Bool.or_eq_true, Bool.or_eq_false_iff, Bool.not_eq_true', Bool.not_eq_false', Bool.not_not, ne_eq, Int.not_lt, Int.not_le] at dhc26
        refine b_app 0 (P := rS [77, 105, 115, 115, 105, 110, 103]) rfl (d_var 1 (P := rV (.ref l2)) rfl rfl) (d_str (l := [77, 105, 115, 115, 105, 110, 103]) (by decide +kernel)) (by have hq := Rs.length h20; omega) (fun v31 Gs32 s32 h33 => ?_)
        have h35 := Rs.snoc h33 (Rs.mono (s27.trans s32) h20)
        refine letV_intro (fun found_34 efound_34 => ?_)
        rw [← efound_34] at h35
        have nfound_34 : found_34.length = z18.length + 1 := by rw [efound_34, List.length_append]; rfl
        exact b_nil (by refine ⟨_, rfl, rfl, h35, by first | omega | (simp only [List.length_append, List.length_cons, List.length_nil] at *; omega)⟩)
      · intro hc26 Gs27 s27
        have dhc26 := hc26
        try simp only [decide_eq_true_eq, decide_eq_false_iff_not, Bool.and_eq_true, Bool.and_eq_false_imp, Bool.or_eq_true, Bool.or_eq_false_iff, Bool.not_eq_true', Bool.not_eq_false', Bool.not_not, ne_eq, Int.not_lt, Int.not_le] at dhc26
        exact b_nil (by refine ⟨_, rfl, rfl, (Rs.mono s27 h20), by first | omega | (simp only [List.length_append, List.length_cons, List.length_nil] at *; omega)⟩)
      · intro z28 _ _ _ sz28 hNz28 hmz28
        obtain ⟨us29, rfl, rfl, h30, hbz28⟩ := hNz28
        refine b_if (S' := ((List (List Nat)))) (fun (z38 : ((List (List Nat)))) σ_ G_ cs_ => ∃ us39 : List V, σ_ = [some (.ref p.1), some (.ref l2)] ∧ (l2, HO.lst us39) :: cs = cs_ ∧ Rs rS G_ z38 us39 ∧ z38.length ≤ z28.length + 1) (t_val (d_isE e_ 3 Er hz hf List.mem_cons_self m_isinstance (d_var 0 (P := rV (.ref p.1)) rfl rfl) rfl)) ?_ ?_ ?_
        · intro hc36 Gs37 s37
          have dhc36 := hc36
          try simp only [decide_eq_true_eq, decide_eq_false_iff_not, Bool.and_eq_true, Bool.and_eq_false_imp, Bool.or_eq_true, Bool.or_eq_false_iff, Bool.not_eq_true', Bool.not_eq_false', Bool.not_not, ne_eq, Int.not_lt, Int.not_le] at dhc36
          refine b_app 0 (P := rS [82, 101, 102, 117, 115, 101, 100]) rfl (d_var 1 (P := rV (.ref l2)) rfl rfl) (d_str (l := [82, 101, 102, 117, 115, 101, 100]) (by decide +kernel)) (by have hq := Rs.length h30; omega) (fun v41 Gs42 s42 h43 => ?_)
          have h45 := Rs.snoc h43 (Rs.mono (s37.trans s42) h30)
          refine letV_intro (fun found_44 efound_44 => ?_)
          rw [← efound_44] at h45
          have nfound_44 : found_44.length = z28.length + 1 := by rw [efound_44, List.length_append]; rfl
          exact b_nil (by refine ⟨_, rfl, rfl, h45, by first | omega | (simp only [List.length_append, List.length_cons, List.length_nil] at *; omega)⟩)
        · intro hc36 Gs37 s37
          have dhc36 := hc36
          try simp only [decide_eq_true_eq, decide_eq_false_iff_not, Bool.and_eq_true, Bool.and_eq_false_imp, Bool.or_eq_true, Bool.or_eq_false_iff, Bool.not_eq_true', Bool.not_eq_false', Bool.not_not, ne_eq, Int.not_lt, Int.not_le] at dhc36
          exact b_nil (by refine ⟨_, rfl, rfl, (Rs.mono s37 h30), by first | omega | (simp only [List.length_append, List.length_cons, List.length_nil] at *; omega)⟩)
        · intro z38 _ _ _ sz38 hNz38 hmz38
          obtain ⟨us39, rfl, rfl, h40, hbz38⟩ := hNz38
          refine b_if (S' := ((List (List Nat)))) (fun (z48 : ((List (List Nat)))) σ_ G_ cs_ => ∃ us49 : List V, σ_ = [some (.ref p.1), some (.ref l2)] ∧ (l2, HO.lst us49) :: cs = cs_ ∧ Rs rS G_ z48 us49 ∧ z48.length ≤ z38.length + 1) (t_val (d_isE e_ 4 Er hz hf List.mem_cons_self m_isinstance (d_var 0 (P := rV (.ref p.1)) rfl rfl) rfl)) ?_ ?_ ?_
          · intro hc46 Gs47 s47
            have dhc46 := hc46
            try simp only [decide_eq_true_eq, decide_eq_false_iff_not, Bool.and_eq_true, Bool.and_eq_false_imp, Bool.or_eq_true, Bool.or_eq_false_iff, Bool.not_eq_true', Bool.not_eq_false', Bool.not_not, ne_eq, Int.not_lt, Int.not_le] at dhc46
            refine b_app 0 (P := rS [70, 117, 108, 108]) rfl (d_var 1 (P := rV (.ref l2)) rfl rfl) (d_str (l := [70, 117, 108, 108]) (by decide +kernel)) (by have hq := Rs.length h40; omega) (fun v51 Gs52 s52 h53 => ?_)
            have h55 := Rs.snoc h53 (Rs.mono (s47.trans s52) h40)
            refine letV_intro (fun found_54 efound_54 => ?_)
            rw [← efound_54] at h55
            have nfound_54 : found_54.length = z38.length + 1 := by rw [efound_54, List.length_append]; rfl
            exact b_nil (by refine ⟨_, rfl, rfl, h55, by first | omega | (simp only [List.length_append, List.length_cons, List.length_nil] at *; omega)⟩)
          · intro hc46 Gs47 s47
            have dhc46 := hc46
            try simp only [decide_eq_true_eq, decide_eq_false_iff_not, Bool.and_eq_true, Bool.and_eq_false_imp, Bool.or_eq_true, Bool.or_eq_false_iff, Bool.not_eq_true', Bool.not_eq_false', Bool.not_not, ne_eq, Int.not_lt, Int.not_le] at dhc46
            exact b_nil (by refine ⟨_, rfl, rfl, (Rs.mono s47 h40), by first | omega | (simp only [List.length_append, List.length_cons, List.length_nil] at *; omega)⟩)
          · intro z48 _ _ _ sz48 hNz48 hmz48
            obtain ⟨us49, rfl, rfl, h50, hbz48⟩ := hNz48
            refine b_if (S' := ((List (List Nat)))) (fun (z58 : ((List (List Nat)))) σ_ G_ cs_ => ∃ us59 : List V, σ_ = [some (.ref p.1), some (.ref l2)] ∧ (l2, HO.lst us59) :: cs = cs_ ∧ Rs rS G_ z58 us59 ∧ z58.length ≤ z48.length + 1) (t_val (d_isE e_ 5 Er hz hf List.mem_cons_self m_isinstance (d_var 0 (P := rV (.ref p.1)) rfl rfl) rfl)) ?_ ?_ ?_
            · intro hc56 Gs57 s57
              have dhc56 := hc56
              try simp only [decide_eq_true_eq, decide_eq_false_iff_not, Bool.and_eq_true, Bool.and_eq_false_imp, Bool.or_eq_true, Bool.or_eq_false_iff, Bool.not_eq_true', Bool.not_eq_false', Bool.not_not, ne_eq, Int.not_lt, Int.not_le] at dhc56
              refine b_app 0 (P := rS [78, 111, 116, 65, 108, 108, 111, 119, 101, 100]) rfl (d_var 1 (P := rV (.ref l2)) rfl rfl) (d_str (l := [78, 111, 116, 65, 108, 108, 111, 119, 101, 100]) (by decide +kernel)) (by have hq := Rs.length h50; omega) (fun v61 Gs62 s62 h63 => ?_)
              have h65 := Rs.snoc h63 (Rs.mono (s57.trans s62) h50)
              refine letV_intro (fun found_64 efound_64 => ?_)
              rw [← efound_64] at h65
              have nfound_64 : found_64.length = z48.length + 1 := by rw [efound_64, List.length_append]; rfl
              exact b_nil (by refine ⟨_, rfl, rfl, h65, by first | omega | (simp only [List.length_append, List.length_cons, List.length_nil] at *; omega)⟩)
            · intro hc56 Gs57 s57
              have dhc56 := hc56
              try simp only [decide_eq_true_eq, decide_eq_false_iff_not, Bool.and_eq_true, Bool.and_eq_false_imp, Bool.or_eq_true, Bool.or_eq_false_iff, Bool.not_eq_true', Bool.not_eq_false', Bool.not_not, ne_eq, Int.not_lt, Int.not_le] at dhc56
              exact b_nil (by refine ⟨_, rfl, rfl, (Rs.mono s57 h50), by first | omega | (simp only [List.length_append, List.length_cons, List.length_nil] at *; omega)⟩)
            · intro z58 _ _ _ sz58 hNz58 hmz58
              obtain ⟨us59, rfl, rfl, h60, hbz58⟩ := hNz58
              refine b_if (S' := ((List (List Nat)))) (fun (z68 : ((List (List Nat)))) σ_ G_ cs_ => ∃ us69 : List V, σ_ = [some (.ref p.1), some (.ref l2)] ∧ (l2, HO.lst us69) :: cs = cs_ ∧ Rs rS G_ z68 us69 ∧ z68.length ≤ z58.length + 1) (t_val (d_isE e_ 6 Er hz hf List.mem_cons_self m_isinstance (d_var 0 (P := rV (.ref p.1)) rfl rfl) rfl)) ?_ ?_ ?_
              · intro hc66 Gs67 s67
                have dhc66 := hc66
                try simp only [decide_eq_true_eq, decide_eq_false_iff_not, Bool.and_eq_true, Bool.and_eq_false_imp, Bool.or_eq_true, Bool.or_eq_false_iff, Bool.not_eq_true', Bool.not_eq_false', Bool.not_not, ne_eq, Int.not_lt, Int.not_le] at dhc66
                refine b_app 0 (P := rS [68, 97, 109, 97, 103, 101, 100]) rfl (d_var 1 (P := rV (.ref l2)) rfl rfl) (d_str (l := [68, 97, 109, 97, 103, 101, 100]) (by decide +kernel)) (by have hq := Rs.length h60; omega) (fun v71 Gs72 s72 h73 => ?_)
                have h75 := Rs.snoc h73 (Rs.mono (s67.trans s72) h60)
                refine letV_intro (fun found_74 efound_74 => ?_)
                rw [← efound_74] at h75
                have nfound_74 : found_74.length = z58.length + 1 := by rw [efound_74, List.length_append]; rfl
                exact b_nil (by refine ⟨_, rfl, rfl, h75, by first | omega | (simp only [List.length_append, List.length_cons, List.length_nil] at *; omega)⟩)
              · intro hc66 Gs67 s67
                have dhc66 := hc66
                try simp only [decide_eq_true_eq, decide_eq_false_iff_not, Bool.and_eq_true, Bool.and_eq_false_imp, Bool.or_eq_true, Bool.or_eq_false_iff, Bool.not_eq_true', Bool.not_eq_false', Bool.not_not, ne_eq, Int.not_lt, Int.not_le] at dhc66
                exact b_nil (by refine ⟨_, rfl, rfl, (Rs.mono s67 h60), by first | omega | (simp only [List.length_append, List.length_cons, List.length_nil] at *; omega)⟩)
              · intro z68 _ _ _ sz68 hNz68 hmz68
                obtain ⟨us69, rfl, rfl, h70, hbz68⟩ := hNz68
                have hzs76 := h70
                refine b_freeze 0 rfl (fun s76 h77 => ?_)
                have kh77 : (rL K rS) z68 _ (.ref l2) := ⟨_, _, rfl, SqL.of h77, Rs.mono s76 hzs76⟩
                refine b_ifx (t_w (w_and (t_cmp op_eq (nomark _) (d_lenL (r := rS) m_len (D.imp (P := (rL K rS) z68) (d_var 1 (P := (rL K rS) z68) rfl kh77) fun _ _ => rdL_of)) d_int fun _ _ _ _ _ _ hx hy _ q => c_eqI hx hy q) fun hk80 => (w_and1 (t_val (d_isV e_ Er hz hf List.mem_cons_self m_isinstance m_ValueError (d_var 0 (P := rV (.ref p.1)) rfl rfl)))))) ?_ ?_
                · intro hc78 Gs79 s79
                  have dhc78 := hc78
                  try simp only [decide_eq_true_eq, decide_eq_false_iff_not, Bool.and_eq_true, Bool.and_eq_false_imp, Bool.or_eq_true, Bool.or_eq_false_iff, Bool.not_eq_true', Bool.not_eq_false', Bool.not_not, ne_eq, Int.not_lt, Int.not_le] at dhc78
                  exact b_ret (P := rS (ixg z68 0)) (d_ixL (r := rS) (xs := z68) (i := 0) (x := (ixg z68 0)) (D.imp (P := (rL K rS) z68) (d_var 1 (P := (rL K rS) z68) rfl (Mono.mono s79 kh77)) fun _ _ => rdL_of) d_int (atI_ixg (by first | (constructor <;> omega) | (simp only [List.length_cons, List.length_nil]; constructor <;> omega) | exact ix_mod (by omega) | (simp only [decide_eq_true_eq, decide_eq_false_iff_not] at *; constructor <;> omega) | (simp only [decide_eq_true_eq, decide_eq_false_iff_not, Bool.and_eq_true, Bool.or_eq_true, Bool.or_eq_false_iff, Bool.not_eq_true', Bool.not_eq_false', Bool.not_not, ne_eq, Int.not_lt, Int.not_le] at *; constructor <;> omega)))) (fun _ _ _ h => ⟨⟨[], rfl⟩, h⟩)
                · intro hc78 Gs79 s79
                  have dhc78 := hc78
                  try simp only [decide_eq_true_eq, decide_eq_false_iff_not, Bool.and_eq_true, Bool.and_eq_false_imp, Bool.or_eq_true, Bool.or_eq_false_iff, Bool.not_eq_true', Bool.not_eq_false', Bool.not_not, ne_eq, Int.not_lt, Int.not_le] at dhc78
                  exact b_ret (P := rS [111, 100, 100]) (d_str (l := [111, 100, 100]) (by decide +kernel)) (fun _ _ _ h => ⟨⟨[], rfl⟩, h⟩)
end Ck47

set_option synthInstance.maxSize 10000
namespace Ck47
open PySem L2 PyProof.Rows J
abbrev s_check_name : Stmt := PySem.Challenge.pw_corebank_k47_names_and_roles.main.body.getD 15 (.Pass ⟨0, 0, 0, 0⟩)
abbrev N_check_name : List Str := ["text"]
theorem sc_check_name : FnScope ["text"] ["text"] (defScope s_check_name) := ⟨rfl, rfl, rfl, by decide +kernel, rfl, by decide +kernel, by decide +kernel⟩
theorem ok_check_name {P : Program} {w : World} {K : PySem.W.Frag} {mg : Str → Option Value} {base : Heap} {f : Addr} {fd : FuncData} (F : Fun K "check_name" "check_name" s_check_name f fd) (b : Binds K fd ["text"] []) (hmg : mg "check_name" = some (.ref f)) {adr : _root_.Fin 7 → Addr} {B0 : Addr} (Er : Errs K mg nm_ adr B0) (F_is_name : Fn0 P w K mg base CX0 1 "is_name" 1 (sp_is_name K)) :
    Fn0 P w K mg base (L2.CX P w) 2 "check_name" 1 (sp_check_name K adr) := by
  have hsl := sizeLine_eq
  refine fn_mkE (cE := cE adr) F sc_check_name b hmg (fun i : ((List Nat)) => b_check_name i) (fun i G vs h => ?_) (fun cdv A outer s H E text_ G cs vs hr hp => ?_)
  · obtain ⟨v0_, h, _⟩ := h
    rw [h]
    rfl
  obtain ⟨v0_, rfl, h0_, hpre⟩ := hp
  cases h0_
  show B _ (wE2 adr (fun c d _ H => E c d H)) _ [some (.str (SX.S text_))] G cs _ (b_check_name text_)
  unfold b_check_name
  try dsimp only at hpre
  refine b_ifx (t_not (t_val (d_callQ (P := rB (m_is_name text_)) (text_) F_is_name hr (by decide) (a_cons (P := rS text_) (d_var 0 (P := rS text_) rfl rfl) a_nil) (fun _ _ s_ h => by obtain ⟨v0, w0, rfl, h0, rfl⟩ := h; exact ⟨v0, rfl, h0, (by (try dsimp only); first | assumption | omega | (refine ⟨?_, ?_⟩ <;> omega) | (refine ⟨?_, ?_, ?_⟩ <;> omega) | simp_all)⟩) fun _ _ h => h))) ?_ ?_
  · intro hc1 Gs2 s2
    have dhc1 := hc1
    try simp only [decide_eq_true_eq, decide_eq_false_iff_not, Bool.and_eq_true, Bool.and_eq_false_imp, Bool.or_eq_true, Bool.or_eq_false_iff, Bool.not_eq_true', Bool.not_eq_false', Bool.not_not, ne_eq, Int.not_lt, Int.not_le] at dhc1
    exact b_raise 0 Er rfl (takes_of rfl rfl rfl rfl) rfl ⟨[], rfl⟩
  · intro hc1 Gs2 s2
    have dhc1 := hc1
    try simp only [decide_eq_true_eq, decide_eq_false_iff_not, Bool.and_eq_true, Bool.and_eq_false_imp, Bool.or_eq_true, Bool.or_eq_false_iff, Bool.not_eq_true', Bool.not_eq_false', Bool.not_not, ne_eq, Int.not_lt, Int.not_le] at dhc1
    exact b_nil ⟨⟨[], rfl⟩, rfl⟩
end Ck47

set_option synthInstance.maxSize 10000
namespace Ck47
open PySem L2 PyProof.Rows J
abbrev s_Orders_add_user : Stmt := inClass (PySem.Challenge.pw_corebank_k47_names_and_roles.main.body.getD 16 (.Pass ⟨0, 0, 0, 0⟩)) 1
abbrev N_Orders_add_user : List Str := ["self", "name", "role"]
theorem sc_Orders_add_user : FnScope ["self", "name", "role"] ["self", "name", "role"] (defScope s_Orders_add_user) := ⟨rfl, rfl, rfl, by decide +kernel, rfl, by decide +kernel, by decide +kernel⟩
theorem ok_Orders_add_user {P : Program} {w : World} {K : PySem.W.Frag} {mg : Str → Option Value} {base : Heap} {f : Addr} {fd : FuncData} (F : Fun K "add_user" "Orders.add_user" s_Orders_add_user f fd) (b : Binds K fd ["self", "name", "role"] []) (M : Meth K (clA mg "Orders") "add_user" f) {adr : _root_.Fin 7 → Addr} {B0 : Addr} (Er : Errs K mg nm_ adr B0) (K_Orders : ClsK K (clA mg "Orders") nf_Orders) (c_ROLES : GlobR mg "ROLES" ((rU K rS) k_ROLES)) (F_check_name : Fn0 P w K mg base (L2.CX P w) 2 "check_name" 1 (sp_check_name K adr)) :
    Mt0 P w K mg base (L2.CX P w) 3 (clA mg "Orders") "add_user" 3 (sp_Orders_add_user K mg adr) := by
  have hsl := sizeLine_eq
  refine ⟨f, fd, ["self", "name", "role"], fn_okME (adr := adr) (pre := pre_Orders_add_user K mg) (post := post_Orders_add_user K mg) (perr := perr_Orders_add_user K mg) F sc_Orders_add_user b (fun i : (Mo_Orders × (List Nat) × (List Nat)) => b_Orders_add_user i.1 i.2.1 i.2.2) (fun i G mc vs h => ?_) (fun cdv A outer s H E i G mc cs vs hr hp => ?_), M, b, rfl⟩
  · obtain ⟨_, _, _, _, _, _, _, _, _, _, _, h, _⟩ := h
    rw [h]
    rfl
  obtain ⟨self_, name_, role_⟩ := i
  obtain ⟨v1_, v2_, a0_, dx0_, l0_, u0_, l0_2, u0_2, v0_, l0_3, u0_3, rfl, rfl, kh0_, kh0_2, h0_, kh0_3, h1_, h2_, hpre⟩ := hp
  replace kh0_ : Ms rS G self_.1 u0_ := kh0_
  replace kh0_2 : Ms rI G self_.2.1 u0_2 := kh0_2
  replace h0_ : (rL K rI) self_.2.2.1 G v0_ := h0_
  replace kh0_3 : Ms rI G self_.2.2.2 u0_3 := kh0_3
  cases h1_
  cases h2_
  show B _ (wE3 adr (fun c d _ H => E c d H)) _ [some (.ref a0_), some (.str (SX.S name_)), some (.str (SX.S role_))] G ((a0_, HO.ins (clA mg "Orders") dx0_ (nf_Orders.zip [.ref l0_, .ref l0_2, v0_, .ref l0_3])) :: (dx0_, HO.own a0_) :: (l0_, HO.dK u0_) :: (l0_2, HO.dK u0_2) :: (l0_3, HO.dK u0_3) :: cs) _ (b_Orders_add_user self_ name_ role_)
  unfold b_Orders_add_user
  try dsimp only at hpre
  have hn1 := hpre.1
  have hn2 := hpre.2
  refine b_exprEM (P := rN) ?_ (fun _ _ _ s_ => ⟨[], [(a0_, HO.ins (clA mg "Orders") dx0_ (nf_Orders.zip [.ref l0_, .ref l0_2, v0_, .ref l0_3])), (dx0_, HO.own a0_), (l0_, HO.dK u0_), (l0_2, HO.dK u0_2), (l0_3, HO.dK u0_3)], (List.Perm.refl _), ⟨_, _, _, _, _, _, _, _, _, _, _, rfl, rfl, (Ms.mono s_ kh0_), (Ms.mono s_ kh0_2), (Mono.mono s_ h0_), (Ms.mono s_ kh0_3)⟩⟩) (fun o2 eo2 Gs1 s1 => ?_)
  · exact (de_callQ (adr := adr) (P := rN) (name_) F_check_name (takes_of rfl rfl rfl rfl) hr (by decide) (a_cons (P := rS name_) (d_var 1 (P := rS name_) rfl rfl) a_nil) (fun _ _ s_ h => by obtain ⟨v0, w0, rfl, h0, rfl⟩ := h; exact ⟨v0, rfl, h0, (by (try dsimp only); first | assumption | omega | (refine ⟨?_, ?_⟩ <;> omega) | (refine ⟨?_, ?_, ?_⟩ <;> omega) | simp_all)⟩) fun _ _ _ h => h)
  refine b_ifx (t_nin (r := rS) (d_var 2 (P := rS role_) rfl rfl) (D.imp (P := (rU K rS) k_ROLES) (d_globR c_ROLES) fun _ _ => rRow_t)) ?_ ?_
  · intro hc3 Gs4 s4
    have dhc3 := hc3
    try simp only [decide_eq_true_eq, decide_eq_false_iff_not, Bool.and_eq_true, Bool.and_eq_false_imp, Bool.or_eq_true, Bool.or_eq_false_iff, Bool.not_eq_true', Bool.not_eq_false', Bool.not_not, ne_eq, Int.not_lt, Int.not_le] at dhc3
    exact b_raiseM (t := (self_)) 0 Er rfl (takes_of rfl rfl rfl rfl) rfl ⟨[], [(a0_, HO.ins (clA mg "Orders") dx0_ (nf_Orders.zip [.ref l0_, .ref l0_2, v0_, .ref l0_3])), (dx0_, HO.own a0_), (l0_, HO.dK u0_), (l0_2, HO.dK u0_2), (l0_3, HO.dK u0_3)], (List.Perm.refl _), ⟨_, _, _, _, _, _, _, _, _, _, _, rfl, rfl, (Ms.mono (s1.trans s4) kh0_), (Ms.mono (s1.trans s4) kh0_2), (Mono.mono (s1.trans s4) h0_), (Ms.mono (s1.trans s4) kh0_3)⟩⟩
  · intro hc3 Gs4 s4
    have dhc3 := hc3
    try simp only [decide_eq_true_eq, decide_eq_false_iff_not, Bool.and_eq_true, Bool.and_eq_false_imp, Bool.or_eq_true, Bool.or_eq_false_iff, Bool.not_eq_true', Bool.not_eq_false', Bool.not_not, ne_eq, Int.not_lt, Int.not_le] at dhc3
    refine b_ifx (t_min (rk := rS) (hu_of hr) (d_var 1 (P := rS name_) rfl rfl) (d_fld 0 (P := rV (.ref l0_)) K_Orders (d_var 0 (P := rV (.ref a0_)) rfl rfl) List.mem_cons_self rfl) (List.mem_cons_of_mem _ (List.mem_cons_of_mem _ List.mem_cons_self)) (Ms.mono (s1.trans s4) kh0_)) ?_ ?_
    · intro hc5 Gs6 s6
      have dhc5 := hc5
      try simp only [decide_eq_true_eq, decide_eq_false_iff_not, Bool.and_eq_true, Bool.and_eq_false_imp, Bool.or_eq_true, Bool.or_eq_false_iff, Bool.not_eq_true', Bool.not_eq_false', Bool.not_not, ne_eq, Int.not_lt, Int.not_le] at dhc5
      exact b_raiseM (t := (self_)) 3 Er rfl (takes_of rfl rfl rfl rfl) rfl ⟨[], [(a0_, HO.ins (clA mg "Orders") dx0_ (nf_Orders.zip [.ref l0_, .ref l0_2, v0_, .ref l0_3])), (dx0_, HO.own a0_), (l0_, HO.dK u0_), (l0_2, HO.dK u0_2), (l0_3, HO.dK u0_3)], (List.Perm.refl _), ⟨_, _, _, _, _, _, _, _, _, _, _, rfl, rfl, (Ms.mono (s1.trans (s4.trans s6)) kh0_), (Ms.mono (s1.trans (s4.trans s6)) kh0_2), (Mono.mono (s1.trans (s4.trans s6)) h0_), (Ms.mono (s1.trans (s4.trans s6)) kh0_3)⟩⟩
    · intro hc5 Gs6 s6
      have dhc5 := hc5
      try simp only [decide_eq_true_eq, decide_eq_false_iff_not, Bool.and_eq_true, Bool.and_eq_false_imp, Bool.or_eq_true, Bool.or_eq_false_iff, Bool.not_eq_true', Bool.not_eq_false', Bool.not_not, ne_eq, Int.not_lt, Int.not_le] at dhc5
      refine b_mput (P := rS role_) (rk := rS) (kk := name_) 2 (hu_of hr) rfl (d_var 2 (P := rS role_) rfl rfl) (d_fld 0 (P := rV (.ref l0_)) K_Orders (d_var 0 (P := rV (.ref a0_)) rfl rfl) List.mem_cons_self rfl) (d_var 1 (P := rS name_) rfl rfl) (by have hq := Ms.length kh0_; omega) (fun v7 Gs8 s8 h9 => ?_)
      have kh10 := Ms.put (k := name_) h9 (Ms.mono (s1.trans (s4.trans (s6.trans s8))) kh0_)
      refine letV_intro (fun roles_11 eroles_11 => ?_)
      rw [← eroles_11] at kh10
      have nroles_11 : roles_11.length ≤ self_.1.length + 1 := by rw [eroles_11]; exact mput_le _ _ _
      exact b_nil ⟨[], [(a0_, HO.ins (clA mg "Orders") dx0_ (nf_Orders.zip [.ref l0_, .ref l0_2, v0_, .ref l0_3])), (dx0_, HO.own a0_), (l0_, HO.dK (putK u0_ (KeyR.key name_) v7)), (l0_2, HO.dK u0_2), (l0_3, HO.dK u0_3)], (List.Perm.refl _), ⟨_, _, _, _, _, _, _, _, _, _, _, rfl, rfl, kh10, (Ms.mono (s1.trans (s4.trans (s6.trans s8))) kh0_2), (Mono.mono (s1.trans (s4.trans (s6.trans s8))) h0_), (Ms.mono (s1.trans (s4.trans (s6.trans s8))) kh0_3), rfl⟩⟩
end Ck47

set_option synthInstance.maxSize 10000
namespace Ck47
open PySem L2 PyProof.Rows J
abbrev s_law_add : Stmt := PySem.Challenge.pw_corebank_k47_names_and_roles.main.body.getD 22 (.Pass ⟨0, 0, 0, 0⟩)
abbrev N_law_add : List Str := ["_law_orders", "_law_name", "_law_role_here", "_law_answer", "_law_e"]
theorem sc_law_add : FnScope ["_law_orders", "_law_name", "_law_role_here", "_law_answer", "_law_e"] ["_law_orders", "_law_name", "_law_role_here"] (defScope s_law_add) := ⟨rfl, rfl, rfl, by decide +kernel, rfl, by decide +kernel, by decide +kernel⟩
theorem ok_law_add {P : Program} {w : World} {K : PySem.W.Frag} {mg : Str → Option Value} {base : Heap} {f : Addr} {fd : FuncData} (F : Fun K "_law_add" "_law_add" s_law_add f fd) (b : Binds K fd ["_law_orders", "_law_name", "_law_role_here"] []) (hmg : mg "_law_add" = some (.ref f)) {adr : _root_.Fin 7 → Addr} {B0 : Addr} (Er : Errs K mg nm_ adr B0) (K_Orders : ClsK K (clA mg "Orders") nf_Orders) (F_Orders_add_user : Mt0 P w K mg base (L2.CX P w) 3 (clA mg "Orders") "add_user" 3 (sp_Orders_add_user K mg adr)) (F_law_class : FnX P w K mg base 1 "_law_class" 1 (sp_law_class K adr)) :
    Fn0 P w K mg base CX0 4 "_law_add" 3 (sp_law_add K mg) := by
  have hsl := sizeLine_eq
  refine ⟨f, fd, ["_law_orders", "_law_name", "_law_role_here"], fn_okM (pre := pre_law_add K mg) (post := post_law_add K mg) F sc_law_add b (fun i : (Mo_Orders × (List Nat) × (List Nat)) => b_law_add i.1 i.2.1 i.2.2) (fun i G mc vs h => ?_) (fun cdv A outer s H E i G mc cs vs hr hp => ?_), hmg, F.kp, b, rfl⟩
  · obtain ⟨_, _, _, _, _, _, _, _, _, _, _, h, _⟩ := h
    rw [h]
    rfl
  obtain ⟨orders_, name_, role_here_⟩ := i
  obtain ⟨v1_, v2_, a0_, dx0_, l0_, u0_, l0_2, u0_2, v0_, l0_3, u0_3, rfl, rfl, kh0_, kh0_2, h0_, kh0_3, h1_, h2_, hpre⟩ := hp
  replace kh0_ : Ms rS G orders_.1 u0_ := kh0_
  replace kh0_2 : Ms rI G orders_.2.1 u0_2 := kh0_2
  replace h0_ : (rL K rI) orders_.2.2.1 G v0_ := h0_
  replace kh0_3 : Ms rI G orders_.2.2.2 u0_3 := kh0_3
  cases h1_
  cases h2_
  show B _ _ _ [some (.ref a0_), some (.str (SX.S name_)), some (.str (SX.S role_here_)), none, none] G ((a0_, HO.ins (clA mg "Orders") dx0_ (nf_Orders.zip [.ref l0_, .ref l0_2, v0_, .ref l0_3])) :: (dx0_, HO.own a0_) :: (l0_, HO.dK u0_) :: (l0_2, HO.dK u0_2) :: (l0_3, HO.dK u0_3) :: cs) _ (b_law_add orders_ name_ role_here_)
  unfold b_law_add
  try dsimp only at hpre
  refine b_tryAsM 4 (S' := (Unit × Mo_Orders)) (fun (z1 : (Unit × Mo_Orders)) σ_ G_ cs_ => ∃ dx2 : Addr, ∃ l3 : Addr, ∃ us4 : List (Key × V), ∃ l6 : Addr, ∃ us7 : List (Key × V), ∃ v9 : V, ∃ l11 : Addr, ∃ us12 : List (Key × V), ∃ o14 : Option V, σ_ = [some (.ref a0_), some (.str (SX.S name_)), some (.str (SX.S role_here_)), some (.non), o14] ∧ (a0_, HO.ins (clA mg "Orders") dx2 (nf_Orders.zip [.ref l3, .ref l6, v9, .ref l11])) :: (dx2, HO.own a0_) :: (l3, HO.dK us4) :: (l6, HO.dK us7) :: (l11, HO.dK us12) :: cs = cs_ ∧ Ms rS G_ z1.2.1 us4 ∧ Ms rI G_ z1.2.2.1 us7 ∧ (rL K rI) z1.2.2.2.1 G_ v9 ∧ Ms rI G_ z1.2.2.2.2 us12) (fun (k15 : _root_.Fin 7 × Mo_Orders) σ_ G_ cs_ => ∃ dx16 : Addr, ∃ l17 : Addr, ∃ us18 : List (Key × V), ∃ l20 : Addr, ∃ us21 : List (Key × V), ∃ v23 : V, ∃ l25 : Addr, ∃ us26 : List (Key × V), ∃ o28 : Option V, ∃ o29 : Option V, σ_ = [some (.ref a0_), some (.str (SX.S name_)), some (.str (SX.S role_here_)), o28, o29] ∧ (a0_, HO.ins (clA mg "Orders") dx16 (nf_Orders.zip [.ref l17, .ref l20, v23, .ref l25])) :: (dx16, HO.own a0_) :: (l17, HO.dK us18) :: (l20, HO.dK us21) :: (l25, HO.dK us26) :: cs = cs_ ∧ Ms rS G_ k15.2.1 us18 ∧ Ms rI G_ k15.2.2.1 us21 ∧ (rL K rI) k15.2.2.2.1 G_ v23 ∧ Ms rI G_ k15.2.2.2.2 us26) Er sc_law_add.nd ?_ ?_ ?_
  · intro Wx30 _ _ tk31 po32
    refine b_setX 3 sc_law_add.nd (ex_methME (adr := adr) (orders_, name_, role_here_) F_Orders_add_user K_Orders.cl tk31 hr (by decide) (d_var 0 (P := rV (.ref a0_)) rfl rfl) List.mem_cons_self (lookup_zip_no (by decide +kernel)) ?_)
    refine ac_cons ?_
    refine ec_D (P := rS name_) (d_var 1 (P := rS name_) rfl rfl) (fun v34 Gs33 s33 h35 => ?_)
    refine ac_cons ?_
    refine ec_D (P := rS role_here_) (d_var 2 (P := rS role_here_) rfl rfl) (fun v37 Gs36 s36 h38 => ?_)
    refine ac_nil' (fun Gs39 s39 => ?_)
    refine ⟨[(a0_, HO.ins (clA mg "Orders") dx0_ (nf_Orders.zip [.ref l0_, .ref l0_2, v0_, .ref l0_3])), (dx0_, HO.own a0_), (l0_, HO.dK u0_), (l0_2, HO.dK u0_2), (l0_3, HO.dK u0_3)], cs, (List.Perm.refl _), ⟨_, _, _, _, _, _, _, _, _, _, _, rfl, rfl, (Ms.mono (s33.trans (s36.trans s39)) kh0_), (Ms.mono (s33.trans (s36.trans s39)) kh0_2), (Mono.mono (s33.trans (s36.trans s39)) h0_), (Ms.mono (s33.trans (s36.trans s39)) kh0_3), (Mono.mono (s36.trans s39) h35), (Mono.mono s39 h38), (by exact hpre)⟩, ?_, ?_⟩
    · rintro o42 v59 Gs40 mc41 eo43 s40 ⟨v44, v45, a46, dx47, l48, us49, l51, us52, v54, l56, us57, e_, rfl, kh50, kh53, h55, kh58, h60⟩
      cases e_
      refine ⟨(a0_, HO.ins (clA mg "Orders") dx47 (nf_Orders.zip [.ref l48, .ref l51, v54, .ref l56])) :: (dx47, HO.own a0_) :: (l48, HO.dK us49) :: (l51, HO.dK us52) :: (l56, HO.dK us57) :: cs, (List.Perm.refl _), ?_⟩
      intro _ _
      cases h60
      exact b_nil (by refine ⟨_, _, _, _, _, _, _, _, _, rfl, rfl, kh50, kh53, h55, kh58⟩)
    · rintro c63 t62 Gs61 mc41 _ s61 ⟨v64, v65, a66, dx67, l68, us69, l71, us72, v74, l76, us77, e_, rfl, kh70, kh73, h75, kh78⟩
      cases e_
      exact ⟨(a0_, HO.ins (clA mg "Orders") dx67 (nf_Orders.zip [.ref l68, .ref l71, v74, .ref l76])) :: (dx67, HO.own a0_) :: (l68, HO.dK us69) :: (l71, HO.dK us72) :: (l76, HO.dK us77) :: cs, (List.Perm.refl _), fun _ => ⟨_, _, _, _, _, _, _, _, _, _, rfl, rfl, kh70, kh73, h75, kh78⟩⟩
  · intro k15 hm87 a80 oe81 pn82 _ _ _ s83 hNk15 hz84 hf85
    obtain ⟨dx16, l17, us18, l20, us21, v23, l25, us26, o28, o29, rfl, rfl, kh19, kh22, h24, kh27⟩ := hNk15
    exact b_ret (P := (rO rS) (some (m_law_class k15.1))) (d_toO (r := rS) (d_callX (P := rS (m_law_class k15.1)) k15.1 F_law_class (roomX hr (by decide)) List.mem_cons_self hz84 hf85 (d_var 4 (P := rV (.ref a80)) rfl rfl) fun _ _ h => h)) (fun v_ Gs86 s86 h_ => ⟨[], [(a0_, HO.ins (clA mg "Orders") dx16 (nf_Orders.zip [.ref l17, .ref l20, v23, .ref l25])), (dx16, HO.own a0_), (l17, HO.dK us18), (l20, HO.dK us21), (l25, HO.dK us26)], (List.Perm.refl _), ⟨_, _, _, _, _, _, _, _, _, _, _, rfl, rfl, (Ms.mono s86 kh19), (Ms.mono s86 kh22), (Mono.mono s86 h24), (Ms.mono s86 kh27), h_⟩⟩)
  · intro z1 _ _ _ sz1 hNz1 hmz1
    obtain ⟨dx2, l3, us4, l6, us7, v9, l11, us12, o14, rfl, rfl, kh5, kh8, h10, kh13⟩ := hNz1
    exact b_ret (P := (rO rS) none) (d_toN (r := rS) (d_var 3 (P := rN z1.1) rfl rfl)) (fun v_ Gs88 s88 h_ => ⟨[], [(a0_, HO.ins (clA mg "Orders") dx2 (nf_Orders.zip [.ref l3, .ref l6, v9, .ref l11])), (dx2, HO.own a0_), (l3, HO.dK us4), (l6, HO.dK us7), (l11, HO.dK us12)], (List.Perm.refl _), ⟨_, _, _, _, _, _, _, _, _, _, _, rfl, rfl, (Ms.mono s88 kh5), (Ms.mono s88 kh8), (Mono.mono s88 h10), (Ms.mono s88 kh13), h_⟩⟩)
end Ck47

set_option synthInstance.maxSize 10000
namespace Ck47
open PySem L2 PyProof.Rows J
abbrev s_Orders_role_of : Stmt := inClass (PySem.Challenge.pw_corebank_k47_names_and_roles.main.body.getD 16 (.Pass ⟨0, 0, 0, 0⟩)) 2
abbrev N_Orders_role_of : List Str := ["self", "name"]
theorem sc_Orders_role_of : FnScope ["self", "name"] ["self", "name"] (defScope s_Orders_role_of) := ⟨rfl, rfl, rfl, by decide +kernel, rfl, by decide +kernel, by decide +kernel⟩
theorem ok_Orders_role_of {P : Program} {w : World} {K : PySem.W.Frag} {mg : Str → Option Value} {base : Heap} {f : Addr} {fd : FuncData} (F : Fun K "role_of" "Orders.role_of" s_Orders_role_of f fd) (b : Binds K fd ["self", "name"] []) (M : Meth K (clA mg "Orders") "role_of" f) {adr : _root_.Fin 7 → Addr} {B0 : Addr} (Er : Errs K mg nm_ adr B0) (K_Orders : ClsK K (clA mg "Orders") nf_Orders) :
    Mt0 P w K mg base (L2.CX P w) 1 (clA mg "Orders") "role_of" 2 (sp_Orders_role_of K mg adr) := by
  have hsl := sizeLine_eq
  refine ⟨f, fd, ["self", "name"], fn_okRE (adr := adr) (pre := pre_Orders_role_of K mg) (r := fun _ o => rS o) F sc_Orders_role_of (fun i : (Mo_Orders × (List Nat)) => b_Orders_role_of i.1 i.2) (fun i G mc vs h => ?_) (fun cdv A outer s H E i G mc cs vs hr hp => ?_), M, b, rfl⟩
  · obtain ⟨_, _, _, _, _, _, _, _, _, _, h, _⟩ := h
    rw [h]
    rfl
  obtain ⟨self_, name_⟩ := i
  obtain ⟨v1_, a0_, dx0_, l0_, u0_, l0_2, u0_2, v0_, l0_3, u0_3, rfl, rfl, kh0_, kh0_2, h0_, kh0_3, h1_⟩ := hp
  replace kh0_ : Ms rS G self_.1 u0_ := kh0_
  replace kh0_2 : Ms rI G self_.2.1 u0_2 := kh0_2
  replace h0_ : (rL K rI) self_.2.2.1 G v0_ := h0_
  replace kh0_3 : Ms rI G self_.2.2.2 u0_3 := kh0_3
  cases h1_
  show B _ (wE2 adr (fun c d _ H => E c d H)) _ [some (.ref a0_), some (.str (SX.S name_))] G ((a0_, HO.ins (clA mg "Orders") dx0_ (nf_Orders.zip [.ref l0_, .ref l0_2, v0_, .ref l0_3])) :: (dx0_, HO.own a0_) :: (l0_, HO.dK u0_) :: (l0_2, HO.dK u0_2) :: (l0_3, HO.dK u0_3) :: cs) _ (b_Orders_role_of self_ name_)
  unfold b_Orders_role_of
  refine b_ifx (t_mnin (rk := rS) (hu_of hr) (d_var 1 (P := rS name_) rfl rfl) (d_fld 0 (P := rV (.ref l0_)) K_Orders (d_var 0 (P := rV (.ref a0_)) rfl rfl) List.mem_cons_self rfl) (List.mem_cons_of_mem _ (List.mem_cons_of_mem _ List.mem_cons_self)) kh0_) ?_ ?_
  · intro hc1 Gs2 s2
    have dhc1 := hc1
    try simp only [decide_eq_true_eq, decide_eq_false_iff_not, Bool.and_eq_true, Bool.and_eq_false_imp, Bool.or_eq_true, Bool.or_eq_false_iff, Bool.not_eq_true', Bool.not_eq_false', Bool.not_not, ne_eq, Int.not_lt, Int.not_le] at dhc1
    exact b_raise 2 Er rfl (takes_of rfl rfl rfl rfl) rfl ⟨[], rfl⟩
  · intro hc1 Gs2 s2
    have dhc1 := hc1
    try simp only [decide_eq_true_eq, decide_eq_false_iff_not, Bool.and_eq_true, Bool.and_eq_false_imp, Bool.or_eq_true, Bool.or_eq_false_iff, Bool.not_eq_true', Bool.not_eq_false', Bool.not_not, ne_eq, Int.not_lt, Int.not_le] at dhc1
    exact b_ret (P := rS (mval self_.1 name_)) (d_mget (rk := rS) (hu_of hr) (d_fld 0 (P := rV (.ref l0_)) K_Orders (d_var 0 (P := rV (.ref a0_)) rfl rfl) List.mem_cons_self rfl) (d_var 1 (P := rS name_) rfl rfl) (List.mem_cons_of_mem _ (List.mem_cons_of_mem _ List.mem_cons_self)) (Ms.mono s2 kh0_) (by first | assumption | simp_all)) (fun _ _ _ h => ⟨⟨[], rfl⟩, h⟩)
end Ck47

set_option synthInstance.maxSize 10000
namespace Ck47
open PySem L2 PyProof.Rows J
abbrev s_law_role : Stmt := PySem.Challenge.pw_corebank_k47_names_and_roles.main.body.getD 23 (.Pass ⟨0, 0, 0, 0⟩)
abbrev N_law_role : List Str := ["_law_orders", "_law_name", "_law_answer", "_law_e"]
theorem sc_law_role : FnScope ["_law_orders", "_law_name", "_law_answer", "_law_e"] ["_law_orders", "_law_name"] (defScope s_law_role) := ⟨rfl, rfl, rfl, by decide +kernel, rfl, by decide +kernel, by decide +kernel⟩
theorem ok_law_role {P : Program} {w : World} {K : PySem.W.Frag} {mg : Str → Option Value} {base : Heap} {f : Addr} {fd : FuncData} (F : Fun K "_law_role" "_law_role" s_law_role f fd) (b : Binds K fd ["_law_orders", "_law_name"] []) (hmg : mg "_law_role" = some (.ref f)) {adr : _root_.Fin 7 → Addr} {B0 : Addr} (Er : Errs K mg nm_ adr B0) (K_Orders : ClsK K (clA mg "Orders") nf_Orders) (F_Orders_role_of : Mt0 P w K mg base (L2.CX P w) 1 (clA mg "Orders") "role_of" 2 (sp_Orders_role_of K mg adr)) (F_law_class : FnX P w K mg base 1 "_law_class" 1 (sp_law_class K adr)) :
    Fn0 P w K mg base CX0 2 "_law_role" 2 (sp_law_role K mg) := by
  have hsl := sizeLine_eq
  refine ⟨f, fd, ["_law_orders", "_law_name"], fn_okR (pre := pre_law_role K mg) (r := fun _ o => (rSum rS (rT K (c0 rS))) o) F sc_law_role (fun i : (Mo_Orders × (List Nat)) => b_law_role i.1 i.2) (fun i G mc vs h => ?_) (fun cdv A outer s H E i G mc cs vs hr hp => ?_), hmg, F.kp, b, rfl⟩
  · obtain ⟨_, _, _, _, _, _, _, _, _, _, h, _⟩ := h
    rw [h]
    rfl
  obtain ⟨orders_, name_⟩ := i
  obtain ⟨v1_, a0_, dx0_, l0_, u0_, l0_2, u0_2, v0_, l0_3, u0_3, rfl, rfl, kh0_, kh0_2, h0_, kh0_3, h1_⟩ := hp
  replace kh0_ : Ms rS G orders_.1 u0_ := kh0_
  replace kh0_2 : Ms rI G orders_.2.1 u0_2 := kh0_2
  replace h0_ : (rL K rI) orders_.2.2.1 G v0_ := h0_
  replace kh0_3 : Ms rI G orders_.2.2.2 u0_3 := kh0_3
  cases h1_
  show B _ _ _ [some (.ref a0_), some (.str (SX.S name_)), none, none] G ((a0_, HO.ins (clA mg "Orders") dx0_ (nf_Orders.zip [.ref l0_, .ref l0_2, v0_, .ref l0_3])) :: (dx0_, HO.own a0_) :: (l0_, HO.dK u0_) :: (l0_2, HO.dK u0_2) :: (l0_3, HO.dK u0_3) :: cs) _ (b_law_role orders_ name_)
  unfold b_law_role
  refine b_tryAs 3 (S' := ((List Nat))) (fun (z1 : ((List Nat))) σ_ G_ cs_ => ∃ o2 : Option V, σ_ = [some (.ref a0_), some (.str (SX.S name_)), some (.str (SX.S z1)), o2] ∧ (a0_, HO.ins (clA mg "Orders") dx0_ (nf_Orders.zip [.ref l0_, .ref l0_2, v0_, .ref l0_3])) :: (dx0_, HO.own a0_) :: (l0_, HO.dK u0_) :: (l0_2, HO.dK u0_2) :: (l0_3, HO.dK u0_3) :: cs = cs_) (fun (k3 : _root_.Fin 7) σ_ G_ cs_ => ∃ o4 : Option V, ∃ o5 : Option V, σ_ = [some (.ref a0_), some (.str (SX.S name_)), o4, o5] ∧ (a0_, HO.ins (clA mg "Orders") dx0_ (nf_Orders.zip [.ref l0_, .ref l0_2, v0_, .ref l0_3])) :: (dx0_, HO.own a0_) :: (l0_, HO.dK u0_) :: (l0_2, HO.dK u0_2) :: (l0_3, HO.dK u0_3) :: cs = cs_) Er sc_law_role.nd ?_ ?_ ?_
  · intro Wx6 _ _ tk7 po8
    refine b_setE (P := rS) 2 sc_law_role.nd ?_ (fun _ _ _ s_ => ⟨_, _, rfl, rfl⟩) (fun answer_12 eanswer_12 v10 Gs9 s9 h11 => ?_)
    · exact (de_methRq (adr := adr) (Q' := rS) (orders_, name_) F_Orders_role_of K_Orders.cl tk7 hr (by decide) (d_var 0 (P := rV (.ref a0_)) rfl rfl) List.mem_cons_self (lookup_zip_no (by decide +kernel)) (a_cons (P := rS name_) (d_var 1 (P := rS name_) rfl rfl) a_nil) (fun _ _ s_ h => by obtain ⟨v1, w1, rfl, h1, rfl⟩ := h; exact ⟨[(a0_, HO.ins (clA mg "Orders") dx0_ (nf_Orders.zip [.ref l0_, .ref l0_2, v0_, .ref l0_3])), (dx0_, HO.own a0_), (l0_, HO.dK u0_), (l0_2, HO.dK u0_2), (l0_3, HO.dK u0_3)], cs, (List.Perm.refl _), ⟨_, _, _, _, _, _, _, _, _, _, rfl, rfl, (Ms.mono s_ kh0_), (Ms.mono s_ kh0_2), (Mono.mono s_ h0_), (Ms.mono s_ kh0_3), h1⟩⟩) fun _ _ _ h => h)
    cases h11
    exact b_nil (by refine ⟨_, rfl, rfl⟩)
  · intro k3 hm19 a13 oe14 pn15 _ _ _ s16 hNk3 hz17 hf18
    obtain ⟨o4, o5, rfl, rfl⟩ := hNk3
    exact b_ret (P := (rSum rS (rT K (c0 rS))) (Sum.inr ((m_law_class k3)))) (d_inr (r := rS) (r' := (rT K (c0 rS))) (d_tup (r := (c0 rS)) (x := ((m_law_class k3))) (a_cons (P := rS (m_law_class k3)) (d_callX (P := rS (m_law_class k3)) k3 F_law_class (roomX hr (by decide)) List.mem_cons_self hz17 hf18 (d_var 3 (P := rV (.ref a13)) rfl rfl) fun _ _ h => h) a_nil) tp_1)) (fun _ _ _ h => ⟨⟨[], rfl⟩, h⟩)
  · intro z1 _ _ _ sz1 hNz1 hmz1
    obtain ⟨o2, rfl, rfl⟩ := hNz1
    exact b_ret (P := (rSum rS (rT K (c0 rS))) (Sum.inl z1)) (d_inl (r := rS) (r' := (rT K (c0 rS))) (d_var 2 (P := rS z1) rfl rfl)) (fun _ _ _ h => ⟨⟨[], rfl⟩, h⟩)
end Ck47

set_option synthInstance.maxSize 10000
namespace Ck47
open PySem L2 PyProof.Rows J
abbrev s_Orders_may : Stmt := inClass (PySem.Challenge.pw_corebank_k47_names_and_roles.main.body.getD 16 (.Pass ⟨0, 0, 0, 0⟩)) 3
abbrev N_Orders_may : List Str := ["self", "name", "role"]
theorem sc_Orders_may : FnScope ["self", "name", "role"] ["self", "name", "role"] (defScope s_Orders_may) := ⟨rfl, rfl, rfl, by decide +kernel, rfl, by decide +kernel, by decide +kernel⟩
theorem ok_Orders_may {P : Program} {w : World} {K : PySem.W.Frag} {mg : Str → Option Value} {base : Heap} {f : Addr} {fd : FuncData} (F : Fun K "may" "Orders.may" s_Orders_may f fd) (b : Binds K fd ["self", "name", "role"] []) (M : Meth K (clA mg "Orders") "may" f) {adr : _root_.Fin 7 → Addr} {B0 : Addr} (Er : Errs K mg nm_ adr B0) (K_Orders : ClsK K (clA mg "Orders") nf_Orders) (c_ROLES : GlobR mg "ROLES" ((rU K rS) k_ROLES)) (i_ROLES : GlobR mg "ROLES" (rUK K k_ROLES)) :
    Mt0 P w K mg base (L2.CX P w) 1 (clA mg "Orders") "may" 3 (sp_Orders_may K mg adr) := by
  have hsl := sizeLine_eq
  refine ⟨f, fd, ["self", "name", "role"], fn_okRE (adr := adr) (pre := pre_Orders_may K mg) (r := fun _ o => rB o) F sc_Orders_may (fun i : (Mo_Orders × (List Nat) × (List Nat)) => b_Orders_may i.1 i.2.1 i.2.2) (fun i G mc vs h => ?_) (fun cdv A outer s H E i G mc cs vs hr hp => ?_), M, b, rfl⟩
  · obtain ⟨_, _, _, _, _, _, _, _, _, _, _, h, _⟩ := h
    rw [h]
    rfl
  obtain ⟨self_, name_, role_⟩ := i
  obtain ⟨v1_, v2_, a0_, dx0_, l0_, u0_, l0_2, u0_2, v0_, l0_3, u0_3, rfl, rfl, kh0_, kh0_2, h0_, kh0_3, h1_, h2_, hpre⟩ := hp
  replace kh0_ : Ms rS G self_.1 u0_ := kh0_
  replace kh0_2 : Ms rI G self_.2.1 u0_2 := kh0_2
  replace h0_ : (rL K rI) self_.2.2.1 G v0_ := h0_
  replace kh0_3 : Ms rI G self_.2.2.2 u0_3 := kh0_3
  cases h1_
  cases h2_
  show B _ (wE2 adr (fun c d _ H => E c d H)) _ [some (.ref a0_), some (.str (SX.S name_)), some (.str (SX.S role_))] G ((a0_, HO.ins (clA mg "Orders") dx0_ (nf_Orders.zip [.ref l0_, .ref l0_2, v0_, .ref l0_3])) :: (dx0_, HO.own a0_) :: (l0_, HO.dK u0_) :: (l0_2, HO.dK u0_2) :: (l0_3, HO.dK u0_3) :: cs) _ (b_Orders_may self_ name_ role_)
  unfold b_Orders_may
  try dsimp only at hpre
  refine b_ifx (t_nin (r := rS) (d_var 2 (P := rS role_) rfl rfl) (D.imp (P := (rU K rS) k_ROLES) (d_globR c_ROLES) fun _ _ => rRow_t)) ?_ ?_
  · intro hc1 Gs2 s2
    have dhc1 := hc1
    try simp only [decide_eq_true_eq, decide_eq_false_iff_not, Bool.and_eq_true, Bool.and_eq_false_imp, Bool.or_eq_true, Bool.or_eq_false_iff, Bool.not_eq_true', Bool.not_eq_false', Bool.not_not, ne_eq, Int.not_lt, Int.not_le] at dhc1
    exact b_raise 0 Er rfl (takes_of rfl rfl rfl rfl) rfl ⟨[], rfl⟩
  · intro hc1 Gs2 s2
    have dhc1 := hc1
    try simp only [decide_eq_true_eq, decide_eq_false_iff_not, Bool.and_eq_true, Bool.and_eq_false_imp, Bool.or_eq_true, Bool.or_eq_false_iff, Bool.not_eq_true', Bool.not_eq_false', Bool.not_not, ne_eq, Int.not_lt, Int.not_le] at dhc1
    refine b_ifx (t_mnin (rk := rS) (hu_of hr) (d_var 1 (P := rS name_) rfl rfl) (d_fld 0 (P := rV (.ref l0_)) K_Orders (d_var 0 (P := rV (.ref a0_)) rfl rfl) List.mem_cons_self rfl) (List.mem_cons_of_mem _ (List.mem_cons_of_mem _ List.mem_cons_self)) (Ms.mono s2 kh0_)) ?_ ?_
    · intro hc3 Gs4 s4
      have dhc3 := hc3
      try simp only [decide_eq_true_eq, decide_eq_false_iff_not, Bool.and_eq_true, Bool.and_eq_false_imp, Bool.or_eq_true, Bool.or_eq_false_iff, Bool.not_eq_true', Bool.not_eq_false', Bool.not_not, ne_eq, Int.not_lt, Int.not_le] at dhc3
      exact b_ret (P := rB false) d_bl (fun _ _ _ h => ⟨⟨[], rfl⟩, h⟩)
    · intro hc3 Gs4 s4
      have dhc3 := hc3
      try simp only [decide_eq_true_eq, decide_eq_false_iff_not, Bool.and_eq_true, Bool.and_eq_false_imp, Bool.or_eq_true, Bool.or_eq_false_iff, Bool.not_eq_true', Bool.not_eq_false', Bool.not_not, ne_eq, Int.not_lt, Int.not_le] at dhc3
      exact b_ret (P := rB (decide ((idxL k_ROLES role_) ≤ (idxL k_ROLES (mval self_.1 name_))))) (d_cmp op_ge (nomark _) (d_tindex (d_globR i_ROLES) (d_mget (rk := rS) (hu_of hr) (d_fld 0 (P := rV (.ref l0_)) K_Orders (d_var 0 (P := rV (.ref a0_)) rfl rfl) List.mem_cons_self rfl) (d_var 1 (P := rS name_) rfl rfl) (List.mem_cons_of_mem _ (List.mem_cons_of_mem _ List.mem_cons_self)) (Ms.mono (s2.trans s4) kh0_) (by first | assumption | simp_all)) (by first | exact hpre.val (by assumption) | exact inB_iff.mp (by assumption))) (d_tindex (d_globR i_ROLES) (d_var 2 (P := rS role_) rfl rfl) (by first | exact hpre.val (by assumption) | exact inB_iff.mp (by assumption))) fun _ _ _ _ _ _ hx hy _ q => c_ge hx hy q) (fun _ _ _ h => ⟨⟨[], rfl⟩, h⟩)
end Ck47

set_option synthInstance.maxSize 10000
namespace Ck47
open PySem L2 PyProof.Rows J
abbrev s_law_may : Stmt := PySem.Challenge.pw_corebank_k47_names_and_roles.main.body.getD 24 (.Pass ⟨0, 0, 0, 0⟩)
abbrev N_law_may : List Str := ["_law_orders", "_law_name", "_law_role_here", "_law_answer", "_law_e"]
theorem sc_law_may : FnScope ["_law_orders", "_law_name", "_law_role_here", "_law_answer", "_law_e"] ["_law_orders", "_law_name", "_law_role_here"] (defScope s_law_may) := ⟨rfl, rfl, rfl, by decide +kernel, rfl, by decide +kernel, by decide +kernel⟩
theorem ok_law_may {P : Program} {w : World} {K : PySem.W.Frag} {mg : Str → Option Value} {base : Heap} {f : Addr} {fd : FuncData} (F : Fun K "_law_may" "_law_may" s_law_may f fd) (b : Binds K fd ["_law_orders", "_law_name", "_law_role_here"] []) (hmg : mg "_law_may" = some (.ref f)) {adr : _root_.Fin 7 → Addr} {B0 : Addr} (Er : Errs K mg nm_ adr B0) (K_Orders : ClsK K (clA mg "Orders") nf_Orders) (F_Orders_may : Mt0 P w K mg base (L2.CX P w) 1 (clA mg "Orders") "may" 3 (sp_Orders_may K mg adr)) (F_law_class : FnX P w K mg base 1 "_law_class" 1 (sp_law_class K adr)) :
    Fn0 P w K mg base CX0 2 "_law_may" 3 (sp_law_may K mg) := by
  have hsl := sizeLine_eq
  refine ⟨f, fd, ["_law_orders", "_law_name", "_law_role_here"], fn_okR (pre := pre_law_may K mg) (r := fun _ o => (rSum rB rS) o) F sc_law_may (fun i : (Mo_Orders × (List Nat) × (List Nat)) => b_law_may i.1 i.2.1 i.2.2) (fun i G mc vs h => ?_) (fun cdv A outer s H E i G mc cs vs hr hp => ?_), hmg, F.kp, b, rfl⟩
  · obtain ⟨_, _, _, _, _, _, _, _, _, _, _, h, _⟩ := h
    rw [h]
    rfl
  obtain ⟨orders_, name_, role_here_⟩ := i
  obtain ⟨v1_, v2_, a0_, dx0_, l0_, u0_, l0_2, u0_2, v0_, l0_3, u0_3, rfl, rfl, kh0_, kh0_2, h0_, kh0_3, h1_, h2_, hpre⟩ := hp
  replace kh0_ : Ms rS G orders_.1 u0_ := kh0_
  replace kh0_2 : Ms rI G orders_.2.1 u0_2 := kh0_2
  replace h0_ : (rL K rI) orders_.2.2.1 G v0_ := h0_
  replace kh0_3 : Ms rI G orders_.2.2.2 u0_3 := kh0_3
  cases h1_
  cases h2_
  show B _ _ _ [some (.ref a0_), some (.str (SX.S name_)), some (.str (SX.S role_here_)), none, none] G ((a0_, HO.ins (clA mg "Orders") dx0_ (nf_Orders.zip [.ref l0_, .ref l0_2, v0_, .ref l0_3])) :: (dx0_, HO.own a0_) :: (l0_, HO.dK u0_) :: (l0_2, HO.dK u0_2) :: (l0_3, HO.dK u0_3) :: cs) _ (b_law_may orders_ name_ role_here_)
  unfold b_law_may
  try dsimp only at hpre
  refine b_tryAs 4 (S' := (Bool)) (fun (z1 : (Bool)) σ_ G_ cs_ => ∃ o2 : Option V, σ_ = [some (.ref a0_), some (.str (SX.S name_)), some (.str (SX.S role_here_)), some (.bl z1), o2] ∧ (a0_, HO.ins (clA mg "Orders") dx0_ (nf_Orders.zip [.ref l0_, .ref l0_2, v0_, .ref l0_3])) :: (dx0_, HO.own a0_) :: (l0_, HO.dK u0_) :: (l0_2, HO.dK u0_2) :: (l0_3, HO.dK u0_3) :: cs = cs_) (fun (k3 : _root_.Fin 7) σ_ G_ cs_ => ∃ o4 : Option V, ∃ o5 : Option V, σ_ = [some (.ref a0_), some (.str (SX.S name_)), some (.str (SX.S role_here_)), o4, o5] ∧ (a0_, HO.ins (clA mg "Orders") dx0_ (nf_Orders.zip [.ref l0_, .ref l0_2, v0_, .ref l0_3])) :: (dx0_, HO.own a0_) :: (l0_, HO.dK u0_) :: (l0_2, HO.dK u0_2) :: (l0_3, HO.dK u0_3) :: cs = cs_) Er sc_law_may.nd ?_ ?_ ?_
  · intro Wx6 _ _ tk7 po8
    refine b_setE (P := rB) 3 sc_law_may.nd ?_ (fun _ _ _ s_ => ⟨_, _, rfl, rfl⟩) (fun answer_12 eanswer_12 v10 Gs9 s9 h11 => ?_)
    · exact (de_methRq (adr := adr) (Q' := rB) (orders_, name_, role_here_) F_Orders_may K_Orders.cl tk7 hr (by decide) (d_var 0 (P := rV (.ref a0_)) rfl rfl) List.mem_cons_self (lookup_zip_no (by decide +kernel)) (a_cons (P := rS name_) (d_var 1 (P := rS name_) rfl rfl) (a_cons (P := rS role_here_) (d_var 2 (P := rS role_here_) rfl rfl) a_nil)) (fun _ _ s_ h => by obtain ⟨v1, w1, rfl, h1, v2, w2, rfl, h2, rfl⟩ := h; exact ⟨[(a0_, HO.ins (clA mg "Orders") dx0_ (nf_Orders.zip [.ref l0_, .ref l0_2, v0_, .ref l0_3])), (dx0_, HO.own a0_), (l0_, HO.dK u0_), (l0_2, HO.dK u0_2), (l0_3, HO.dK u0_3)], cs, (List.Perm.refl _), ⟨_, _, _, _, _, _, _, _, _, _, _, rfl, rfl, (Ms.mono s_ kh0_), (Ms.mono s_ kh0_2), (Mono.mono s_ h0_), (Ms.mono s_ kh0_3), h1, h2, (by (try dsimp only); first | assumption | omega | (refine ⟨?_, ?_⟩ <;> omega) | (refine ⟨?_, ?_, ?_⟩ <;> omega) | simp_all)⟩⟩) fun _ _ _ h => h)
    cases h11
    exact b_nil (by refine ⟨_, rfl, rfl⟩)
  · intro k3 hm19 a13 oe14 pn15 _ _ _ s16 hNk3 hz17 hf18
    obtain ⟨o4, o5, rfl, rfl⟩ := hNk3
    exact b_ret (P := (rSum rB rS) (Sum.inr (m_law_class k3))) (d_inr (r := rB) (r' := rS) (d_callX (P := rS (m_law_class k3)) k3 F_law_class (roomX hr (by decide)) List.mem_cons_self hz17 hf18 (d_var 4 (P := rV (.ref a13)) rfl rfl) fun _ _ h => h)) (fun _ _ _ h => ⟨⟨[], rfl⟩, h⟩)
  · intro z1 _ _ _ sz1 hNz1 hmz1
    obtain ⟨o2, rfl, rfl⟩ := hNz1
    exact b_ret (P := (rSum rB rS) (Sum.inl z1)) (d_inl (r := rB) (r' := rS) (d_var 3 (P := rB z1) rfl rfl)) (fun _ _ _ h => ⟨⟨[], rfl⟩, h⟩)
end Ck47

set_option synthInstance.maxSize 10000
namespace Ck47
open PySem L2 PyProof.Rows J
abbrev s_law_asked : Stmt := PySem.Challenge.pw_corebank_k47_names_and_roles.main.body.getD 26 (.Pass ⟨0, 0, 0, 0⟩)
abbrev N_law_asked : List Str := ["_law_orders", "_law_users", "_law_name", "_law_ranks", "_law_told", "_law_k", "_law_allowed"]
theorem sc_law_asked : FnScope ["_law_orders", "_law_users", "_law_name", "_law_ranks", "_law_told", "_law_k", "_law_allowed"] ["_law_orders", "_law_users", "_law_name"] (defScope s_law_asked) := ⟨rfl, rfl, rfl, by decide +kernel, rfl, by decide +kernel, by decide +kernel⟩
theorem ok_law_asked {P : Program} {w : World} {K : PySem.W.Frag} {mg : Str → Option Value} {base : Heap} {f : Addr} {fd : FuncData} (F : Fun K "_law_asked" "_law_asked" s_law_asked f fd) (b : Binds K fd ["_law_orders", "_law_users", "_law_name"] []) (hmg : mg "_law_asked" = some (.ref f)) {adr : _root_.Fin 7 → Addr} {B0 : Addr} (Er : Errs K mg nm_ adr B0) (m_bool : mg "bool" = none) (m_isinstance : mg "isinstance" = none) (m_range : mg "range" = none) (m_str : mg "str" = none) (F_law_may : Fn0 P w K mg base CX0 2 "_law_may" 3 (sp_law_may K mg)) (F_law_role : Fn0 P w K mg base CX0 2 "_law_role" 2 (sp_law_role K mg)) :
    Fn0 P w K mg base CX0 3 "_law_asked" 3 (sp_law_asked K mg) := by
  have hsl := sizeLine_eq
  refine ⟨f, fd, ["_law_orders", "_law_users", "_law_name"], fn_okR (pre := pre_law_asked K mg) (r := fun _ o => rB o) F sc_law_asked (fun i : (Mo_Orders × (List ((List Nat) × (List Nat))) × (List Nat)) => b_law_asked i.1 i.2.1 i.2.2) (fun i G mc vs h => ?_) (fun cdv A outer s H E i G mc cs vs hr hp => ?_), hmg, F.kp, b, rfl⟩
  · obtain ⟨_, _, _, _, _, _, _, _, _, _, _, _, h, _⟩ := h
    rw [h]
    rfl
  obtain ⟨orders_, users_, name_⟩ := i
  obtain ⟨v2_, a0_, dx0_, l0_, u0_, l0_2, u0_2, v0_, l0_3, u0_3, a1_, u1_, rfl, rfl, kh0_, kh0_2, h0_, kh0_3, kh1_, h2_, hpre⟩ := hp
  replace kh0_ : Ms rS G orders_.1 u0_ := kh0_
  replace kh0_2 : Ms rI G orders_.2.1 u0_2 := kh0_2
  replace h0_ : (rL K rI) orders_.2.2.1 G v0_ := h0_
  replace kh0_3 : Ms rI G orders_.2.2.2 u0_3 := kh0_3
  replace kh1_ : Ms rS G users_ u1_ := kh1_
  cases h2_
  show B _ _ _ [some (.ref a0_), some (.ref a1_), some (.str (SX.S name_)), none, none, none, none] G ((a0_, HO.ins (clA mg "Orders") dx0_ (nf_Orders.zip [.ref l0_, .ref l0_2, v0_, .ref l0_3])) :: (dx0_, HO.own a0_) :: (l0_, HO.dK u0_) :: (l0_2, HO.dK u0_2) :: (l0_3, HO.dK u0_3) :: (a1_, HO.dK u1_) :: cs) _ (b_law_asked orders_ users_ name_)
  unfold b_law_asked
  try dsimp only at hpre
  have g1 := hpre.1
  have g2 := hpre.2
  refine b_setV (r := (rL K rS)) 3 sc_law_asked.nd (d_new (n_lst (r := rS) (xs := [[116, 101, 108, 108, 101, 114], [111, 102, 102, 105, 99, 101, 114], [99, 104, 105, 101, 102]]) (a_cons (P := rS [116, 101, 108, 108, 101, 114]) (d_str (l := [116, 101, 108, 108, 101, 114]) (by decide +kernel)) (a_cons (P := rS [111, 102, 102, 105, 99, 101, 114]) (d_str (l := [111, 102, 102, 105, 99, 101, 114]) (by decide +kernel)) (a_cons (P := rS [99, 104, 105, 101, 102]) (d_str (l := [99, 104, 105, 101, 102]) (by decide +kernel)) a_nil))) (ls_c (ls_c (ls_c ls_n))))) (fun ranks_1 eranks_1 v3 Gs2 s2 h4 => ?_)
  have erk : ranks_1 = k_ROLES := eranks_1
  have hrk : ranks_1.length = 3 := by rw [eranks_1]; rfl
  refine b_setV (r := (rSum rS (rT K (c0 rS)))) 4 sc_law_asked.nd (d_callR (P := (rSum rS (rT K (c0 rS))) (m_law_role orders_ name_)) (orders_, name_) F_law_role hr (by decide) (a_cons (P := rV (.ref a0_)) (d_var 0 (P := rV (.ref a0_)) rfl rfl) (a_cons (P := rS name_) (d_var 2 (P := rS name_) rfl rfl) a_nil)) (fun _ _ s_ h => by obtain ⟨v0, w0, rfl, h0, v1, w1, rfl, h1, rfl⟩ := h; cases h0; exact ⟨[(a0_, HO.ins (clA mg "Orders") dx0_ (nf_Orders.zip [.ref l0_, .ref l0_2, v0_, .ref l0_3])), (dx0_, HO.own a0_), (l0_, HO.dK u0_), (l0_2, HO.dK u0_2), (l0_3, HO.dK u0_3)], (a1_, HO.dK u1_) :: cs, (List.Perm.refl _), ⟨_, _, _, _, _, _, _, _, _, _, rfl, rfl, (Ms.mono (s2.trans s_) kh0_), (Ms.mono (s2.trans s_) kh0_2), (Mono.mono (s2.trans s_) h0_), (Ms.mono (s2.trans s_) kh0_3), h1⟩⟩) fun _ _ h => h) (fun told_5 etold_5 v7 Gs6 s6 h8 => ?_)
  refine b_if (S' := Unit) (fun (z11 : Unit) σ_ G_ cs_ => ∃ o12 : Option V, ∃ o13 : Option V, σ_ = [some (.ref a0_), some (.ref a1_), some (.str (SX.S name_)), some v3, some v7, o12, o13] ∧ (a0_, HO.ins (clA mg "Orders") dx0_ (nf_Orders.zip [.ref l0_, .ref l0_2, v0_, .ref l0_3])) :: (dx0_, HO.own a0_) :: (l0_, HO.dK u0_) :: (l0_2, HO.dK u0_2) :: (l0_3, HO.dK u0_3) :: (a1_, HO.dK u1_) :: cs = cs_) (t_mnin (rk := rS) (hu_of hr) (d_var 2 (P := rS name_) rfl rfl) (d_var 1 (P := rV (.ref a1_)) rfl rfl) (List.mem_cons_of_mem _ (List.mem_cons_of_mem _ (List.mem_cons_of_mem _ (List.mem_cons_of_mem _ (List.mem_cons_of_mem _ List.mem_cons_self))))) (Ms.mono (s2.trans s6) kh1_)) ?_ ?_ ?_
  · intro hc9 Gs10 s10
    have dhc9 := hc9
    try simp only [decide_eq_true_eq, decide_eq_false_iff_not, Bool.and_eq_true, Bool.and_eq_false_imp, Bool.or_eq_true, Bool.or_eq_false_iff, Bool.not_eq_true', Bool.not_eq_false', Bool.not_not, ne_eq, Int.not_lt, Int.not_le] at dhc9
    refine b_ifx (t_neD (K := K) (r := (rSum rS (rT K (c0 rS)))) hr (d_var 4 (P := (rSum rS (rT K (c0 rS))) told_5) rfl (Mono.mono s10 h8)) (d_inr (r := rS) (r' := (rT K (c0 rS))) (d_tup (r := (c0 rS)) (x := ([77, 105, 115, 115, 105, 110, 103])) (a_cons (P := rS [77, 105, 115, 115, 105, 110, 103]) (d_str (l := [77, 105, 115, 115, 105, 110, 103]) (by decide +kernel)) a_nil) tp_1)) (by first | (rw [etold_5]; exact ok_role g1) | exact roles_plain _ (g2.val (by assumption)) | (rw [etold_34]; exact ok_may) | exact ok_may | exact trivial | (simp [EqR.ok])) (by simp [EqR.ok, EqT.ok])) ?_ ?_
    · intro hc14 Gs15 s15
      have dhc14 := hc14
      try simp only [decide_eq_true_eq, decide_eq_false_iff_not, Bool.and_eq_true, Bool.and_eq_false_imp, Bool.or_eq_true, Bool.or_eq_false_iff, Bool.not_eq_true', Bool.not_eq_false', Bool.not_not, ne_eq, Int.not_lt, Int.not_le] at dhc14
      exact b_ret (P := rB false) d_bl (fun _ _ _ h => ⟨⟨[], rfl⟩, h⟩)
    · intro hc14 Gs15 s15
      have dhc14 := hc14
      try simp only [decide_eq_true_eq, decide_eq_false_iff_not, Bool.and_eq_true, Bool.and_eq_false_imp, Bool.or_eq_true, Bool.or_eq_false_iff, Bool.not_eq_true', Bool.not_eq_false', Bool.not_not, ne_eq, Int.not_lt, Int.not_le] at dhc14
      exact b_nil (by refine ⟨_, _, rfl, rfl⟩)
  · intro hc9 Gs10 s10
    have dhc9 := hc9
    try simp only [decide_eq_true_eq, decide_eq_false_iff_not, Bool.and_eq_true, Bool.and_eq_false_imp, Bool.or_eq_true, Bool.or_eq_false_iff, Bool.not_eq_true', Bool.not_eq_false', Bool.not_not, ne_eq, Int.not_lt, Int.not_le] at dhc9
    refine b_ifx (t_w (w_or (t_not (t_val (d_isiS (r := rS) (r' := (rT K (c0 rS))) (h := (inferInstance : HasTy K rS "str")) (h' := (inferInstance : HasTy K (rT K (c0 rS)) "tuple")) (u := "str") (k := true) (k' := false) m_isinstance m_str (d_var 4 (P := (rSum rS (rT K (c0 rS))) told_5) rfl (Mono.mono s10 h8))))) fun hk18 => (w_or1 (t_neD (K := K) (r := (rSum rS (rT K (c0 rS)))) hr (d_var 4 (P := (rSum rS (rT K (c0 rS))) told_5) rfl (Mono.mono s10 h8)) (d_inl (r := rS) (r' := (rT K (c0 rS))) (d_mget (rk := rS) (hu_of hr) (d_var 1 (P := rV (.ref a1_)) rfl rfl) (d_var 2 (P := rS name_) rfl rfl) (List.mem_cons_of_mem _ (List.mem_cons_of_mem _ (List.mem_cons_of_mem _ (List.mem_cons_of_mem _ (List.mem_cons_of_mem _ List.mem_cons_self))))) (Ms.mono (s2.trans (s6.trans s10)) kh1_) (by first | assumption | simp_all))) (by first | (rw [etold_5]; exact ok_role g1) | exact roles_plain _ (g2.val (by assumption)) | (rw [etold_34]; exact ok_may) | exact ok_may | exact trivial | (simp [EqR.ok])) (by first | (rw [etold_5]; exact ok_role g1) | exact roles_plain _ (g2.val (by assumption)) | (rw [etold_34]; exact ok_may) | exact ok_may | exact trivial | (simp [EqR.ok])))))) ?_ ?_
    · intro hc16 Gs17 s17
      have dhc16 := hc16
      try simp only [decide_eq_true_eq, decide_eq_false_iff_not, Bool.and_eq_true, Bool.and_eq_false_imp, Bool.or_eq_true, Bool.or_eq_false_iff, Bool.not_eq_true', Bool.not_eq_false', Bool.not_not, ne_eq, Int.not_lt, Int.not_le] at dhc16
      exact b_ret (P := rB false) d_bl (fun _ _ _ h => ⟨⟨[], rfl⟩, h⟩)
    · intro hc16 Gs17 s17
      have dhc16 := hc16
      try simp only [decide_eq_true_eq, decide_eq_false_iff_not, Bool.and_eq_true, Bool.and_eq_false_imp, Bool.or_eq_true, Bool.or_eq_false_iff, Bool.not_eq_true', Bool.not_eq_false', Bool.not_not, ne_eq, Int.not_lt, Int.not_le] at dhc16
      exact b_nil (by refine ⟨_, _, rfl, rfl⟩)
  · intro z11 _ _ _ sz11 hNz11 hmz11
    obtain ⟨o12, o13, rfl, rfl⟩ := hNz11
    refine b_for (f := (st_law_asked_1 orders_ users_ name_ ranks_1)) (s0 := ()) (xs := (rng 0 3)) (fun n_ (z19 : Unit) σ_ G_ cs_ => ∃ o22 : Option V, ∃ o23 : Option V, ∃ o24 : Option V, σ_ = [some (.ref a0_), some (.ref a1_), some (.str (SX.S name_)), some v3, o22, o23, o24] ∧ (a0_, HO.ins (clA mg "Orders") dx0_ (nf_Orders.zip [.ref l0_, .ref l0_2, v0_, .ref l0_3])) :: (dx0_, HO.own a0_) :: (l0_, HO.dK u0_) :: (l0_2, HO.dK u0_2) :: (l0_3, HO.dK u0_3) :: (a1_, HO.dK u1_) :: cs = cs_) (i_rng1 m_range d_int (by omega) (by omega)) (tg_name 5 sc_law_asked.nd) rfl PassesOwn.never ?_ ?_ ?_ ?_
    · intro _ s41
      exact ⟨_, _, _, rfl, rfl⟩
    · intro _ _ _ _ _ _
      trivial
    · intro pre_ x25 post_ z19 _ _ _ _ _ hxsz19 hrez19 s26 hNz19 s27 hSz19
      obtain ⟨o22, o23, o24, rfl, rfl⟩ := hNz19
      obtain ⟨v20, h21, rfl⟩ := hSz19
      have hltz19 : pre_.length < (rng 0 3).length := by rw [hxsz19, List.length_append, List.length_cons]; omega
      have hmemz19 : x25 ∈ (rng 0 3) := by rw [hxsz19]; exact List.mem_append_right _ List.mem_cons_self
      try simp only [rng_length, rng_mem, enumL_length] at hltz19 hmemz19
      show B _ _ _ _ _ _ _ (st_law_asked_1 orders_ users_ name_ ranks_1 z19 x25)
      unfold st_law_asked_1
      cases h21
      refine b_setV (r := rB) 6 sc_law_asked.nd (d_and (d_min (rk := rS) (hu_of hr) (d_var 2 (P := rS name_) rfl rfl) (d_var 1 (P := rV (.ref a1_)) rfl rfl) (List.mem_cons_of_mem _ (List.mem_cons_of_mem _ (List.mem_cons_of_mem _ (List.mem_cons_of_mem _ (List.mem_cons_of_mem _ List.mem_cons_self))))) (Ms.mono (s2.trans (s6.trans (sz11.trans (s26.trans s27)))) kh1_)) fun hk29 => (d_one (d_cmp op_ge (nomark _) (d_lindex (D.imp (P := (rL K rS) ranks_1) (d_var 3 (P := (rL K rS) ranks_1) rfl (Mono.mono (s6.trans (sz11.trans (s26.trans s27))) h4)) fun _ _ => rdL_of) (d_mget (rk := rS) (hu_of hr) (d_var 1 (P := rV (.ref a1_)) rfl rfl) (d_var 2 (P := rS name_) rfl rfl) (List.mem_cons_of_mem _ (List.mem_cons_of_mem _ (List.mem_cons_of_mem _ (List.mem_cons_of_mem _ (List.mem_cons_of_mem _ List.mem_cons_self))))) (Ms.mono (s2.trans (s6.trans (sz11.trans (s26.trans s27)))) kh1_) (by first | assumption | simp_all)) (by (rw [erk]; exact g2.val (by assumption)))) (d_var 5 (P := rI x25) rfl rfl) fun _ _ _ _ _ _ hx hy _ q => c_ge hx hy q))) (fun allowed_30 eallowed_30 v32 Gs31 s31 h33 => ?_)
      cases h33
      refine b_setV (r := (rSum rB rS)) 4 sc_law_asked.nd (d_callR (P := (rSum rB rS) (m_law_may orders_ name_ (ixg ranks_1 x25))) (orders_, name_, (ixg ranks_1 x25)) F_law_may hr (by decide) (a_cons (P := rV (.ref a0_)) (d_var 0 (P := rV (.ref a0_)) rfl rfl) (a_cons (P := rS name_) (d_var 2 (P := rS name_) rfl rfl) (a_cons (P := rS (ixg ranks_1 x25)) (d_ixL (r := rS) (xs := ranks_1) (i := x25) (x := (ixg ranks_1 x25)) (D.imp (P := (rL K rS) ranks_1) (d_var 3 (P := (rL K rS) ranks_1) rfl (Mono.mono (s6.trans (sz11.trans (s26.trans (s27.trans s31)))) h4)) fun _ _ => rdL_of) (d_var 5 (P := rI x25) rfl rfl) (atI_ixg (by first | (constructor <;> omega) | (simp only [List.length_cons, List.length_nil]; constructor <;> omega) | exact ix_mod (by omega) | (simp only [decide_eq_true_eq, decide_eq_false_iff_not] at *; constructor <;> omega) | (simp only [decide_eq_true_eq, decide_eq_false_iff_not, Bool.and_eq_true, Bool.or_eq_true, Bool.or_eq_false_iff, Bool.not_eq_true', Bool.not_eq_false', Bool.not_not, ne_eq, Int.not_lt, Int.not_le] at *; constructor <;> omega)))) a_nil))) (fun _ _ s_ h => by obtain ⟨v0, w0, rfl, h0, v1, w1, rfl, h1, v2, w2, rfl, h2, rfl⟩ := h; cases h0; exact ⟨[(a0_, HO.ins (clA mg "Orders") dx0_ (nf_Orders.zip [.ref l0_, .ref l0_2, v0_, .ref l0_3])), (dx0_, HO.own a0_), (l0_, HO.dK u0_), (l0_2, HO.dK u0_2), (l0_3, HO.dK u0_3)], (a1_, HO.dK u1_) :: cs, (List.Perm.refl _), ⟨_, _, _, _, _, _, _, _, _, _, _, rfl, rfl, (Ms.mono (s2.trans (s6.trans (sz11.trans (s26.trans (s27.trans (s31.trans s_)))))) kh0_), (Ms.mono (s2.trans (s6.trans (sz11.trans (s26.trans (s27.trans (s31.trans s_)))))) kh0_2), (Mono.mono (s2.trans (s6.trans (sz11.trans (s26.trans (s27.trans (s31.trans s_)))))) h0_), (Ms.mono (s2.trans (s6.trans (sz11.trans (s26.trans (s27.trans (s31.trans s_)))))) kh0_3), h1, h2, (by exact g1)⟩⟩) fun _ _ h => h) (fun told_34 etold_34 v36 Gs35 s35 h37 => ?_)
      refine b_ifx (t_w (w_or (t_not (t_val (d_isiS (r := rB) (r' := rS) (h := (inferInstance : HasTy K rB "bool")) (h' := (inferInstance : HasTy K rS "str")) (u := "bool") (k := true) (k' := false) m_isinstance m_bool (d_var 4 (P := (rSum rB rS) told_34) rfl h37)))) fun hk40 => (w_or1 (t_neD (K := K) (r := (rSum rB rS)) hr (d_var 4 (P := (rSum rB rS) told_34) rfl h37) (d_inl (r := rB) (r' := rS) (d_var 6 (P := rB allowed_30) rfl rfl)) (by first | (rw [etold_5]; exact ok_role g1) | exact roles_plain _ (g2.val (by assumption)) | (rw [etold_34]; exact ok_may) | exact ok_may | exact trivial | (simp [EqR.ok])) (by first | (rw [etold_5]; exact ok_role g1) | exact roles_plain _ (g2.val (by assumption)) | (rw [etold_34]; exact ok_may) | exact ok_may | exact trivial | (simp [EqR.ok])))))) ?_ ?_
      · intro hc38 Gs39 s39
        have dhc38 := hc38
        try simp only [decide_eq_true_eq, decide_eq_false_iff_not, Bool.and_eq_true, Bool.and_eq_false_imp, Bool.or_eq_true, Bool.or_eq_false_iff, Bool.not_eq_true', Bool.not_eq_false', Bool.not_not, ne_eq, Int.not_lt, Int.not_le] at dhc38
        exact b_ret (P := rB false) d_bl (fun _ _ _ h => ⟨⟨[], rfl⟩, h⟩)
      · intro hc38 Gs39 s39
        have dhc38 := hc38
        try simp only [decide_eq_true_eq, decide_eq_false_iff_not, Bool.and_eq_true, Bool.and_eq_false_imp, Bool.or_eq_true, Bool.or_eq_false_iff, Bool.not_eq_true', Bool.not_eq_false', Bool.not_not, ne_eq, Int.not_lt, Int.not_le] at dhc38
        exact b_nil (by refine ⟨_, _, _, rfl, rfl⟩)
    · intro n_ z19 _ _ _ hnz19 s42 hNz19 hfz19
      obtain ⟨o22, o23, o24, rfl, rfl⟩ := hNz19
      try simp only [rng_length, enumL_length] at hnz19
      exact b_ret (P := rB (((decide ((m_law_may orders_ name_ [84, 101, 108, 108, 101, 114]) = (Sum.inr [66, 97, 100, 86, 97, 108, 117, 101])))) && ((decide ((m_law_may orders_ name_ ([] : List Nat)) = (Sum.inr [66, 97, 100, 86, 97, 108, 117, 101])))))) (d_and (d_eqD (K := K) (r := (rSum rB rS)) hr (d_callR (P := (rSum rB rS) (m_law_may orders_ name_ [84, 101, 108, 108, 101, 114])) (orders_, name_, [84, 101, 108, 108, 101, 114]) F_law_may hr (by decide) (a_cons (P := rV (.ref a0_)) (d_var 0 (P := rV (.ref a0_)) rfl rfl) (a_cons (P := rS name_) (d_var 2 (P := rS name_) rfl rfl) (a_cons (P := rS [84, 101, 108, 108, 101, 114]) (d_str (l := [84, 101, 108, 108, 101, 114]) (by decide +kernel)) a_nil))) (fun _ _ s_ h => by obtain ⟨v0, w0, rfl, h0, v1, w1, rfl, h1, v2, w2, rfl, h2, rfl⟩ := h; cases h0; exact ⟨[(a0_, HO.ins (clA mg "Orders") dx0_ (nf_Orders.zip [.ref l0_, .ref l0_2, v0_, .ref l0_3])), (dx0_, HO.own a0_), (l0_, HO.dK u0_), (l0_2, HO.dK u0_2), (l0_3, HO.dK u0_3)], (a1_, HO.dK u1_) :: cs, (List.Perm.refl _), ⟨_, _, _, _, _, _, _, _, _, _, _, rfl, rfl, (Ms.mono (s2.trans (s6.trans (sz11.trans (s42.trans s_)))) kh0_), (Ms.mono (s2.trans (s6.trans (sz11.trans (s42.trans s_)))) kh0_2), (Mono.mono (s2.trans (s6.trans (sz11.trans (s42.trans s_)))) h0_), (Ms.mono (s2.trans (s6.trans (sz11.trans (s42.trans s_)))) kh0_3), h1, h2, (by exact g1)⟩⟩) fun _ _ h => h) (d_inr (r := rB) (r' := rS) (d_str (l := [66, 97, 100, 86, 97, 108, 117, 101]) (by decide +kernel))) (by first | (rw [etold_5]; exact ok_role g1) | exact roles_plain _ (g2.val (by assumption)) | (rw [etold_34]; exact ok_may) | exact ok_may | exact trivial | (simp [EqR.ok])) (by simp [EqR.ok, EqT.ok])) fun hk43 => (d_one (d_eqD (K := K) (r := (rSum rB rS)) hr (d_callR (P := (rSum rB rS) (m_law_may orders_ name_ ([] : List Nat))) (orders_, name_, ([] : List Nat)) F_law_may hr (by decide) (a_cons (P := rV (.ref a0_)) (d_var 0 (P := rV (.ref a0_)) rfl rfl) (a_cons (P := rS name_) (d_var 2 (P := rS name_) rfl rfl) (a_cons (P := rS ([] : List Nat)) (d_str (l := []) (by decide +kernel)) a_nil))) (fun _ _ s_ h => by obtain ⟨v0, w0, rfl, h0, v1, w1, rfl, h1, v2, w2, rfl, h2, rfl⟩ := h; cases h0; exact ⟨[(a0_, HO.ins (clA mg "Orders") dx0_ (nf_Orders.zip [.ref l0_, .ref l0_2, v0_, .ref l0_3])), (dx0_, HO.own a0_), (l0_, HO.dK u0_), (l0_2, HO.dK u0_2), (l0_3, HO.dK u0_3)], (a1_, HO.dK u1_) :: cs, (List.Perm.refl _), ⟨_, _, _, _, _, _, _, _, _, _, _, rfl, rfl, (Ms.mono (s2.trans (s6.trans (sz11.trans (s42.trans s_)))) kh0_), (Ms.mono (s2.trans (s6.trans (sz11.trans (s42.trans s_)))) kh0_2), (Mono.mono (s2.trans (s6.trans (sz11.trans (s42.trans s_)))) h0_), (Ms.mono (s2.trans (s6.trans (sz11.trans (s42.trans s_)))) kh0_3), h1, h2, (by exact g1)⟩⟩) fun _ _ h => h) (d_inr (r := rB) (r' := rS) (d_str (l := [66, 97, 100, 86, 97, 108, 117, 101]) (by decide +kernel))) (by first | (rw [etold_5]; exact ok_role g1) | exact roles_plain _ (g2.val (by assumption)) | (rw [etold_34]; exact ok_may) | exact ok_may | exact trivial | (simp [EqR.ok])) (by simp [EqR.ok, EqT.ok])))) (fun _ _ _ h => ⟨⟨[], rfl⟩, h⟩)
end Ck47

set_option synthInstance.maxSize 10000
namespace Ck47
open PySem L2 PyProof.Rows J
abbrev s_Orders___init__ : Stmt := inClass (PySem.Challenge.pw_corebank_k47_names_and_roles.main.body.getD 16 (.Pass ⟨0, 0, 0, 0⟩)) 0
abbrev N_Orders___init__ : List Str := ["self"]
theorem sc_Orders___init__ : FnScope ["self"] ["self"] (defScope s_Orders___init__) := ⟨rfl, rfl, rfl, by decide +kernel, rfl, by decide +kernel, by decide +kernel⟩
theorem ok_Orders___init__ {P : Program} {w : World} {K : PySem.W.Frag} {mg : Str → Option Value} {base : Heap} {f : Addr} {fd : FuncData} (F : Fun K "__init__" "Orders.__init__" s_Orders___init__ f fd) (b : Binds K fd ["self"] []) (M : Mk K (clA mg "Orders") f) {adr : _root_.Fin 7 → Addr} {B0 : Addr} (Er : Errs K mg nm_ adr B0) (K_Orders : ClsK K (clA mg "Orders") nf_Orders) :
    In0 P w K mg base CX0 1 (clA mg "Orders") 1 (sp_Orders___init__ K mg) := by
  have hsl := sizeLine_eq
  refine ⟨f, fd, ["self"], fn_okM (pre := pre_Orders___init__ K mg) (post := post_Orders___init__ K mg) F sc_Orders___init__ b (fun i : Unit => b_Orders___init__) (fun i G mc vs h => ?_) (fun cdv A outer s H E i G mc cs vs hr hp => ?_), M, b, rfl⟩
  · obtain ⟨_, _, h, _⟩ := h
    rw [h]
    rfl
  obtain ⟨a0_, dx0_, rfl, rfl⟩ := hp
  show B _ _ _ [some (.ref a0_)] G ((a0_, HO.ins (clA mg "Orders") dx0_ (nf_Orders.zip [])) :: (dx0_, HO.own a0_) :: cs) _ (b_Orders___init__)
  unfold b_Orders___init__
  refine letV_intro (fun roles_1 eroles_1 => ?_)
  refine b_fldNewD 0 K_Orders rfl (fun _ => (d_var 0 (P := rV (.ref a0_)) rfl rfl)) (fun l3 Gs2 s2 => ?_)
  have kh4 : Ms rS Gs2 roles_1 [] := by rw [eroles_1]; exact Ms.nil
  refine letV_intro (fun rules_5 erules_5 => ?_)
  refine b_fldNewD 1 K_Orders rfl (fun _ => (d_var 0 (P := rV (.ref a0_)) rfl rfl)) (fun l7 Gs6 s6 => ?_)
  have kh8 : Ms rI Gs6 rules_5 [] := by rw [erules_5]; exact Ms.nil
  refine letV_intro (fun placed_9 eplaced_9 => ?_)
  refine b_fldNew (P := (rL K rI) placed_9) 2 K_Orders rfl (by rw [eplaced_9]; exact (d_new (n_lst (r := rI) (xs := ([] : (List Int))) a_nil ls_n))) (d_var 0 (P := rV (.ref a0_)) rfl rfl) (fun v11 Gs10 s10 h12 => ?_)
  refine letV_intro (fun numbers_by_key_13 enumbers_by_key_13 => ?_)
  refine b_fldNewD 2 K_Orders rfl (fun _ => (d_var 0 (P := rV (.ref a0_)) rfl rfl)) (fun l15 Gs14 s14 => ?_)
  have kh16 : Ms rI Gs14 numbers_by_key_13 [] := by rw [enumbers_by_key_13]; exact Ms.nil
  exact b_nil ⟨[], [(a0_, HO.ins (clA mg "Orders") dx0_ (nf_Orders.zip [.ref l3, .ref l7, v11, .ref l15])), (dx0_, HO.own a0_), (l3, HO.dK []), (l7, HO.dK []), (l15, HO.dK [])], (perm_to (k := 3) rfl (perm_to (k := 3) rfl (perm_to (k := 2) rfl (perm_to (k := 1) rfl (List.Perm.refl _))))), ⟨_, _, _, _, _, _, _, _, _, rfl, rfl, (Ms.mono (s6.trans (s10.trans s14)) kh4), (Ms.mono (s10.trans s14) kh8), (Mono.mono s14 h12), kh16, rfl⟩⟩
end Ck47

set_option synthInstance.maxSize 10000
namespace Ck47
open PySem L2 PyProof.Rows J
abbrev s_law : Stmt := PySem.Challenge.pw_corebank_k47_names_and_roles.main.body.getD 27 (.Pass ⟨0, 0, 0, 0⟩)
abbrev N_law : List Str := ["_law_script", "_law_orders", "_law_other", "_law_users", "_law_tried", "_law_cell", "_law_row", "_law_name", "_law_role_here", "_law_told", "_law_due_here"]
theorem sc_law : FnScope ["_law_script", "_law_orders", "_law_other", "_law_users", "_law_tried", "_law_cell", "_law_row", "_law_name", "_law_role_here", "_law_told", "_law_due_here"] ["_law_script"] (defScope s_law) := ⟨rfl, rfl, rfl, by decide +kernel, rfl, by decide +kernel, by decide +kernel⟩
theorem ok_law {P : Program} {w : World} {K : PySem.W.Frag} {mg : Str → Option Value} {base : Heap} {f : Addr} {fd : FuncData} (F : Fun K "law" "law" s_law f fd) (b : Binds K fd ["_law_script"] []) (hmg : mg "law" = some (.ref f)) {adr : _root_.Fin 7 → Addr} {B0 : Addr} (Er : Errs K mg nm_ adr B0) (m_bool : mg "bool" = none) (c_ROLES : GlobR mg "ROLES" ((rU K rS) k_ROLES)) (m_int : mg "int" = none) (m_isinstance : mg "isinstance" = none) (m_len : mg "len" = none) (g_Orders : mg "Orders" = some (.ref (clA mg "Orders"))) (m_tuple : mg "tuple" = none) (F_Orders___init__ : In0 P w K mg base CX0 1 (clA mg "Orders") 1 (sp_Orders___init__ K mg)) (F_law_add : Fn0 P w K mg base CX0 4 "_law_add" 3 (sp_law_add K mg)) (F_law_asked : Fn0 P w K mg base CX0 3 "_law_asked" 3 (sp_law_asked K mg)) (F_law_due : Fn0 P w K mg base CX0 2 "_law_due" 3 (sp_law_due K)) (F_law_is_name : Fn0 P w K mg base CX0 1 "_law_is_name" 1 (sp_law_is_name K)) (F_law_numbers : Fn0 P w K mg base CX0 1 "_law_numbers" 2 (sp_law_numbers K)) (F_law_text : Fn0 P w K mg base CX0 1 "_law_text" 1 (sp_law_text K)) (F_is_name : Fn0 P w K mg base CX0 1 "is_name" 1 (sp_is_name K)) :
    FnOk P w K mg base CX0 5 f fd ["_law_script"] (sp_law K) := by
  have hsl := sizeLine_eq
  refine fn_ok F sc_law (fun i : ((List Int)) => b_law i) (fun i G vs h => ?_) (fun cdv A outer s H E script_ G cs vs hr hp => ?_)
  · obtain ⟨v0_, h, _⟩ := h
    rw [h]
    rfl
  obtain ⟨v0_, rfl, h0_, hpre⟩ := hp
  show B _ _ _ [some v0_, none, none, none, none, none, none, none, none, none, none] G cs _ (b_law script_)
  unfold b_law
  try dsimp only at hpre
  have hsc := cutL_le script_ none (some 63)
  refine letV_intro (fun r4 er4 => ?_)
  refine b_setC 1 sc_law.nd ?_
  refine ec_make0 F_Orders___init__ g_Orders hr (by decide) ?_
  intro Gs1 s1
  intro l2 dx3
  refine ⟨(), [(l2, HO.ins (clA mg "Orders") dx3 (nf_Orders.zip [])), (dx3, HO.own l2)], cs, (List.Perm.refl _), ⟨_, _, rfl, rfl⟩, ?_⟩
  rintro v20 Gs5 mc6 s5 ⟨a7, dx8, l9, us10, l12, us13, v15, l17, us18, e_, rfl, kh11, kh14, h16, kh19, h21⟩
  cases e_
  have kh22 : Ms rS Gs5 r4.2.1 us10 := by rw [er4]; exact kh11
  have kh23 : Ms rI Gs5 r4.2.2.1 us13 := by rw [er4]; exact kh14
  have h24 : (rL K rI) r4.2.2.2.1 Gs5 v15 := by rw [er4]; exact h16
  have kh25 : Ms rI Gs5 r4.2.2.2.2 us18 := by rw [er4]; exact kh19
  refine ⟨h21, (l2, HO.ins (clA mg "Orders") dx8 (nf_Orders.zip [.ref l9, .ref l12, v15, .ref l17])) :: (dx8, HO.own l2) :: (l9, HO.dK us10) :: (l12, HO.dK us13) :: (l17, HO.dK us18) :: cs, (List.Perm.refl _), ?_⟩
  intro _
  refine letV_intro (fun r30 er30 => ?_)
  refine b_setC 2 sc_law.nd ?_
  refine ec_make0 F_Orders___init__ g_Orders hr (by decide) ?_
  intro Gs27 s27
  intro l28 dx29
  refine ⟨(), [(l28, HO.ins (clA mg "Orders") dx29 (nf_Orders.zip [])), (dx29, HO.own l28)], (l2, HO.ins (clA mg "Orders") dx8 (nf_Orders.zip [.ref l9, .ref l12, v15, .ref l17])) :: (dx8, HO.own l2) :: (l9, HO.dK us10) :: (l12, HO.dK us13) :: (l17, HO.dK us18) :: cs, (List.Perm.refl _), ⟨_, _, rfl, rfl⟩, ?_⟩
  rintro v46 Gs31 mc32 s31 ⟨a33, dx34, l35, us36, l38, us39, v41, l43, us44, e_, rfl, kh37, kh40, h42, kh45, h47⟩
  cases e_
  have kh48 : Ms rS Gs31 r30.2.1 us36 := by rw [er30]; exact kh37
  have kh49 : Ms rI Gs31 r30.2.2.1 us39 := by rw [er30]; exact kh40
  have h50 : (rL K rI) r30.2.2.2.1 Gs31 v41 := by rw [er30]; exact h42
  have kh51 : Ms rI Gs31 r30.2.2.2.2 us44 := by rw [er30]; exact kh45
  refine ⟨h47, (l28, HO.ins (clA mg "Orders") dx34 (nf_Orders.zip [.ref l35, .ref l38, v41, .ref l43])) :: (dx34, HO.own l28) :: (l35, HO.dK us36) :: (l38, HO.dK us39) :: (l43, HO.dK us44) :: (l2, HO.ins (clA mg "Orders") dx8 (nf_Orders.zip [.ref l9, .ref l12, v15, .ref l17])) :: (dx8, HO.own l2) :: (l9, HO.dK us10) :: (l12, HO.dK us13) :: (l17, HO.dK us18) :: cs, (List.Perm.refl _), ?_⟩
  intro _
  refine b_setD 3 sc_law.nd (fun l54 => ?_)
  refine letV_intro (fun users_53 eusers_53 => ?_)
  have kh55 : Ms rS Gs31 users_53 [] := by rw [eusers_53]; exact Ms.nil
  have nusers_53 : users_53.length = 0 := by rw [eusers_53]; rfl
  refine b_setN 4 sc_law.nd (n_lst (r := rS) (xs := ([] : (List (List Nat)))) a_nil ls_n) (fun l57 us58 Gs59 s59 h60 => ?_)
  refine letV_intro (fun tried_56 etried_56 => ?_)
  rw [← etried_56] at h60
  have ntried_56 : tried_56.length = 0 := by rw [etried_56]; rfl
  refine b_ifx (t_w (w_or (t_neD (K := K) (r := (rU K rS)) hr (d_globR c_ROLES) (d_homT (r := (cc rS (cc rS (c0 rS)))) (d_tup (r := (cc rS (cc rS (c0 rS)))) (x := ([116, 101, 108, 108, 101, 114], [111, 102, 102, 105, 99, 101, 114], [99, 104, 105, 101, 102])) (a_cons (P := rS [116, 101, 108, 108, 101, 114]) (d_str (l := [116, 101, 108, 108, 101, 114]) (by decide +kernel)) (a_cons (P := rS [111, 102, 102, 105, 99, 101, 114]) (d_str (l := [111, 102, 102, 105, 99, 101, 114]) (by decide +kernel)) (a_cons (P := rS [99, 104, 105, 101, 102]) (d_str (l := [99, 104, 105, 101, 102]) (by decide +kernel)) a_nil))) (tp_c (tp_c tp_1)))) (by first | exact roles_plain | exact okO (due_ok _ _ _ edue_here_128) | exact okO (due_ok _ _ _ (etold_165.trans Ar140.1)) | decide +kernel) (by simp [EqR.ok, EqT.ok])) fun hk63 => (w_or1 (t_not (t_val (d_isi (h := (inferInstance : HasTy K (rU K rS) "tuple")) (u := "tuple") (k := true) m_isinstance m_tuple (d_globR c_ROLES))))))) ?_ ?_
  · intro hc61 Gs62 s62
    have dhc61 := hc61
    try simp only [decide_eq_true_eq, decide_eq_false_iff_not, Bool.and_eq_true, Bool.and_eq_false_imp, Bool.or_eq_true, Bool.or_eq_false_iff, Bool.not_eq_true', Bool.not_eq_false', Bool.not_not, ne_eq, Int.not_lt, Int.not_le] at dhc61
    exact b_ret (P := rB false) d_bl (fun _ _ _ h => ⟨⟨[(l57, HO.lst us58), (l54, HO.dK []), (l28, HO.ins (clA mg "Orders") dx34 (nf_Orders.zip [.ref l35, .ref l38, v41, .ref l43])), (dx34, HO.own l28), (l35, HO.dK us36), (l38, HO.dK us39), (l43, HO.dK us44), (l2, HO.ins (clA mg "Orders") dx8 (nf_Orders.zip [.ref l9, .ref l12, v15, .ref l17])), (dx8, HO.own l2), (l9, HO.dK us10), (l12, HO.dK us13), (l17, HO.dK us18)], rfl⟩, h⟩)
  · intro hc61 Gs62 s62
    have dhc61 := hc61
    try simp only [decide_eq_true_eq, decide_eq_false_iff_not, Bool.and_eq_true, Bool.and_eq_false_imp, Bool.or_eq_true, Bool.or_eq_false_iff, Bool.not_eq_true', Bool.not_eq_false', Bool.not_not, ne_eq, Int.not_lt, Int.not_le] at dhc61
    refine b_for (f := (st_law_1 r30)) (s0 := (r4.2, users_53, tried_56)) (xs := ([5] ++ (cutL script_ none (some 63)))) (fun n_ (z64 : (Mo_Orders × (List ((List Nat) × (List Nat))) × (List (List Nat)))) σ_ G_ cs_ => ∃ dx67 : Addr, ∃ l68 : Addr, ∃ us69 : List (Key × V), ∃ l71 : Addr, ∃ us72 : List (Key × V), ∃ v74 : V, ∃ l76 : Addr, ∃ us77 : List (Key × V), ∃ us79 : List (Key × V), ∃ us81 : List V, ∃ o83 : Option V, ∃ o84 : Option V, ∃ o85 : Option V, ∃ o86 : Option V, ∃ o87 : Option V, ∃ o88 : Option V, σ_ = [some v0_, some (.ref l2), some (.ref l28), some (.ref l54), some (.ref l57), o83, o84, o85, o86, o87, o88] ∧ (l57, HO.lst us81) :: (l54, HO.dK us79) :: (l28, HO.ins (clA mg "Orders") dx34 (nf_Orders.zip [.ref l35, .ref l38, v41, .ref l43])) :: (dx34, HO.own l28) :: (l35, HO.dK us36) :: (l38, HO.dK us39) :: (l43, HO.dK us44) :: (l2, HO.ins (clA mg "Orders") dx67 (nf_Orders.zip [.ref l68, .ref l71, v74, .ref l76])) :: (dx67, HO.own l2) :: (l68, HO.dK us69) :: (l71, HO.dK us72) :: (l76, HO.dK us77) :: cs = cs_ ∧ Ms rS G_ z64.1.1 us69 ∧ Ms rI G_ z64.1.2.1 us72 ∧ (rL K rI) z64.1.2.2.1 G_ v74 ∧ Ms rI G_ z64.1.2.2.2 us77 ∧ Ms rS G_ z64.2.1 us79 ∧ Rs rS G_ z64.2.2 us81 ∧ z64.2.1.length ≤ users_53.length + 1 * n_ ∧ z64.2.2.length ≤ tried_56.length + 1 * n_ ∧ ((z64.1.1 = z64.2.1 ∧ Good z64.2.1) ∧ (z64.2.1.length ≤ n_ ∧ z64.2.2.length = n_ ∧ ∀ t ∈ z64.2.2, t.length ≤ 100))) (i_listF (r := rI) (d_new (n_cat (r := rI) (D.imp (P := (rL K rI) [5]) (d_new (n_lst (r := rI) (xs := [5]) (a_cons (P := rI 5) d_int a_nil) (ls_c ls_n))) fun _ _ => rdL_of) (D.imp (P := (rL K rI) (cutL script_ none (some 63))) (d_new (n_slL (r := rI) (D.imp (P := (rL K rI) script_) (d_var 0 (P := (rL K rI) script_) rfl (Mono.mono (s1.trans (s5.trans (s27.trans (s31.trans (s59.trans s62))))) h0_)) fun _ _ => rdL_of) do_none (do_some d_int))) fun _ _ => rdL_of) (by first | omega | (simp; done) | (simp; omega))))) (tg_name 5 sc_law.nd) rfl PassesOwn.never ?_ ?_ ?_ ?_
    · intro _ s204
      exact ⟨_, _, _, _, _, _, _, _, _, _, _, _, _, _, _, _, rfl, rfl, (Ms.mono (s27.trans (s31.trans (s59.trans (s62.trans s204)))) kh22), (Ms.mono (s27.trans (s31.trans (s59.trans (s62.trans s204)))) kh23), (Mono.mono (s27.trans (s31.trans (s59.trans (s62.trans s204)))) h24), (Ms.mono (s27.trans (s31.trans (s59.trans (s62.trans s204)))) kh25), (Ms.mono (s59.trans (s62.trans s204)) kh55), (Rs.mono (s62.trans s204) h60), ⟨Nat.le_add_right _ _, Nat.le_add_right _ _, by exact inv_start er4 eusers_53 etried_56⟩⟩
    · intro _ _ _ _ _ _
      trivial
    · intro pre_ x89 post_ z64 _ _ _ _ _ hxsz64 hrez64 s90 hNz64 s91 hSz64
      obtain ⟨dx67, l68, us69, l71, us72, v74, l76, us77, us79, us81, o83, o84, o85, o86, o87, o88, rfl, rfl, kh70, kh73, h75, kh78, kh80, h82, hbz64⟩ := hNz64
      obtain ⟨v65, h66, rfl⟩ := hSz64
      have hltz64 : pre_.length < ([5] ++ (cutL script_ none (some 63))).length := by rw [hxsz64, List.length_append, List.length_cons]; omega
      have hmemz64 : x89 ∈ ([5] ++ (cutL script_ none (some 63))) := by rw [hxsz64]; exact List.mem_append_right _ List.mem_cons_self
      try simp only [rng_length, rng_mem, enumL_length] at hltz64 hmemz64
      show B _ _ _ _ _ _ _ (st_law_1 r30 z64 x89)
      unfold st_law_1
      cases h66
      obtain ⟨⟨hU, hG⟩, hL, hT0, hT⟩ := hbz64.2.2
      have hpl : pre_.length ≤ 63 := by have q := hltz64; rw [List.length_append] at q; simp at q; omega
      refine b_setV (r := (rL K rI)) 6 sc_law.nd (d_callQ (P := (rL K rI) (m_law_numbers x89 23)) (x89, 23) F_law_numbers hr (by decide) (a_cons (P := rI x89) (d_var 5 (P := rI x89) rfl rfl) (a_cons (P := rI 23) d_int a_nil)) (fun _ _ s_ h => by obtain ⟨v0, w0, rfl, h0, v1, w1, rfl, h1, rfl⟩ := h; exact ⟨v0, v1, rfl, h0, h1, (by exact ⟨by (try dsimp only); omega, by (try dsimp only); omega⟩)⟩) fun _ _ h => h) (fun row_93 erow_93 v95 Gs94 s94 h96 => ?_)
      have hrl : row_93.length = 23 := by rw [erow_93]; exact numbers_len _
      refine b_setV (r := rS) 7 sc_law.nd (d_callQ (P := rS (m_law_text row_93)) (row_93) F_law_text hr (by decide) (a_cons (P := (rL K rI) row_93) (d_var 6 (P := (rL K rI) row_93) rfl h96) a_nil) (fun _ _ s_ h => by obtain ⟨v0, w0, rfl, h0, rfl⟩ := h; exact ⟨v0, rfl, h0, (by assumption)⟩) fun _ _ h => h) (fun name_97 ename_97 v99 Gs98 s98 h100 => ?_)
      cases h100
      have hnl : name_97.length ≤ 100 := by rw [ename_97]; exact text_len _
      refine b_if (S' := ((List Nat))) (fun (z104 : ((List Nat))) σ_ G_ cs_ => ∃ o105 : Option V, ∃ o106 : Option V, ∃ o107 : Option V, σ_ = [some v0_, some (.ref l2), some (.ref l28), some (.ref l54), some (.ref l57), some (.int x89), some v95, some (.str (SX.S z104)), o105, o106, o107] ∧ (l57, HO.lst us81) :: (l54, HO.dK us79) :: (l28, HO.ins (clA mg "Orders") dx34 (nf_Orders.zip [.ref l35, .ref l38, v41, .ref l43])) :: (dx34, HO.own l28) :: (l35, HO.dK us36) :: (l38, HO.dK us39) :: (l43, HO.dK us44) :: (l2, HO.ins (clA mg "Orders") dx67 (nf_Orders.zip [.ref l68, .ref l71, v74, .ref l76])) :: (dx67, HO.own l2) :: (l68, HO.dK us69) :: (l71, HO.dK us72) :: (l76, HO.dK us77) :: cs = cs_) (t_w (w_and (t_truL (r := rS) (d_var 4 (P := rdL K _ rS z64.2.2) rfl (rdL_cell List.mem_cons_self (Rs.mono (s91.trans (s94.trans s98)) h82)))) fun hk103 => (w_and1 (t_cmp op_eq (nomark _) (d_mod (d_int1 m_int (d_ixL (r := rI) (xs := row_93) (i := 19) (x := (ixg row_93 19)) (D.imp (P := (rL K rI) row_93) (d_var 6 (P := (rL K rI) row_93) rfl (Mono.mono s98 h96)) fun _ _ => rdL_of) d_int (atI_ixg (by first | (constructor <;> omega) | (simp only [List.length_cons, List.length_nil]; constructor <;> omega) | exact ix_mod (by omega) | (simp only [decide_eq_true_eq, decide_eq_false_iff_not] at *; constructor <;> omega) | (simp only [decide_eq_true_eq, decide_eq_false_iff_not, Bool.and_eq_true, Bool.or_eq_true, Bool.or_eq_false_iff, Bool.not_eq_true', Bool.not_eq_false', Bool.not_not, ne_eq, Int.not_lt, Int.not_le] at *; constructor <;> omega))))) d_int (by decide)) d_int fun _ _ _ _ _ _ hx hy _ q => c_eqI hx hy q)))) ?_ ?_ ?_
      · intro hc101 Gs102 s102
        have dhc101 := hc101
        try simp only [decide_eq_true_eq, decide_eq_false_iff_not, Bool.and_eq_true, Bool.and_eq_false_imp, Bool.or_eq_true, Bool.or_eq_false_iff, Bool.not_eq_true', Bool.not_eq_false', Bool.not_not, ne_eq, Int.not_lt, Int.not_le] at dhc101
        refine b_setV (r := rS) 7 sc_law.nd (d_ixL (r := rS) (xs := z64.2.2) (i := ((ixg row_93 20) % (z64.2.2.length : Int))) (x := (ixg z64.2.2 ((ixg row_93 20) % (z64.2.2.length : Int)))) (d_var 4 (P := rdL K _ rS z64.2.2) rfl (rdL_cell List.mem_cons_self (Rs.mono (s91.trans (s94.trans (s98.trans s102))) h82))) (d_mod (d_int1 m_int (d_ixL (r := rI) (xs := row_93) (i := 20) (x := (ixg row_93 20)) (D.imp (P := (rL K rI) row_93) (d_var 6 (P := (rL K rI) row_93) rfl (Mono.mono (s98.trans s102) h96)) fun _ _ => rdL_of) d_int (atI_ixg (by first | (constructor <;> omega) | (simp only [List.length_cons, List.length_nil]; constructor <;> omega) | exact ix_mod (by omega) | (simp only [decide_eq_true_eq, decide_eq_false_iff_not] at *; constructor <;> omega) | (simp only [decide_eq_true_eq, decide_eq_false_iff_not, Bool.and_eq_true, Bool.or_eq_true, Bool.or_eq_false_iff, Bool.not_eq_true', Bool.not_eq_false', Bool.not_not, ne_eq, Int.not_lt, Int.not_le] at *; constructor <;> omega))))) (d_lenL (r := rS) m_len (d_var 4 (P := rdL K _ rS z64.2.2) rfl (rdL_cell List.mem_cons_self (Rs.mono (s91.trans (s94.trans (s98.trans s102))) h82)))) (by omega)) (atI_ixg (by first | (constructor <;> omega) | (simp only [List.length_cons, List.length_nil]; constructor <;> omega) | exact ix_mod (by omega) | (simp only [decide_eq_true_eq, decide_eq_false_iff_not] at *; constructor <;> omega) | (simp only [decide_eq_true_eq, decide_eq_false_iff_not, Bool.and_eq_true, Bool.or_eq_true, Bool.or_eq_false_iff, Bool.not_eq_true', Bool.not_eq_false', Bool.not_not, ne_eq, Int.not_lt, Int.not_le] at *; constructor <;> omega)))) (fun name_108 ename_108 v110 Gs109 s109 h111 => ?_)
        cases h111
        have hnl2 : name_108.length ≤ 100 := by rw [ename_108]; exact hT _ (ixg_mem (Int.emod_nonneg _ (by omega)) (Int.emod_lt_of_pos _ (by omega)))
        exact b_nil (by refine ⟨_, _, _, rfl, rfl⟩)
      · intro hc101 Gs102 s102
        have dhc101 := hc101
        try simp only [decide_eq_true_eq, decide_eq_false_iff_not, Bool.and_eq_true, Bool.and_eq_false_imp, Bool.or_eq_true, Bool.or_eq_false_iff, Bool.not_eq_true', Bool.not_eq_false', Bool.not_not, ne_eq, Int.not_lt, Int.not_le] at dhc101
        exact b_nil (by refine ⟨_, _, _, rfl, rfl⟩)
      · intro z104 _ _ _ sz104 hNz104 hmz104
        obtain ⟨o105, o106, o107, rfl, rfl⟩ := hNz104
        have hjz104 : z104.length ≤ 100 := by (try unfold letV at hmz104); (try split at hmz104) <;> cases hmz104 <;> (first | omega | (rename_i q; simp only [Bool.and_eq_true, decide_eq_true_eq] at q; exact hT _ (ixg_mem (Int.emod_nonneg _ (by omega)) (Int.emod_lt_of_pos _ (by omega)))))
        refine b_app 0 (P := rS z104) rfl (d_var 4 (P := rV (.ref l57)) rfl rfl) (d_var 7 (P := rS z104) rfl rfl) (by have hq := Rs.length h82; omega) (fun v112 Gs113 s113 h114 => ?_)
        have h116 := Rs.snoc h114 (Rs.mono (s91.trans (s94.trans (s98.trans (sz104.trans s113)))) h82)
        refine letV_intro (fun tried_115 etried_115 => ?_)
        rw [← etried_115] at h116
        have ntried_115 : tried_115.length = z64.2.2.length + 1 := by rw [etried_115, List.length_append]; rfl
        refine b_setV (r := rS) 8 sc_law.nd (d_ixTv (r := (cc rS (cc rS (cc rS (cc rS (cc rS (cc rS (cc rS (c0 rS))))))))) (x := ([116, 101, 108, 108, 101, 114], [111, 102, 102, 105, 99, 101, 114], [99, 104, 105, 101, 102], [99, 104, 105, 101], [116, 101, 108, 108, 101, 114, 115], ([] : List Nat), [99, 104, 105, 101, 102], [111, 102, 102, 105, 99, 101, 114])) (xs := [([116, 101, 108, 108, 101, 114], [111, 102, 102, 105, 99, 101, 114], [99, 104, 105, 101, 102], [99, 104, 105, 101], [116, 101, 108, 108, 101, 114, 115], ([] : List Nat), [99, 104, 105, 101, 102], [111, 102, 102, 105, 99, 101, 114]).1, ([116, 101, 108, 108, 101, 114], [111, 102, 102, 105, 99, 101, 114], [99, 104, 105, 101, 102], [99, 104, 105, 101], [116, 101, 108, 108, 101, 114, 115], ([] : List Nat), [99, 104, 105, 101, 102], [111, 102, 102, 105, 99, 101, 114]).2.1, ([116, 101, 108, 108, 101, 114], [111, 102, 102, 105, 99, 101, 114], [99, 104, 105, 101, 102], [99, 104, 105, 101], [116, 101, 108, 108, 101, 114, 115], ([] : List Nat), [99, 104, 105, 101, 102], [111, 102, 102, 105, 99, 101, 114]).2.2.1, ([116, 101, 108, 108, 101, 114], [111, 102, 102, 105, 99, 101, 114], [99, 104, 105, 101, 102], [99, 104, 105, 101], [116, 101, 108, 108, 101, 114, 115], ([] : List Nat), [99, 104, 105, 101, 102], [111, 102, 102, 105, 99, 101, 114]).2.2.2.1, ([116, 101, 108, 108, 101, 114], [111, 102, 102, 105, 99, 101, 114], [99, 104, 105, 101, 102], [99, 104, 105, 101], [116, 101, 108, 108, 101, 114, 115], ([] : List Nat), [99, 104, 105, 101, 102], [111, 102, 102, 105, 99, 101, 114]).2.2.2.2.1, ([116, 101, 108, 108, 101, 114], [111, 102, 102, 105, 99, 101, 114], [99, 104, 105, 101, 102], [99, 104, 105, 101], [116, 101, 108, 108, 101, 114, 115], ([] : List Nat), [99, 104, 105, 101, 102], [111, 102, 102, 105, 99, 101, 114]).2.2.2.2.2.1, ([116, 101, 108, 108, 101, 114], [111, 102, 102, 105, 99, 101, 114], [99, 104, 105, 101, 102], [99, 104, 105, 101], [116, 101, 108, 108, 101, 114, 115], ([] : List Nat), [99, 104, 105, 101, 102], [111, 102, 102, 105, 99, 101, 114]).2.2.2.2.2.2.1, ([116, 101, 108, 108, 101, 114], [111, 102, 102, 105, 99, 101, 114], [99, 104, 105, 101, 102], [99, 104, 105, 101], [116, 101, 108, 108, 101, 114, 115], ([] : List Nat), [99, 104, 105, 101, 102], [111, 102, 102, 105, 99, 101, 114]).2.2.2.2.2.2.2]) (r0 := rS) (d_tup (r := (cc rS (cc rS (cc rS (cc rS (cc rS (cc rS (cc rS (c0 rS))))))))) (x := ([116, 101, 108, 108, 101, 114], [111, 102, 102, 105, 99, 101, 114], [99, 104, 105, 101, 102], [99, 104, 105, 101], [116, 101, 108, 108, 101, 114, 115], ([] : List Nat), [99, 104, 105, 101, 102], [111, 102, 102, 105, 99, 101, 114])) (a_cons (P := rS [116, 101, 108, 108, 101, 114]) (d_str (l := [116, 101, 108, 108, 101, 114]) (by decide +kernel)) (a_cons (P := rS [111, 102, 102, 105, 99, 101, 114]) (d_str (l := [111, 102, 102, 105, 99, 101, 114]) (by decide +kernel)) (a_cons (P := rS [99, 104, 105, 101, 102]) (d_str (l := [99, 104, 105, 101, 102]) (by decide +kernel)) (a_cons (P := rS [99, 104, 105, 101]) (d_str (l := [99, 104, 105, 101]) (by decide +kernel)) (a_cons (P := rS [116, 101, 108, 108, 101, 114, 115]) (d_str (l := [116, 101, 108, 108, 101, 114, 115]) (by decide +kernel)) (a_cons (P := rS ([] : List Nat)) (d_str (l := []) (by decide +kernel)) (a_cons (P := rS [99, 104, 105, 101, 102]) (d_str (l := [99, 104, 105, 101, 102]) (by decide +kernel)) (a_cons (P := rS [111, 102, 102, 105, 99, 101, 114]) (d_str (l := [111, 102, 102, 105, 99, 101, 114]) (by decide +kernel)) a_nil)))))))) (tp_c (tp_c (tp_c (tp_c (tp_c (tp_c (tp_c tp_1)))))))) (d_mod (d_int1 m_int (d_ixL (r := rI) (xs := row_93) (i := 21) (x := (ixg row_93 21)) (D.imp (P := (rL K rI) row_93) (d_var 6 (P := (rL K rI) row_93) rfl (Mono.mono (s98.trans (sz104.trans s113)) h96)) fun _ _ => rdL_of) d_int (atI_ixg (by first | (constructor <;> omega) | (simp only [List.length_cons, List.length_nil]; constructor <;> omega) | exact ix_mod (by omega) | (simp only [decide_eq_true_eq, decide_eq_false_iff_not] at *; constructor <;> omega) | (simp only [decide_eq_true_eq, decide_eq_false_iff_not, Bool.and_eq_true, Bool.or_eq_true, Bool.or_eq_false_iff, Bool.not_eq_true', Bool.not_eq_false', Bool.not_not, ne_eq, Int.not_lt, Int.not_le] at *; constructor <;> omega))))) d_int (by decide)) (ata_z (ata_z (ata_z (ata_z (ata_z (ata_z (ata_z ata_1))))))) (by omega) (by (simp only [List.length_cons, List.length_nil]; omega))) (fun role_here_117 erole_here_117 v119 Gs118 s118 h120 => ?_)
        cases h120
        refine b_setV (r := rB) 9 sc_law.nd (d_callQ (P := rB (m_is_name z104)) (z104) F_is_name hr (by decide) (a_cons (P := rS z104) (d_var 7 (P := rS z104) rfl rfl) a_nil) (fun _ _ s_ h => by obtain ⟨v0, w0, rfl, h0, rfl⟩ := h; exact ⟨v0, rfl, h0, (by (try dsimp only); first | assumption | omega | (refine ⟨?_, ?_⟩ <;> omega) | (refine ⟨?_, ?_, ?_⟩ <;> omega) | simp_all)⟩) fun _ _ h => h) (fun told_121 etold_121 v123 Gs122 s122 h124 => ?_)
        cases h124
        refine b_ifx (t_w (w_or (t_not (t_val (d_isi (h := (inferInstance : HasTy K rB "bool")) (u := "bool") (k := true) m_isinstance m_bool (d_var 9 (P := rB told_121) rfl rfl)))) fun hk127 => (w_or1 (t_cmp op_ne (nomark _) (d_var 9 (P := rB told_121) rfl rfl) (d_callQ (P := rB (m_law_is_name z104)) (z104) F_law_is_name hr (by decide) (a_cons (P := rS z104) (d_var 7 (P := rS z104) rfl rfl) a_nil) (fun _ _ s_ h => by obtain ⟨v0, w0, rfl, h0, rfl⟩ := h; exact ⟨v0, rfl, h0, (by (try dsimp only); first | assumption | omega | (refine ⟨?_, ?_⟩ <;> omega) | (refine ⟨?_, ?_, ?_⟩ <;> omega) | simp_all)⟩) fun _ _ h => h) fun _ _ _ _ _ _ hx hy _ q => c_neB hx hy q)))) ?_ ?_
        · intro hc125 Gs126 s126
          have dhc125 := hc125
          try simp only [decide_eq_true_eq, decide_eq_false_iff_not, Bool.and_eq_true, Bool.and_eq_false_imp, Bool.or_eq_true, Bool.or_eq_false_iff, Bool.not_eq_true', Bool.not_eq_false', Bool.not_not, ne_eq, Int.not_lt, Int.not_le] at dhc125
          exact b_ret (P := rB false) d_bl (fun _ _ _ h => ⟨⟨[(l57, HO.lst (us81 ++ [v112])), (l54, HO.dK us79), (l28, HO.ins (clA mg "Orders") dx34 (nf_Orders.zip [.ref l35, .ref l38, v41, .ref l43])), (dx34, HO.own l28), (l35, HO.dK us36), (l38, HO.dK us39), (l43, HO.dK us44), (l2, HO.ins (clA mg "Orders") dx67 (nf_Orders.zip [.ref l68, .ref l71, v74, .ref l76])), (dx67, HO.own l2), (l68, HO.dK us69), (l71, HO.dK us72), (l76, HO.dK us77)], rfl⟩, h⟩)
        · intro hc125 Gs126 s126
          have dhc125 := hc125
          try simp only [decide_eq_true_eq, decide_eq_false_iff_not, Bool.and_eq_true, Bool.and_eq_false_imp, Bool.or_eq_true, Bool.or_eq_false_iff, Bool.not_eq_true', Bool.not_eq_false', Bool.not_not, ne_eq, Int.not_lt, Int.not_le] at dhc125
          refine b_setV (r := (rO rS)) 10 sc_law.nd (d_callR (P := (rO rS) (m_law_due z64.2.1 z104 role_here_117)) (z64.2.1, z104, role_here_117) F_law_due hr (by decide) (a_cons (P := rV (.ref l54)) (d_var 3 (P := rV (.ref l54)) rfl rfl) (a_cons (P := rS z104) (d_var 7 (P := rS z104) rfl rfl) (a_cons (P := rS role_here_117) (d_var 8 (P := rS role_here_117) rfl rfl) a_nil))) (fun _ _ s_ h => by obtain ⟨v0, w0, rfl, h0, v1, w1, rfl, h1, v2, w2, rfl, h2, rfl⟩ := h; cases h0; exact ⟨[(l54, HO.dK us79)], (l57, HO.lst (us81 ++ [v112])) :: (l28, HO.ins (clA mg "Orders") dx34 (nf_Orders.zip [.ref l35, .ref l38, v41, .ref l43])) :: (dx34, HO.own l28) :: (l35, HO.dK us36) :: (l38, HO.dK us39) :: (l43, HO.dK us44) :: (l2, HO.ins (clA mg "Orders") dx67 (nf_Orders.zip [.ref l68, .ref l71, v74, .ref l76])) :: (dx67, HO.own l2) :: (l68, HO.dK us69) :: (l71, HO.dK us72) :: (l76, HO.dK us77) :: cs, (perm_to (k := 1) rfl (List.Perm.refl _)), ⟨_, _, _, _, rfl, rfl, (Ms.mono (s91.trans (s94.trans (s98.trans (sz104.trans (s113.trans (s118.trans (s122.trans (s126.trans s_)))))))) kh80), h1, h2, (by (try dsimp only); first | assumption | omega | (refine ⟨?_, ?_⟩ <;> omega) | (refine ⟨?_, ?_, ?_⟩ <;> omega) | simp_all)⟩⟩) fun _ _ h => h) (fun due_here_128 edue_here_128 v130 Gs129 s129 h131 => ?_)
          refine letV_intro (fun r140 er140 => ?_)
          have Ar140 := add_due z104 role_here_117 hU hG
          rw [← er140] at Ar140
          refine b_setC 9 sc_law.nd ?_
          refine ec_callM F_law_add hr (by decide) ?_
          refine ac_cons ?_
          refine ec_D (P := rV (.ref l2)) (d_var 1 (P := rV (.ref l2)) rfl rfl) (fun v_ Gs132 s132 hv_ => ?_)
          cases hv_
          refine ac_cons ?_
          refine ec_D (P := rS z104) (d_var 7 (P := rS z104) rfl rfl) (fun v134 Gs133 s133 h135 => ?_)
          refine ac_cons ?_
          refine ec_D (P := rS role_here_117) (d_var 8 (P := rS role_here_117) rfl rfl) (fun v137 Gs136 s136 h138 => ?_)
          refine ac_nil' (fun Gs139 s139 => ?_)
          refine ⟨(z64.1, z104, role_here_117), [(l2, HO.ins (clA mg "Orders") dx67 (nf_Orders.zip [.ref l68, .ref l71, v74, .ref l76])), (dx67, HO.own l2), (l68, HO.dK us69), (l71, HO.dK us72), (l76, HO.dK us77)], (l57, HO.lst (us81 ++ [v112])) :: (l54, HO.dK us79) :: (l28, HO.ins (clA mg "Orders") dx34 (nf_Orders.zip [.ref l35, .ref l38, v41, .ref l43])) :: (dx34, HO.own l28) :: (l35, HO.dK us36) :: (l38, HO.dK us39) :: (l43, HO.dK us44) :: cs, (perm_to (k := 7) rfl (perm_to (k := 7) rfl (perm_to (k := 7) rfl (perm_to (k := 7) rfl (perm_to (k := 7) rfl (List.Perm.refl _)))))), ⟨_, _, _, _, _, _, _, _, _, _, _, rfl, rfl, (Ms.mono (s91.trans (s94.trans (s98.trans (sz104.trans (s113.trans (s118.trans (s122.trans (s126.trans (s129.trans (s132.trans (s133.trans (s136.trans s139)))))))))))) kh70), (Ms.mono (s91.trans (s94.trans (s98.trans (sz104.trans (s113.trans (s118.trans (s122.trans (s126.trans (s129.trans (s132.trans (s133.trans (s136.trans s139)))))))))))) kh73), (Mono.mono (s91.trans (s94.trans (s98.trans (sz104.trans (s113.trans (s118.trans (s122.trans (s126.trans (s129.trans (s132.trans (s133.trans (s136.trans s139)))))))))))) h75), (Ms.mono (s91.trans (s94.trans (s98.trans (sz104.trans (s113.trans (s118.trans (s122.trans (s126.trans (s129.trans (s132.trans (s133.trans (s136.trans s139)))))))))))) kh78), (Mono.mono (s136.trans s139) h135), (Mono.mono s139 h138), (by exact ⟨by (try dsimp only); omega, by (try dsimp only); rw [hU]; omega⟩)⟩, ?_⟩
          rintro v158 Gs141 mc142 s141 ⟨v143, v144, a145, dx146, l147, us148, l150, us151, v153, l155, us156, e_, rfl, kh149, kh152, h154, kh157, h159⟩
          cases e_
          have kh160 : Ms rS Gs141 r140.2.1 us148 := by rw [er140]; exact kh149
          have kh161 : Ms rI Gs141 r140.2.2.1 us151 := by rw [er140]; exact kh152
          have h162 : (rL K rI) r140.2.2.2.1 Gs141 v153 := by rw [er140]; exact h154
          have kh163 : Ms rI Gs141 r140.2.2.2.2 us156 := by rw [er140]; exact kh157
          have h164 : (rO rS) r140.1 Gs141 v158 := by rw [er140]; exact h159
          refine ⟨(l57, HO.lst (us81 ++ [v112])) :: (l54, HO.dK us79) :: (l28, HO.ins (clA mg "Orders") dx34 (nf_Orders.zip [.ref l35, .ref l38, v41, .ref l43])) :: (dx34, HO.own l28) :: (l35, HO.dK us36) :: (l38, HO.dK us39) :: (l43, HO.dK us44) :: (l2, HO.ins (clA mg "Orders") dx146 (nf_Orders.zip [.ref l147, .ref l150, v153, .ref l155])) :: (dx146, HO.own l2) :: (l147, HO.dK us148) :: (l150, HO.dK us151) :: (l155, HO.dK us156) :: cs, (perm_to (k := 5) rfl (perm_to (k := 5) rfl (perm_to (k := 5) rfl (perm_to (k := 5) rfl (perm_to (k := 5) rfl (perm_to (k := 5) rfl (perm_to (k := 5) rfl (List.Perm.refl _)))))))), ?_⟩
          intro _
          refine letV_intro (fun told_165 etold_165 => ?_)
          have h166 : (rO rS) told_165 Gs141 v158 := by rw [etold_165]; exact h164
          refine b_if (S' := ((List ((List Nat) × (List Nat))))) (fun (z169 : ((List ((List Nat) × (List Nat))))) σ_ G_ cs_ => ∃ us170 : List (Key × V), σ_ = [some v0_, some (.ref l2), some (.ref l28), some (.ref l54), some (.ref l57), some (.int x89), some v95, some (.str (SX.S z104)), some (.str (SX.S role_here_117)), some v158, some v130] ∧ (l57, HO.lst (us81 ++ [v112])) :: (l54, HO.dK us170) :: (l28, HO.ins (clA mg "Orders") dx34 (nf_Orders.zip [.ref l35, .ref l38, v41, .ref l43])) :: (dx34, HO.own l28) :: (l35, HO.dK us36) :: (l38, HO.dK us39) :: (l43, HO.dK us44) :: (l2, HO.ins (clA mg "Orders") dx146 (nf_Orders.zip [.ref l147, .ref l150, v153, .ref l155])) :: (dx146, HO.own l2) :: (l147, HO.dK us148) :: (l150, HO.dK us151) :: (l155, HO.dK us156) :: cs = cs_ ∧ Ms rS G_ z169 us170 ∧ z169.length ≤ z64.2.1.length + 1) (t_isN (r := rS) (d_var 10 (P := (rO rS) due_here_128) rfl (Mono.mono (s132.trans (s133.trans (s136.trans (s139.trans s141)))) h131))) ?_ ?_ ?_
          · intro hc167 Gs168 s168
            have dhc167 := hc167
            try simp only [decide_eq_true_eq, decide_eq_false_iff_not, Bool.and_eq_true, Bool.and_eq_false_imp, Bool.or_eq_true, Bool.or_eq_false_iff, Bool.not_eq_true', Bool.not_eq_false', Bool.not_not, ne_eq, Int.not_lt, Int.not_le] at dhc167
            refine b_ifx (t_notN (r := rS) (d_var 9 (P := (rO rS) told_165) rfl (Mono.mono s168 h166))) ?_ ?_
            · intro hc172 Gs173 s173
              have dhc172 := hc172
              try simp only [decide_eq_true_eq, decide_eq_false_iff_not, Bool.and_eq_true, Bool.and_eq_false_imp, Bool.or_eq_true, Bool.or_eq_false_iff, Bool.not_eq_true', Bool.not_eq_false', Bool.not_not, ne_eq, Int.not_lt, Int.not_le] at dhc172
              exact b_ret (P := rB false) d_bl (fun _ _ _ h => ⟨⟨[(l57, HO.lst (us81 ++ [v112])), (l54, HO.dK us79), (l28, HO.ins (clA mg "Orders") dx34 (nf_Orders.zip [.ref l35, .ref l38, v41, .ref l43])), (dx34, HO.own l28), (l35, HO.dK us36), (l38, HO.dK us39), (l43, HO.dK us44), (l2, HO.ins (clA mg "Orders") dx146 (nf_Orders.zip [.ref l147, .ref l150, v153, .ref l155])), (dx146, HO.own l2), (l147, HO.dK us148), (l150, HO.dK us151), (l155, HO.dK us156)], rfl⟩, h⟩)
            · intro hc172 Gs173 s173
              have dhc172 := hc172
              try simp only [decide_eq_true_eq, decide_eq_false_iff_not, Bool.and_eq_true, Bool.and_eq_false_imp, Bool.or_eq_true, Bool.or_eq_false_iff, Bool.not_eq_true', Bool.not_eq_false', Bool.not_not, ne_eq, Int.not_lt, Int.not_le] at dhc172
              refine b_mput (P := rS role_here_117) (rk := rS) (kk := z104) 1 (hu_of hr) rfl (d_var 8 (P := rS role_here_117) rfl rfl) (d_var 3 (P := rV (.ref l54)) rfl rfl) (d_var 7 (P := rS z104) rfl rfl) (by have hq := Ms.length kh80; omega) (fun v174 Gs175 s175 h176 => ?_)
              have kh177 := Ms.put (k := z104) h176 (Ms.mono (s91.trans (s94.trans (s98.trans (sz104.trans (s113.trans (s118.trans (s122.trans (s126.trans (s129.trans (s132.trans (s133.trans (s136.trans (s139.trans (s141.trans (s168.trans (s173.trans s175)))))))))))))))) kh80)
              refine letV_intro (fun users_178 eusers_178 => ?_)
              rw [← eusers_178] at kh177
              have nusers_178 : users_178.length ≤ z64.2.1.length + 1 := by rw [eusers_178]; exact mput_le _ _ _
              exact b_nil (by refine ⟨_, rfl, rfl, kh177, by first | omega | (simp only [List.length_append, List.length_cons, List.length_nil] at *; omega)⟩)
          · intro hc167 Gs168 s168
            have dhc167 := hc167
            try simp only [decide_eq_true_eq, decide_eq_false_iff_not, Bool.and_eq_true, Bool.and_eq_false_imp, Bool.or_eq_true, Bool.or_eq_false_iff, Bool.not_eq_true', Bool.not_eq_false', Bool.not_not, ne_eq, Int.not_lt, Int.not_le] at dhc167
            refine b_ifx (t_neD (K := K) (r := (rO rS)) hr (d_var 9 (P := (rO rS) told_165) rfl (Mono.mono s168 h166)) (d_var 10 (P := (rO rS) due_here_128) rfl (Mono.mono (s132.trans (s133.trans (s136.trans (s139.trans (s141.trans s168))))) h131)) (by first | exact roles_plain | exact okO (due_ok _ _ _ edue_here_128) | exact okO (due_ok _ _ _ (etold_165.trans Ar140.1)) | decide +kernel) (by first | exact roles_plain | exact okO (due_ok _ _ _ edue_here_128) | exact okO (due_ok _ _ _ (etold_165.trans Ar140.1)) | decide +kernel)) ?_ ?_
            · intro hc179 Gs180 s180
              have dhc179 := hc179
              try simp only [decide_eq_true_eq, decide_eq_false_iff_not, Bool.and_eq_true, Bool.and_eq_false_imp, Bool.or_eq_true, Bool.or_eq_false_iff, Bool.not_eq_true', Bool.not_eq_false', Bool.not_not, ne_eq, Int.not_lt, Int.not_le] at dhc179
              exact b_ret (P := rB false) d_bl (fun _ _ _ h => ⟨⟨[(l57, HO.lst (us81 ++ [v112])), (l54, HO.dK us79), (l28, HO.ins (clA mg "Orders") dx34 (nf_Orders.zip [.ref l35, .ref l38, v41, .ref l43])), (dx34, HO.own l28), (l35, HO.dK us36), (l38, HO.dK us39), (l43, HO.dK us44), (l2, HO.ins (clA mg "Orders") dx146 (nf_Orders.zip [.ref l147, .ref l150, v153, .ref l155])), (dx146, HO.own l2), (l147, HO.dK us148), (l150, HO.dK us151), (l155, HO.dK us156)], rfl⟩, h⟩)
            · intro hc179 Gs180 s180
              have dhc179 := hc179
              try simp only [decide_eq_true_eq, decide_eq_false_iff_not, Bool.and_eq_true, Bool.and_eq_false_imp, Bool.or_eq_true, Bool.or_eq_false_iff, Bool.not_eq_true', Bool.not_eq_false', Bool.not_not, ne_eq, Int.not_lt, Int.not_le] at dhc179
              exact b_nil (by refine ⟨_, rfl, rfl, (Ms.mono (s91.trans (s94.trans (s98.trans (sz104.trans (s113.trans (s118.trans (s122.trans (s126.trans (s129.trans (s132.trans (s133.trans (s136.trans (s139.trans (s141.trans (s168.trans s180))))))))))))))) kh80), by first | omega | (simp only [List.length_append, List.length_cons, List.length_nil] at *; omega)⟩)
          · intro z169 _ _ _ sz169 hNz169 hmz169
            obtain ⟨us170, rfl, rfl, kh171, hbz169⟩ := hNz169
            have hjz169 : r140.2.1 = z169 := Ar140.2.1.trans (by rw [← edue_here_128]; exact join_ok hmz169)
            refine letV_intro (fun t183 et183 => ?_)
            refine b_ifxC (fun G_ cs_ => cs_ = (l57, HO.lst (us81 ++ [v112])) :: (l54, HO.dK us170) :: (l28, HO.ins (clA mg "Orders") dx34 (nf_Orders.zip [.ref l35, .ref l38, v41, .ref l43])) :: (dx34, HO.own l28) :: (l35, HO.dK us36) :: (l38, HO.dK us39) :: (l43, HO.dK us44) :: (l2, HO.ins (clA mg "Orders") dx146 (nf_Orders.zip [.ref l147, .ref l150, v153, .ref l155])) :: (dx146, HO.own l2) :: (l147, HO.dK us148) :: (l150, HO.dK us151) :: (l155, HO.dK us156) :: cs) ?_ ?_ ?_
            · refine tc_kd (kb' := fun z_ G_ cs_ => z_ = t183 ∧ ∃ loc_ : Cells, cs_.Perm (loc_ ++ ((l57, HO.lst (us81 ++ [v112])) :: (l54, HO.dK us170) :: (l28, HO.ins (clA mg "Orders") dx34 (nf_Orders.zip [.ref l35, .ref l38, v41, .ref l43])) :: (dx34, HO.own l28) :: (l35, HO.dK us36) :: (l38, HO.dK us39) :: (l43, HO.dK us44) :: (l2, HO.ins (clA mg "Orders") dx146 (nf_Orders.zip [.ref l147, .ref l150, v153, .ref l155])) :: (dx146, HO.own l2) :: (l147, HO.dK us148) :: (l150, HO.dK us151) :: (l155, HO.dK us156) :: cs))) ?_ ?_
              · refine tc_w ?_
                refine wc_or ?_
                refine tc_T (t_not (t_val (d_callR (P := rB (m_law_asked r140.2 z169 z104)) (r140.2, z169, z104) F_law_asked hr (by decide) (a_cons (P := rV (.ref l2)) (d_var 1 (P := rV (.ref l2)) rfl rfl) (a_cons (P := rV (.ref l54)) (d_var 3 (P := rV (.ref l54)) rfl rfl) (a_cons (P := rS z104) (d_var 7 (P := rS z104) rfl rfl) a_nil))) (fun _ _ s_ h => by obtain ⟨v0, w0, rfl, h0, v1, w1, rfl, h1, v2, w2, rfl, h2, rfl⟩ := h; cases h0; cases h1; exact ⟨[(l2, HO.ins (clA mg "Orders") dx146 (nf_Orders.zip [.ref l147, .ref l150, v153, .ref l155])), (dx146, HO.own l2), (l147, HO.dK us148), (l150, HO.dK us151), (l155, HO.dK us156), (l54, HO.dK us170)], (l57, HO.lst (us81 ++ [v112])) :: (l28, HO.ins (clA mg "Orders") dx34 (nf_Orders.zip [.ref l35, .ref l38, v41, .ref l43])) :: (dx34, HO.own l28) :: (l35, HO.dK us36) :: (l38, HO.dK us39) :: (l43, HO.dK us44) :: cs, (perm_to (k := 7) rfl (perm_to (k := 7) rfl (perm_to (k := 7) rfl (perm_to (k := 7) rfl (perm_to (k := 7) rfl (perm_to (k := 1) rfl (List.Perm.refl _))))))), ⟨_, _, _, _, _, _, _, _, _, _, _, _, rfl, rfl, (Ms.mono (sz169.trans s_) kh160), (Ms.mono (sz169.trans s_) kh161), (Mono.mono (sz169.trans s_) h162), (Ms.mono (sz169.trans s_) kh163), (Ms.mono s_ kh171), h2, (by first | exact ⟨Ar140.2.2, by rw [← hjz169]; exact Ar140.2.2⟩ | exact ⟨by rw [hU]; exact hG, hG⟩ | exact ⟨(by rw [er30]; exact fun p h => (by cases h)), fun p h => (by cases h)⟩)⟩⟩) fun _ _ h => h))) (fun Gs184 s184 => ?_)
                refine ⟨fun hz185 => ?_, fun hz185 => ?_⟩
                · have dhz185 := hz185
                  try simp only [decide_eq_true_eq, decide_eq_false_iff_not, Bool.and_eq_true, Bool.and_eq_false_imp, Bool.or_eq_true, Bool.or_eq_false_iff, Bool.not_eq_true', Bool.not_eq_false', Bool.not_not, ne_eq, Int.not_lt, Int.not_le] at dhz185
                  obtain ⟨r194, er194⟩ : ∃ z_, z_ = (m_law_asked r30.2 ([] : (List ((List Nat) × (List Nat)))) z104) := ⟨_, rfl⟩
                  refine wc_or1 ?_
                  refine tc_not ?_
                  refine tc_E ?_
                  refine ec_callR F_law_asked hr (by decide) ?_
                  refine ac_cons ?_
                  refine ec_D (P := rV (.ref l28)) (d_var 2 (P := rV (.ref l28)) rfl rfl) (fun v_ Gs186 s186 hv_ => ?_)
                  cases hv_
                  refine ac_cons ?_
                  refine ec_dnew (fun l187 Gs188 s188 => ?_)
                  have kh189 : Ms rS Gs188 ([] : (List ((List Nat) × (List Nat)))) [] := Ms.nil
                  refine ac_cons ?_
                  refine ec_D (P := rS z104) (d_var 7 (P := rS z104) rfl rfl) (fun v191 Gs190 s190 h192 => ?_)
                  refine ac_nil' (fun Gs193 s193 => ?_)
                  refine ⟨(r30.2, ([] : (List ((List Nat) × (List Nat)))), z104), [(l28, HO.ins (clA mg "Orders") dx34 (nf_Orders.zip [.ref l35, .ref l38, v41, .ref l43])), (dx34, HO.own l28), (l35, HO.dK us36), (l38, HO.dK us39), (l43, HO.dK us44), (l187, HO.dK [])], (l57, HO.lst (us81 ++ [v112])) :: (l54, HO.dK us170) :: (l2, HO.ins (clA mg "Orders") dx146 (nf_Orders.zip [.ref l147, .ref l150, v153, .ref l155])) :: (dx146, HO.own l2) :: (l147, HO.dK us148) :: (l150, HO.dK us151) :: (l155, HO.dK us156) :: cs, (perm_to (k := 3) rfl (perm_to (k := 3) rfl (perm_to (k := 3) rfl (perm_to (k := 3) rfl (perm_to (k := 3) rfl (List.Perm.refl _)))))), ⟨_, _, _, _, _, _, _, _, _, _, _, _, rfl, rfl, (Ms.mono (s59.trans (s62.trans (s90.trans (s91.trans (s94.trans (s98.trans (sz104.trans (s113.trans (s118.trans (s122.trans (s126.trans (s129.trans (s132.trans (s133.trans (s136.trans (s139.trans (s141.trans (sz169.trans (s184.trans (s186.trans (s188.trans (s190.trans s193)))))))))))))))))))))) kh48), (Ms.mono (s59.trans (s62.trans (s90.trans (s91.trans (s94.trans (s98.trans (sz104.trans (s113.trans (s118.trans (s122.trans (s126.trans (s129.trans (s132.trans (s133.trans (s136.trans (s139.trans (s141.trans (sz169.trans (s184.trans (s186.trans (s188.trans (s190.trans s193)))))))))))))))))))))) kh49), (Mono.mono (s59.trans (s62.trans (s90.trans (s91.trans (s94.trans (s98.trans (sz104.trans (s113.trans (s118.trans (s122.trans (s126.trans (s129.trans (s132.trans (s133.trans (s136.trans (s139.trans (s141.trans (sz169.trans (s184.trans (s186.trans (s188.trans (s190.trans s193)))))))))))))))))))))) h50), (Ms.mono (s59.trans (s62.trans (s90.trans (s91.trans (s94.trans (s98.trans (sz104.trans (s113.trans (s118.trans (s122.trans (s126.trans (s129.trans (s132.trans (s133.trans (s136.trans (s139.trans (s141.trans (sz169.trans (s184.trans (s186.trans (s188.trans (s190.trans s193)))))))))))))))))))))) kh51), (Ms.mono (s190.trans s193) kh189), (Mono.mono s193 h192), (by first | exact ⟨Ar140.2.2, by rw [← hjz169]; exact Ar140.2.2⟩ | exact ⟨by rw [hU]; exact hG, hG⟩ | exact ⟨(by rw [er30]; exact fun p h => (by cases h)), fun p h => (by cases h)⟩)⟩, fun v196 Gs195 s195 h197 => ?_⟩
                  have h198 : rB r194 Gs195 v196 := by rw [er194]; exact h197
                  refine ⟨_, h198, ?_⟩
                  have hq199 : t183 = !(r194) := by rw [et183]; (try simp only [letV]); subst er194; rw [if_neg (by rw [hz185]; exact Bool.false_ne_true)]; (try rfl)
                  exact ⟨by rw [hq199], [(l187, HO.dK [])], (by (try rw [hq199]); exact (List.Perm.refl _))⟩
                · have dhz185 := hz185
                  have hq200 : t183 = true := by rw [et183]; (try simp only [letV]); rw [if_pos hz185]; (try rfl)
                  exact ⟨by rw [hq200], [], (by (try rw [hq200]); exact (List.Perm.refl _))⟩
              rintro _ Gs203 _ s203 ⟨rfl, loc201, pm202⟩
              refine ⟨loc201, _, pm202, ?_⟩
              exact ⟨rfl, rfl⟩
            · rintro hc181 Gs182 _ s182 rfl
              have dhc181 := hc181
              try simp only [decide_eq_true_eq, decide_eq_false_iff_not, Bool.and_eq_true, Bool.and_eq_false_imp, Bool.or_eq_true, Bool.or_eq_false_iff, Bool.not_eq_true', Bool.not_eq_false', Bool.not_not, ne_eq, Int.not_lt, Int.not_le] at dhc181
              exact b_ret (P := rB false) d_bl (fun _ _ _ h => ⟨⟨[(l57, HO.lst (us81 ++ [v112])), (l54, HO.dK us170), (l28, HO.ins (clA mg "Orders") dx34 (nf_Orders.zip [.ref l35, .ref l38, v41, .ref l43])), (dx34, HO.own l28), (l35, HO.dK us36), (l38, HO.dK us39), (l43, HO.dK us44), (l2, HO.ins (clA mg "Orders") dx146 (nf_Orders.zip [.ref l147, .ref l150, v153, .ref l155])), (dx146, HO.own l2), (l147, HO.dK us148), (l150, HO.dK us151), (l155, HO.dK us156)], rfl⟩, h⟩)
            · rintro hc181 Gs182 _ s182 rfl
              have dhc181 := hc181
              try simp only [decide_eq_true_eq, decide_eq_false_iff_not, Bool.and_eq_true, Bool.and_eq_false_imp, Bool.or_eq_true, Bool.or_eq_false_iff, Bool.not_eq_true', Bool.not_eq_false', Bool.not_not, ne_eq, Int.not_lt, Int.not_le] at dhc181
              exact b_nil (by refine ⟨_, _, _, _, _, _, _, _, _, _, _, _, _, _, _, _, rfl, rfl, (Ms.mono (sz169.trans s182) kh160), (Ms.mono (sz169.trans s182) kh161), (Mono.mono (sz169.trans s182) h162), (Ms.mono (sz169.trans s182) kh163), (Ms.mono s182 kh171), (Rs.mono (s118.trans (s122.trans (s126.trans (s129.trans (s132.trans (s133.trans (s136.trans (s139.trans (s141.trans (sz169.trans s182)))))))))) h116), ⟨by first | omega | (simp only [List.length_append, List.length_cons, List.length_nil] at *; omega), by first | omega | (simp only [List.length_append, List.length_cons, List.length_nil] at *; omega), by (refine ⟨⟨hjz169, by rw [← hjz169]; exact Ar140.2.2⟩, by (try dsimp only); omega, by (try dsimp only); omega, ?_⟩; rw [etried_115]; exact tried_ok hT hjz104)⟩⟩)
    · intro n_ z64 _ _ _ hnz64 s205 hNz64 hfz64
      obtain ⟨dx67, l68, us69, l71, us72, v74, l76, us77, us79, us81, o83, o84, o85, o86, o87, o88, rfl, rfl, kh70, kh73, h75, kh78, kh80, h82, hbz64⟩ := hNz64
      try simp only [rng_length, enumL_length] at hnz64
      obtain ⟨⟨hU, hG⟩, hL, hT0, hT⟩ := hbz64.2.2
      have hzs206 := h82
      refine b_freeze 0 rfl (fun s206 h207 => ?_)
      have kh207 : (rL K rS) z64.2.2 _ (.ref l57) := ⟨_, _, rfl, SqL.of h207, Rs.mono s206 hzs206⟩
      refine b_for (f := (st_law_2 z64)) (s0 := ()) (xs := z64.2.2) (fun n_ (z208 : Unit) σ_ G_ cs_ => ∃ o211 : Option V, ∃ o212 : Option V, ∃ o213 : Option V, ∃ o214 : Option V, ∃ o215 : Option V, ∃ o216 : Option V, σ_ = [some v0_, some (.ref l2), some (.ref l28), some (.ref l54), some (.ref l57), o211, o212, o213, o214, o215, o216] ∧ (l54, HO.dK us79) :: (l28, HO.ins (clA mg "Orders") dx34 (nf_Orders.zip [.ref l35, .ref l38, v41, .ref l43])) :: (dx34, HO.own l28) :: (l35, HO.dK us36) :: (l38, HO.dK us39) :: (l43, HO.dK us44) :: (l2, HO.ins (clA mg "Orders") dx67 (nf_Orders.zip [.ref l68, .ref l71, v74, .ref l76])) :: (dx67, HO.own l2) :: (l68, HO.dK us69) :: (l71, HO.dK us72) :: (l76, HO.dK us77) :: cs = cs_) (i_listF (r := rS) (d_var 4 (P := (rL K rS) z64.2.2) rfl kh207)) (tg_name 7 sc_law.nd) rfl PassesOwn.never ?_ ?_ ?_ ?_
      · intro _ s223
        exact ⟨_, _, _, _, _, _, rfl, rfl⟩
      · intro _ _ _ _ _ _
        trivial
      · intro pre_ x217 post_ z208 _ _ _ _ _ hxsz208 hrez208 s218 hNz208 s219 hSz208
        obtain ⟨o211, o212, o213, o214, o215, o216, rfl, rfl⟩ := hNz208
        obtain ⟨v209, h210, rfl⟩ := hSz208
        have hltz208 : pre_.length < z64.2.2.length := by rw [hxsz208, List.length_append, List.length_cons]; omega
        have hmemz208 : x217 ∈ z64.2.2 := by rw [hxsz208]; exact List.mem_append_right _ List.mem_cons_self
        try simp only [rng_length, rng_mem, enumL_length] at hltz208 hmemz208
        show B _ _ _ _ _ _ _ (st_law_2 z64 z208 x217)
        unfold st_law_2
        cases h210
        refine b_ifx (t_not (t_val (d_callR (P := rB (m_law_asked z64.1 z64.2.1 x217)) (z64.1, z64.2.1, x217) F_law_asked hr (by decide) (a_cons (P := rV (.ref l2)) (d_var 1 (P := rV (.ref l2)) rfl rfl) (a_cons (P := rV (.ref l54)) (d_var 3 (P := rV (.ref l54)) rfl rfl) (a_cons (P := rS x217) (d_var 7 (P := rS x217) rfl rfl) a_nil))) (fun _ _ s_ h => by obtain ⟨v0, w0, rfl, h0, v1, w1, rfl, h1, v2, w2, rfl, h2, rfl⟩ := h; cases h0; cases h1; exact ⟨[(l2, HO.ins (clA mg "Orders") dx67 (nf_Orders.zip [.ref l68, .ref l71, v74, .ref l76])), (dx67, HO.own l2), (l68, HO.dK us69), (l71, HO.dK us72), (l76, HO.dK us77), (l54, HO.dK us79)], (l28, HO.ins (clA mg "Orders") dx34 (nf_Orders.zip [.ref l35, .ref l38, v41, .ref l43])) :: (dx34, HO.own l28) :: (l35, HO.dK us36) :: (l38, HO.dK us39) :: (l43, HO.dK us44) :: cs, (perm_to (k := 6) rfl (perm_to (k := 6) rfl (perm_to (k := 6) rfl (perm_to (k := 6) rfl (perm_to (k := 6) rfl (List.Perm.refl _)))))), ⟨_, _, _, _, _, _, _, _, _, _, _, _, rfl, rfl, (Ms.mono (s206.trans (s218.trans (s219.trans s_))) kh70), (Ms.mono (s206.trans (s218.trans (s219.trans s_))) kh73), (Mono.mono (s206.trans (s218.trans (s219.trans s_))) h75), (Ms.mono (s206.trans (s218.trans (s219.trans s_))) kh78), (Ms.mono (s206.trans (s218.trans (s219.trans s_))) kh80), h2, (by first | exact ⟨Ar140.2.2, by rw [← hjz169]; exact Ar140.2.2⟩ | exact ⟨by rw [hU]; exact hG, hG⟩ | exact ⟨(by rw [er30]; exact fun p h => (by cases h)), fun p h => (by cases h)⟩)⟩⟩) fun _ _ h => h))) ?_ ?_
        · intro hc221 Gs222 s222
          have dhc221 := hc221
          try simp only [decide_eq_true_eq, decide_eq_false_iff_not, Bool.and_eq_true, Bool.and_eq_false_imp, Bool.or_eq_true, Bool.or_eq_false_iff, Bool.not_eq_true', Bool.not_eq_false', Bool.not_not, ne_eq, Int.not_lt, Int.not_le] at dhc221
          exact b_ret (P := rB false) d_bl (fun _ _ _ h => ⟨⟨[(l54, HO.dK us79), (l28, HO.ins (clA mg "Orders") dx34 (nf_Orders.zip [.ref l35, .ref l38, v41, .ref l43])), (dx34, HO.own l28), (l35, HO.dK us36), (l38, HO.dK us39), (l43, HO.dK us44), (l2, HO.ins (clA mg "Orders") dx67 (nf_Orders.zip [.ref l68, .ref l71, v74, .ref l76])), (dx67, HO.own l2), (l68, HO.dK us69), (l71, HO.dK us72), (l76, HO.dK us77)], rfl⟩, h⟩)
        · intro hc221 Gs222 s222
          have dhc221 := hc221
          try simp only [decide_eq_true_eq, decide_eq_false_iff_not, Bool.and_eq_true, Bool.and_eq_false_imp, Bool.or_eq_true, Bool.or_eq_false_iff, Bool.not_eq_true', Bool.not_eq_false', Bool.not_not, ne_eq, Int.not_lt, Int.not_le] at dhc221
          exact b_nil (by refine ⟨_, _, _, _, _, _, rfl, rfl⟩)
      · intro n_ z208 _ _ _ hnz208 s224 hNz208 hfz208
        obtain ⟨o211, o212, o213, o214, o215, o216, rfl, rfl⟩ := hNz208
        try simp only [rng_length, enumL_length] at hnz208
        exact b_ret (P := rB true) d_bl (fun _ _ _ h => ⟨⟨[(l54, HO.dK us79), (l28, HO.ins (clA mg "Orders") dx34 (nf_Orders.zip [.ref l35, .ref l38, v41, .ref l43])), (dx34, HO.own l28), (l35, HO.dK us36), (l38, HO.dK us39), (l43, HO.dK us44), (l2, HO.ins (clA mg "Orders") dx67 (nf_Orders.zip [.ref l68, .ref l71, v74, .ref l76])), (dx67, HO.own l2), (l68, HO.dK us69), (l71, HO.dK us72), (l76, HO.dK us77)], rfl⟩, h⟩)
end Ck47

set_option synthInstance.maxSize 10000
namespace Ck47
open PySem L2 PyProof.Rows J
theorem all_mk {l : PySem.W.OpenLaw} {w : World} {K : PySem.W.Frag} {h : Heap} {mg : Str → Option Value} {fa f1 f2 f3 f4 f5 f6 f7 f8 f9 f10 f11 f12 f13 f14 f15 f16 : Addr} (X : K.In h) (G : h.Ns mainGlobals mg) (hfa : mg "law" = some (.ref fa))
    {C_Orders : Addr} {od1 an1 od2 an2 od3 an3 od4 an4 od5 an5 od6 an6 od7 an7 od8 an8 od9 an9 od10 an10 od11 an11 od12 an12 od13 an13 od14 an14 od15 an15 od16 an16 : Option Addr} {sl1 sl2 sl3 sl4 sl5 sl6 sl7 sl8 sl9 sl10 sl11 sl12 sl13 sl14 sl15 sl16 : Array (Option Value)} {oc1 kV1 dc1 pm1 cd1 ct1 oc2 kV2 dc2 pm2 cd2 ct2 oc3 kV3 dc3 pm3 cd3 ct3 oc4 kV4 dc4 pm4 cd4 ct4 oc5 kV5 dc5 pm5 cd5 ct5 oc6 kV6 dc6 pm6 cd6 ct6 oc7 kV7 dc7 pm7 cd7 ct7 oc8 kV8 dc8 pm8 cd8 ct8 oc9 kV9 dc9 pm9 cd9 ct9 oc10 kV10 dc10 pm10 cd10 ct10 oc11 kV11 dc11 pm11 cd11 ct11 oc12 kV12 dc12 pm12 cd12 ct12 oc13 kV13 dc13 pm13 cd13 ct13 oc14 kV14 dc14 pm14 cd14 ct14 oc15 kV15 dc15 pm15 cd15 ct15 oc16 kV16 dc16 pm16 cd16 ct16 : Value}
    (a1 : PySem.W.nsIn K mainGlobals "_law_numbers" = some (some (.ref f1))) (l1 : K.lookup f1 = some ⟨oc1, od1, .func (PySem.W.fnOf "_law_numbers" "_law_numbers" (defArgs s_law_numbers) (defBody s_law_numbers) (defScope s_law_numbers) .none kV1 dc1 pm1 an1 cd1 ct1), sl1⟩) (c1 : PySem.W.codeIn K cd1 "_law_numbers" = true) (k1 : PySem.W.keepIn K (.ref f1) = true)
    (a2 : PySem.W.nsIn K mainGlobals "_law_text" = some (some (.ref f2))) (l2 : K.lookup f2 = some ⟨oc2, od2, .func (PySem.W.fnOf "_law_text" "_law_text" (defArgs s_law_text) (defBody s_law_text) (defScope s_law_text) .none kV2 dc2 pm2 an2 cd2 ct2), sl2⟩) (c2 : PySem.W.codeIn K cd2 "_law_text" = true) (k2 : PySem.W.keepIn K (.ref f2) = true)
    (a3 : PySem.W.nsIn K mainGlobals "is_name" = some (some (.ref f3))) (l3 : K.lookup f3 = some ⟨oc3, od3, .func (PySem.W.fnOf "is_name" "is_name" (defArgs s_is_name) (defBody s_is_name) (defScope s_is_name) .none kV3 dc3 pm3 an3 cd3 ct3), sl3⟩) (c3 : PySem.W.codeIn K cd3 "is_name" = true) (k3 : PySem.W.keepIn K (.ref f3) = true)
    (a4 : PySem.W.nsIn K mainGlobals "_law_is_name" = some (some (.ref f4))) (l4 : K.lookup f4 = some ⟨oc4, od4, .func (PySem.W.fnOf "_law_is_name" "_law_is_name" (defArgs s_law_is_name) (defBody s_law_is_name) (defScope s_law_is_name) .none kV4 dc4 pm4 an4 cd4 ct4), sl4⟩) (c4 : PySem.W.codeIn K cd4 "_law_is_name" = true) (k4 : PySem.W.keepIn K (.ref f4) = true)
    (a5 : PySem.W.nsIn K mainGlobals "_law_due" = some (some (.ref f5))) (l5 : K.lookup f5 = some ⟨oc5, od5, .func (PySem.W.fnOf "_law_due" "_law_due" (defArgs s_law_due) (defBody s_law_due) (defScope s_law_due) .none kV5 dc5 pm5 an5 cd5 ct5), sl5⟩) (c5 : PySem.W.codeIn K cd5 "_law_due" = true) (k5 : PySem.W.keepIn K (.ref f5) = true)
    (a6 : PySem.W.nsIn K mainGlobals "_law_class" = some (some (.ref f6))) (l6 : K.lookup f6 = some ⟨oc6, od6, .func (PySem.W.fnOf "_law_class" "_law_class" (defArgs s_law_class) (defBody s_law_class) (defScope s_law_class) .none kV6 dc6 pm6 an6 cd6 ct6), sl6⟩) (c6 : PySem.W.codeIn K cd6 "_law_class" = true) (k6 : PySem.W.keepIn K (.ref f6) = true)
    (a7 : PySem.W.nsIn K mainGlobals "check_name" = some (some (.ref f7))) (l7 : K.lookup f7 = some ⟨oc7, od7, .func (PySem.W.fnOf "check_name" "check_name" (defArgs s_check_name) (defBody s_check_name) (defScope s_check_name) .none kV7 dc7 pm7 an7 cd7 ct7), sl7⟩) (c7 : PySem.W.codeIn K cd7 "check_name" = true) (k7 : PySem.W.keepIn K (.ref f7) = true)
    (a8 : PySem.W.findIn K (.ref C_Orders) "add_user" = some (some (.ref f8))) (i8 : PySem.W.isFn K (.ref f8) = true) (l8 : K.lookup f8 = some ⟨oc8, od8, .func (PySem.W.fnOf "add_user" "Orders.add_user" (defArgs s_Orders_add_user) (defBody s_Orders_add_user) (defScope s_Orders_add_user) .none kV8 dc8 pm8 an8 cd8 ct8), sl8⟩) (c8 : PySem.W.codeIn K cd8 "Orders.add_user" = true) (k8 : PySem.W.keepIn K (.ref f8) = true)
    (a9 : PySem.W.nsIn K mainGlobals "_law_add" = some (some (.ref f9))) (l9 : K.lookup f9 = some ⟨oc9, od9, .func (PySem.W.fnOf "_law_add" "_law_add" (defArgs s_law_add) (defBody s_law_add) (defScope s_law_add) .none kV9 dc9 pm9 an9 cd9 ct9), sl9⟩) (c9 : PySem.W.codeIn K cd9 "_law_add" = true) (k9 : PySem.W.keepIn K (.ref f9) = true)
    (a10 : PySem.W.findIn K (.ref C_Orders) "role_of" = some (some (.ref f10))) (i10 : PySem.W.isFn K (.ref f10) = true) (l10 : K.lookup f10 = some ⟨oc10, od10, .func (PySem.W.fnOf "role_of" "Orders.role_of" (defArgs s_Orders_role_of) (defBody s_Orders_role_of) (defScope s_Orders_role_of) .none kV10 dc10 pm10 an10 cd10 ct10), sl10⟩) (c10 : PySem.W.codeIn K cd10 "Orders.role_of" = true) (k10 : PySem.W.keepIn K (.ref f10) = true)
    (a11 : PySem.W.nsIn K mainGlobals "_law_role" = some (some (.ref f11))) (l11 : K.lookup f11 = some ⟨oc11, od11, .func (PySem.W.fnOf "_law_role" "_law_role" (defArgs s_law_role) (defBody s_law_role) (defScope s_law_role) .none kV11 dc11 pm11 an11 cd11 ct11), sl11⟩) (c11 : PySem.W.codeIn K cd11 "_law_role" = true) (k11 : PySem.W.keepIn K (.ref f11) = true)
    (a12 : PySem.W.findIn K (.ref C_Orders) "may" = some (some (.ref f12))) (i12 : PySem.W.isFn K (.ref f12) = true) (l12 : K.lookup f12 = some ⟨oc12, od12, .func (PySem.W.fnOf "may" "Orders.may" (defArgs s_Orders_may) (defBody s_Orders_may) (defScope s_Orders_may) .none kV12 dc12 pm12 an12 cd12 ct12), sl12⟩) (c12 : PySem.W.codeIn K cd12 "Orders.may" = true) (k12 : PySem.W.keepIn K (.ref f12) = true)
    (a13 : PySem.W.nsIn K mainGlobals "_law_may" = some (some (.ref f13))) (l13 : K.lookup f13 = some ⟨oc13, od13, .func (PySem.W.fnOf "_law_may" "_law_may" (defArgs s_law_may) (defBody s_law_may) (defScope s_law_may) .none kV13 dc13 pm13 an13 cd13 ct13), sl13⟩) (c13 : PySem.W.codeIn K cd13 "_law_may" = true) (k13 : PySem.W.keepIn K (.ref f13) = true)
    (a14 : PySem.W.nsIn K mainGlobals "_law_asked" = some (some (.ref f14))) (l14 : K.lookup f14 = some ⟨oc14, od14, .func (PySem.W.fnOf "_law_asked" "_law_asked" (defArgs s_law_asked) (defBody s_law_asked) (defScope s_law_asked) .none kV14 dc14 pm14 an14 cd14 ct14), sl14⟩) (c14 : PySem.W.codeIn K cd14 "_law_asked" = true) (k14 : PySem.W.keepIn K (.ref f14) = true)
    (a15 : PySem.W.findIn K (.ref C_Orders) "__init__" = some (some (.ref f15))) (i15 : PySem.W.isFn K (.ref f15) = true) (l15 : K.lookup f15 = some ⟨oc15, od15, .func (PySem.W.fnOf "__init__" "Orders.__init__" (defArgs s_Orders___init__) (defBody s_Orders___init__) (defScope s_Orders___init__) .none kV15 dc15 pm15 an15 cd15 ct15), sl15⟩) (c15 : PySem.W.codeIn K cd15 "Orders.__init__" = true) (k15 : PySem.W.keepIn K (.ref f15) = true)
    (a16 : PySem.W.nsIn K mainGlobals "law" = some (some (.ref f16))) (l16 : K.lookup f16 = some ⟨oc16, od16, .func (PySem.W.fnOf "law" "law" (defArgs s_law) (defBody s_law) (defScope s_law) .none kV16 dc16 pm16 an16 cd16 ct16), sl16⟩) (c16 : PySem.W.codeIn K cd16 "law" = true) (k16 : PySem.W.keepIn K (.ref f16) = true)
    (aC_Orders : PySem.W.nsIn K mainGlobals "Orders" = some (some (.ref C_Orders))) (pg_Orders : PySem.W.plainGet K C_Orders Str.empty = true) (hd_Orders : PySem.W.hasDictIn K C_Orders = true) (po_Orders : PySem.W.plainOver K C_Orders = true) (sa_Orders : PySem.W.findIn K (.ref C_Orders) "__setattr__" = some (some (.builtin "object.__setattr__"))) (mk_Orders : PySem.W.makesIn K C_Orders = true) (kc_Orders : PySem.W.keepIn K (.ref C_Orders) = true)
    (na_Orders_roles : PySem.W.findIn K (.ref C_Orders) "roles" = some none)
    (na_Orders_rules : PySem.W.findIn K (.ref C_Orders) "rules" = some none)
    (na_Orders_placed : PySem.W.findIn K (.ref C_Orders) "placed" = some none)
    (na_Orders_numbers_by_key : PySem.W.findIn K (.ref C_Orders) "numbers_by_key" = some none)
    (z_ValueError : PySem.W.nsIn K mainGlobals "ValueError" = some none)
    (z_all : PySem.W.nsIn K mainGlobals "all" = some none)
    (z_bool : PySem.W.nsIn K mainGlobals "bool" = some none)
    (z_int : PySem.W.nsIn K mainGlobals "int" = some none)
    (z_isinstance : PySem.W.nsIn K mainGlobals "isinstance" = some none)
    (z_len : PySem.W.nsIn K mainGlobals "len" = some none)
    (z_range : PySem.W.nsIn K mainGlobals "range" = some none)
    (z_str : PySem.W.nsIn K mainGlobals "str" = some none)
    (z_tuple : PySem.W.nsIn K mainGlobals "tuple" = some none)
    {tk_DIGITS : Tok} (y_DIGITS : PySem.W.nsIn K mainGlobals "DIGITS" = some (some (.str "0123456789" tk_DIGITS)))
    {tk_LETTERS : Tok} (y_LETTERS : PySem.W.nsIn K mainGlobals "LETTERS" = some (some (.str "abcdefghijklmnopqrstuvwxyz" tk_LETTERS)))
    {aK_ROLES : Addr} {nK_ROLES : Nat} {sK_ROLES : Array (Option Value)} {tk_ROLES_0 tk_ROLES_1 tk_ROLES_2 : Tok} (y_ROLES : PySem.W.nsIn K mainGlobals "ROLES" = some (some (.ref aK_ROLES))) (w_ROLES : K.lookup aK_ROLES = some ⟨.type "tuple", none, .seq #[.str "teller" tk_ROLES_0, .str "officer" tk_ROLES_1, .str "chief" tk_ROLES_2] nK_ROLES, sK_ROLES⟩)
    {eB e0 e1 e2 e3 e4 e5 e6 : Addr} (bB : PySem.W.nsIn K mainGlobals "BankError" = some (some (.ref eB))) (bB1 : PySem.W.subIn K (.ref eB) (.type "BaseException") = some true) (bB2 : PySem.W.hasDictIn K eB = true) (bB3 : PySem.W.typeIn K (.ref eB) = some (.type "type"))
    (ea0 : PySem.W.nsIn K mainGlobals "BadValue" = some (some (.ref e0))) (ex0 : PySem.W.excIn K e0 [.type "ValueError", .type "Exception", .type "BaseException", .type "object"] "ValueError.__new__" = true) (ek0 : PySem.W.keepIn K (.ref e0) = true) (eb0 : PySem.W.subIn K (.ref e0) (.type "BaseException") = some true) (et0 : PySem.W.typeIn K (.ref e0) = some (.type "type"))
    (eg0 : PySem.W.findIn K (.ref e0) "__getattribute__" = some (some (.builtin "BaseException.__getattribute__"))) (eh0 : PySem.W.findIn K (.ref e0) "__getattr__" = some none) (ed0 : PySem.W.hasDictIn K e0 = true) (ec0 : PySem.W.findIn K (.ref e0) "__class__" = some (some (.builtin "object.__class__"))) (em0 : PySem.W.mroIn K e0 (.type "object") = some true) (ey0 : PySem.W.subIn K (.ref e0) (.ref eB) = some true)
    (eq0_0 : PySem.W.subIn K (.ref e0) (.ref e0) = some true)
    (eq0_1 : PySem.W.subIn K (.ref e0) (.ref e1) = some false)
    (eq0_2 : PySem.W.subIn K (.ref e0) (.ref e2) = some false)
    (eq0_3 : PySem.W.subIn K (.ref e0) (.ref e3) = some false)
    (eq0_4 : PySem.W.subIn K (.ref e0) (.ref e4) = some false)
    (eq0_5 : PySem.W.subIn K (.ref e0) (.ref e5) = some false)
    (eq0_6 : PySem.W.subIn K (.ref e0) (.ref e6) = some false)
    (ea1 : PySem.W.nsIn K mainGlobals "BadDay" = some (some (.ref e1))) (ex1 : PySem.W.excIn K e1 [.type "ValueError", .type "Exception", .type "BaseException", .type "object"] "ValueError.__new__" = true) (ek1 : PySem.W.keepIn K (.ref e1) = true) (eb1 : PySem.W.subIn K (.ref e1) (.type "BaseException") = some true) (et1 : PySem.W.typeIn K (.ref e1) = some (.type "type"))
    (eg1 : PySem.W.findIn K (.ref e1) "__getattribute__" = some (some (.builtin "BaseException.__getattribute__"))) (eh1 : PySem.W.findIn K (.ref e1) "__getattr__" = some none) (ed1 : PySem.W.hasDictIn K e1 = true) (ec1 : PySem.W.findIn K (.ref e1) "__class__" = some (some (.builtin "object.__class__"))) (em1 : PySem.W.mroIn K e1 (.type "object") = some true) (ey1 : PySem.W.subIn K (.ref e1) (.ref eB) = some true)
    (eq1_0 : PySem.W.subIn K (.ref e1) (.ref e0) = some false)
    (eq1_1 : PySem.W.subIn K (.ref e1) (.ref e1) = some true)
    (eq1_2 : PySem.W.subIn K (.ref e1) (.ref e2) = some false)
    (eq1_3 : PySem.W.subIn K (.ref e1) (.ref e3) = some false)
    (eq1_4 : PySem.W.subIn K (.ref e1) (.ref e4) = some false)
    (eq1_5 : PySem.W.subIn K (.ref e1) (.ref e5) = some false)
    (eq1_6 : PySem.W.subIn K (.ref e1) (.ref e6) = some false)
    (ea2 : PySem.W.nsIn K mainGlobals "Missing" = some (some (.ref e2))) (ex2 : PySem.W.excIn K e2 [.type "ValueError", .type "Exception", .type "BaseException", .type "object"] "ValueError.__new__" = true) (ek2 : PySem.W.keepIn K (.ref e2) = true) (eb2 : PySem.W.subIn K (.ref e2) (.type "BaseException") = some true) (et2 : PySem.W.typeIn K (.ref e2) = some (.type "type"))
    (eg2 : PySem.W.findIn K (.ref e2) "__getattribute__" = some (some (.builtin "BaseException.__getattribute__"))) (eh2 : PySem.W.findIn K (.ref e2) "__getattr__" = some none) (ed2 : PySem.W.hasDictIn K e2 = true) (ec2 : PySem.W.findIn K (.ref e2) "__class__" = some (some (.builtin "object.__class__"))) (em2 : PySem.W.mroIn K e2 (.type "object") = some true) (ey2 : PySem.W.subIn K (.ref e2) (.ref eB) = some true)
    (eq2_0 : PySem.W.subIn K (.ref e2) (.ref e0) = some false)
    (eq2_1 : PySem.W.subIn K (.ref e2) (.ref e1) = some false)
    (eq2_2 : PySem.W.subIn K (.ref e2) (.ref e2) = some true)
    (eq2_3 : PySem.W.subIn K (.ref e2) (.ref e3) = some false)
    (eq2_4 : PySem.W.subIn K (.ref e2) (.ref e4) = some false)
    (eq2_5 : PySem.W.subIn K (.ref e2) (.ref e5) = some false)
    (eq2_6 : PySem.W.subIn K (.ref e2) (.ref e6) = some false)
    (ea3 : PySem.W.nsIn K mainGlobals "Refused" = some (some (.ref e3))) (ex3 : PySem.W.excIn K e3 [.type "ValueError", .type "Exception", .type "BaseException", .type "object"] "ValueError.__new__" = true) (ek3 : PySem.W.keepIn K (.ref e3) = true) (eb3 : PySem.W.subIn K (.ref e3) (.type "BaseException") = some true) (et3 : PySem.W.typeIn K (.ref e3) = some (.type "type"))
    (eg3 : PySem.W.findIn K (.ref e3) "__getattribute__" = some (some (.builtin "BaseException.__getattribute__"))) (eh3 : PySem.W.findIn K (.ref e3) "__getattr__" = some none) (ed3 : PySem.W.hasDictIn K e3 = true) (ec3 : PySem.W.findIn K (.ref e3) "__class__" = some (some (.builtin "object.__class__"))) (em3 : PySem.W.mroIn K e3 (.type "object") = some true) (ey3 : PySem.W.subIn K (.ref e3) (.ref eB) = some true)
    (eq3_0 : PySem.W.subIn K (.ref e3) (.ref e0) = some false)
    (eq3_1 : PySem.W.subIn K (.ref e3) (.ref e1) = some false)
    (eq3_2 : PySem.W.subIn K (.ref e3) (.ref e2) = some false)
    (eq3_3 : PySem.W.subIn K (.ref e3) (.ref e3) = some true)
    (eq3_4 : PySem.W.subIn K (.ref e3) (.ref e4) = some false)
    (eq3_5 : PySem.W.subIn K (.ref e3) (.ref e5) = some false)
    (eq3_6 : PySem.W.subIn K (.ref e3) (.ref e6) = some false)
    (ea4 : PySem.W.nsIn K mainGlobals "Full" = some (some (.ref e4))) (ex4 : PySem.W.excIn K e4 [.type "ValueError", .type "Exception", .type "BaseException", .type "object"] "ValueError.__new__" = true) (ek4 : PySem.W.keepIn K (.ref e4) = true) (eb4 : PySem.W.subIn K (.ref e4) (.type "BaseException") = some true) (et4 : PySem.W.typeIn K (.ref e4) = some (.type "type"))
    (eg4 : PySem.W.findIn K (.ref e4) "__getattribute__" = some (some (.builtin "BaseException.__getattribute__"))) (eh4 : PySem.W.findIn K (.ref e4) "__getattr__" = some none) (ed4 : PySem.W.hasDictIn K e4 = true) (ec4 : PySem.W.findIn K (.ref e4) "__class__" = some (some (.builtin "object.__class__"))) (em4 : PySem.W.mroIn K e4 (.type "object") = some true) (ey4 : PySem.W.subIn K (.ref e4) (.ref eB) = some true)
    (eq4_0 : PySem.W.subIn K (.ref e4) (.ref e0) = some false)
    (eq4_1 : PySem.W.subIn K (.ref e4) (.ref e1) = some false)
    (eq4_2 : PySem.W.subIn K (.ref e4) (.ref e2) = some false)
    (eq4_3 : PySem.W.subIn K (.ref e4) (.ref e3) = some false)
    (eq4_4 : PySem.W.subIn K (.ref e4) (.ref e4) = some true)
    (eq4_5 : PySem.W.subIn K (.ref e4) (.ref e5) = some false)
    (eq4_6 : PySem.W.subIn K (.ref e4) (.ref e6) = some false)
    (ea5 : PySem.W.nsIn K mainGlobals "NotAllowed" = some (some (.ref e5))) (ex5 : PySem.W.excIn K e5 [.type "ValueError", .type "Exception", .type "BaseException", .type "object"] "ValueError.__new__" = true) (ek5 : PySem.W.keepIn K (.ref e5) = true) (eb5 : PySem.W.subIn K (.ref e5) (.type "BaseException") = some true) (et5 : PySem.W.typeIn K (.ref e5) = some (.type "type"))
    (eg5 : PySem.W.findIn K (.ref e5) "__getattribute__" = some (some (.builtin "BaseException.__getattribute__"))) (eh5 : PySem.W.findIn K (.ref e5) "__getattr__" = some none) (ed5 : PySem.W.hasDictIn K e5 = true) (ec5 : PySem.W.findIn K (.ref e5) "__class__" = some (some (.builtin "object.__class__"))) (em5 : PySem.W.mroIn K e5 (.type "object") = some true) (ey5 : PySem.W.subIn K (.ref e5) (.ref eB) = some true)
    (eq5_0 : PySem.W.subIn K (.ref e5) (.ref e0) = some false)
    (eq5_1 : PySem.W.subIn K (.ref e5) (.ref e1) = some false)
    (eq5_2 : PySem.W.subIn K (.ref e5) (.ref e2) = some false)
    (eq5_3 : PySem.W.subIn K (.ref e5) (.ref e3) = some false)
    (eq5_4 : PySem.W.subIn K (.ref e5) (.ref e4) = some false)
    (eq5_5 : PySem.W.subIn K (.ref e5) (.ref e5) = some true)
    (eq5_6 : PySem.W.subIn K (.ref e5) (.ref e6) = some false)
    (ea6 : PySem.W.nsIn K mainGlobals "Damaged" = some (some (.ref e6))) (ex6 : PySem.W.excIn K e6 [.type "ValueError", .type "Exception", .type "BaseException", .type "object"] "ValueError.__new__" = true) (ek6 : PySem.W.keepIn K (.ref e6) = true) (eb6 : PySem.W.subIn K (.ref e6) (.type "BaseException") = some true) (et6 : PySem.W.typeIn K (.ref e6) = some (.type "type"))
    (eg6 : PySem.W.findIn K (.ref e6) "__getattribute__" = some (some (.builtin "BaseException.__getattribute__"))) (eh6 : PySem.W.findIn K (.ref e6) "__getattr__" = some none) (ed6 : PySem.W.hasDictIn K e6 = true) (ec6 : PySem.W.findIn K (.ref e6) "__class__" = some (some (.builtin "object.__class__"))) (em6 : PySem.W.mroIn K e6 (.type "object") = some true) (ey6 : PySem.W.subIn K (.ref e6) (.ref eB) = some true)
    (eq6_0 : PySem.W.subIn K (.ref e6) (.ref e0) = some false)
    (eq6_1 : PySem.W.subIn K (.ref e6) (.ref e1) = some false)
    (eq6_2 : PySem.W.subIn K (.ref e6) (.ref e2) = some false)
    (eq6_3 : PySem.W.subIn K (.ref e6) (.ref e3) = some false)
    (eq6_4 : PySem.W.subIn K (.ref e6) (.ref e4) = some false)
    (eq6_5 : PySem.W.subIn K (.ref e6) (.ref e5) = some false)
    (eq6_6 : PySem.W.subIn K (.ref e6) (.ref e6) = some true)
    (eN : PySem.W.specialIn K (.builtin "object.__class__") "__get__" = some (some (.builtin "getset_descriptor.__get__"))) (eT : PySem.W.takesIn K (.builtin "object.__class__") = some true)
    : ∃ fd : FuncData, (∀ (s : Shared) (v : Value), BindsTo s fd ⟨[v], []⟩ [("_law_script", v)]) ∧ ∀ base : Heap, K.In base → base.Ns mainGlobals mg → FnOk l.prog w K mg base CX0 5 fa fd ["_law_script"] (sp_law K) := by
  have e := hfa.symm.trans (PySem.W.mg_of X G a16)
  cases e
  have F1 := fun_mk (st := s_law_numbers) l1 c1 k1
  have b1 := F1.binds (ps := ["_law_cell", "_law_count"]) fun _ _ _ _ _ _ us hl => match us, hl with | [_, _], _ => rfl
  have g1 := PySem.W.mg_of X G a1
  have F2 := fun_mk (st := s_law_text) l2 c2 k2
  have b2 := F2.binds (ps := ["_law_row"]) fun _ _ _ _ _ _ us hl => match us, hl with | [_], _ => rfl
  have g2 := PySem.W.mg_of X G a2
  have F3 := fun_mk (st := s_is_name) l3 c3 k3
  have b3 := F3.binds (ps := ["text"]) fun _ _ _ _ _ _ us hl => match us, hl with | [_], _ => rfl
  have g3 := PySem.W.mg_of X G a3
  have F4 := fun_mk (st := s_law_is_name) l4 c4 k4
  have b4 := F4.binds (ps := ["_law_text_here"]) fun _ _ _ _ _ _ us hl => match us, hl with | [_], _ => rfl
  have g4 := PySem.W.mg_of X G a4
  have F5 := fun_mk (st := s_law_due) l5 c5 k5
  have b5 := F5.binds (ps := ["_law_users", "_law_name", "_law_role_here"]) fun _ _ _ _ _ _ us hl => match us, hl with | [_, _, _], _ => rfl
  have g5 := PySem.W.mg_of X G a5
  have F6 := fun_mk (st := s_law_class) l6 c6 k6
  have b6 := F6.binds (ps := ["_law_e"]) fun _ _ _ _ _ _ us hl => match us, hl with | [_], _ => rfl
  have g6 := PySem.W.mg_of X G a6
  have F7 := fun_mk (st := s_check_name) l7 c7 k7
  have b7 := F7.binds (ps := ["text"]) fun _ _ _ _ _ _ us hl => match us, hl with | [_], _ => rfl
  have g7 := PySem.W.mg_of X G a7
  have F8 := fun_mk (st := s_Orders_add_user) l8 c8 k8
  have b8 := F8.binds (ps := ["self", "name", "role"]) fun _ _ _ _ _ _ us hl => match us, hl with | [_, _, _], _ => rfl
  have F9 := fun_mk (st := s_law_add) l9 c9 k9
  have b9 := F9.binds (ps := ["_law_orders", "_law_name", "_law_role_here"]) fun _ _ _ _ _ _ us hl => match us, hl with | [_, _, _], _ => rfl
  have g9 := PySem.W.mg_of X G a9
  have F10 := fun_mk (st := s_Orders_role_of) l10 c10 k10
  have b10 := F10.binds (ps := ["self", "name"]) fun _ _ _ _ _ _ us hl => match us, hl with | [_, _], _ => rfl
  have F11 := fun_mk (st := s_law_role) l11 c11 k11
  have b11 := F11.binds (ps := ["_law_orders", "_law_name"]) fun _ _ _ _ _ _ us hl => match us, hl with | [_, _], _ => rfl
  have g11 := PySem.W.mg_of X G a11
  have F12 := fun_mk (st := s_Orders_may) l12 c12 k12
  have b12 := F12.binds (ps := ["self", "name", "role"]) fun _ _ _ _ _ _ us hl => match us, hl with | [_, _, _], _ => rfl
  have F13 := fun_mk (st := s_law_may) l13 c13 k13
  have b13 := F13.binds (ps := ["_law_orders", "_law_name", "_law_role_here"]) fun _ _ _ _ _ _ us hl => match us, hl with | [_, _, _], _ => rfl
  have g13 := PySem.W.mg_of X G a13
  have F14 := fun_mk (st := s_law_asked) l14 c14 k14
  have b14 := F14.binds (ps := ["_law_orders", "_law_users", "_law_name"]) fun _ _ _ _ _ _ us hl => match us, hl with | [_, _, _], _ => rfl
  have g14 := PySem.W.mg_of X G a14
  have F15 := fun_mk (st := s_Orders___init__) l15 c15 k15
  have b15 := F15.binds (ps := ["self"]) fun _ _ _ _ _ _ us hl => match us, hl with | [_], _ => rfl
  have F16 := fun_mk (st := s_law) l16 c16 k16
  have b16 := F16.binds (ps := ["_law_script"]) fun _ _ _ _ _ _ us hl => match us, hl with | [_], _ => rfl
  have g16 := PySem.W.mg_of X G a16
  have g_Orders := PySem.W.mg_of X G aC_Orders
  have e_Orders : clA mg "Orders" = C_Orders := clA_of g_Orders
  have K_Orders : ClsK K C_Orders nf_Orders := ⟨⟨pg_Orders, hd_Orders, po_Orders, sa_Orders⟩, by decide +kernel, by simp only [nf_Orders, List.mem_cons, List.not_mem_nil, or_false]; rintro f (rfl | rfl | rfl | rfl) <;> assumption, by decide⟩
  have M8 : Meth K C_Orders "add_user" f8 := ⟨a8, i8, F8.kp⟩
  have M10 : Meth K C_Orders "role_of" f10 := ⟨a10, i10, F10.kp⟩
  have M12 : Meth K C_Orders "may" f12 := ⟨a12, i12, F12.kp⟩
  have M15 : Mk K C_Orders f15 := ⟨mk_Orders, a15, i15, kc_Orders⟩
  rw [← e_Orders] at K_Orders g_Orders
  rw [← e_Orders] at M8
  rw [← e_Orders] at M10
  rw [← e_Orders] at M12
  rw [← e_Orders] at M15
  have m_ValueError := PySem.W.mg_none_of X G z_ValueError
  have m_all := PySem.W.mg_none_of X G z_all
  have m_bool := PySem.W.mg_none_of X G z_bool
  have m_int := PySem.W.mg_none_of X G z_int
  have m_isinstance := PySem.W.mg_none_of X G z_isinstance
  have m_len := PySem.W.mg_none_of X G z_len
  have m_range := PySem.W.mg_none_of X G z_range
  have m_str := PySem.W.mg_none_of X G z_str
  have m_tuple := PySem.W.mg_none_of X G z_tuple
  have c_DIGITS : GlobR mg "DIGITS" (rS k_DIGITS) := ⟨.str "0123456789", _, PySem.W.mg_of X G y_DIGITS, ⟨_, rfl⟩, fun _ => (show V.str "0123456789" = V.str (SX.S k_DIGITS) from congrArg V.str (by decide +kernel))⟩
  have c_LETTERS : GlobR mg "LETTERS" (rS k_LETTERS) := ⟨.str "abcdefghijklmnopqrstuvwxyz", _, PySem.W.mg_of X G y_LETTERS, ⟨_, rfl⟩, fun _ => (show V.str "abcdefghijklmnopqrstuvwxyz" = V.str (SX.S k_LETTERS) from congrArg V.str (by decide +kernel))⟩
  have c_ROLES : GlobR mg "ROLES" ((rU K rS) k_ROLES) := globT (vs := [.str "teller", .str "officer", .str "chief"]) (PySem.W.mg_of X G y_ROLES) w_ROLES (.cons ⟨_, rfl⟩ (.cons ⟨_, rfl⟩ (.cons ⟨_, rfl⟩ .nil))) (show (3 : Nat) ≤ sizeLine by decide) fun _ => (.cons (show V.str "teller" = V.str (SX.S [116, 101, 108, 108, 101, 114]) from congrArg V.str (by decide +kernel)) (.cons (show V.str "officer" = V.str (SX.S [111, 102, 102, 105, 99, 101, 114]) from congrArg V.str (by decide +kernel)) (.cons (show V.str "chief" = V.str (SX.S [99, 104, 105, 101, 102]) from congrArg V.str (by decide +kernel)) .nil)))
  have i_ROLES : GlobR mg "ROLES" (rUK K k_ROLES) := globK (vs := [.str "teller", .str "officer", .str "chief"]) (PySem.W.mg_of X G y_ROLES) w_ROLES (.cons ⟨_, rfl⟩ (.cons ⟨_, rfl⟩ (.cons ⟨_, rfl⟩ .nil))) (show (3 : Nat) ≤ sizeLine by decide) fun _ => (.cons (show V.str "teller" = V.str (SX.S [116, 101, 108, 108, 101, 114]) from congrArg V.str (by decide +kernel)) (.cons (show V.str "officer" = V.str (SX.S [111, 102, 102, 105, 99, 101, 114]) from congrArg V.str (by decide +kernel)) (.cons (show V.str "chief" = V.str (SX.S [99, 104, 105, 101, 102]) from congrArg V.str (by decide +kernel)) .nil)))
  let adr : _root_.Fin 7 → Addr := fun i => match i with | 0 => e0 | 1 => e1 | 2 => e2 | 3 => e3 | 4 => e4 | 5 => e5 | 6 => e6
  have Er : Errs K mg nm_ adr eB := ⟨fun i => match i with | 0 => ⟨ex0, PySem.W.mg_of X G ea0, ek0, eb0, et0, ⟨eg0, eh0, eb0, ed0, ec0, eN, eT, em0⟩, PySem.W.exm_ref bB1 bB2 bB3 ey0⟩ | 1 => ⟨ex1, PySem.W.mg_of X G ea1, ek1, eb1, et1, ⟨eg1, eh1, eb1, ed1, ec1, eN, eT, em1⟩, PySem.W.exm_ref bB1 bB2 bB3 ey1⟩ | 2 => ⟨ex2, PySem.W.mg_of X G ea2, ek2, eb2, et2, ⟨eg2, eh2, eb2, ed2, ec2, eN, eT, em2⟩, PySem.W.exm_ref bB1 bB2 bB3 ey2⟩ | 3 => ⟨ex3, PySem.W.mg_of X G ea3, ek3, eb3, et3, ⟨eg3, eh3, eb3, ed3, ec3, eN, eT, em3⟩, PySem.W.exm_ref bB1 bB2 bB3 ey3⟩ | 4 => ⟨ex4, PySem.W.mg_of X G ea4, ek4, eb4, et4, ⟨eg4, eh4, eb4, ed4, ec4, eN, eT, em4⟩, PySem.W.exm_ref bB1 bB2 bB3 ey4⟩ | 5 => ⟨ex5, PySem.W.mg_of X G ea5, ek5, eb5, et5, ⟨eg5, eh5, eb5, ed5, ec5, eN, eT, em5⟩, PySem.W.exm_ref bB1 bB2 bB3 ey5⟩ | 6 => ⟨ex6, PySem.W.mg_of X G ea6, ek6, eb6, et6, ⟨eg6, eh6, eb6, ed6, ec6, eN, eT, em6⟩, PySem.W.exm_ref bB1 bB2 bB3 ey6⟩, fun i j => match i, j with | 0, 0 => kit_ref ed0 et0 eq0_0 eq0_0 | 0, 1 => kit_ref ed1 et1 eq0_1 eq1_1 | 0, 2 => kit_ref ed2 et2 eq0_2 eq2_2 | 0, 3 => kit_ref ed3 et3 eq0_3 eq3_3 | 0, 4 => kit_ref ed4 et4 eq0_4 eq4_4 | 0, 5 => kit_ref ed5 et5 eq0_5 eq5_5 | 0, 6 => kit_ref ed6 et6 eq0_6 eq6_6 | 1, 0 => kit_ref ed0 et0 eq1_0 eq0_0 | 1, 1 => kit_ref ed1 et1 eq1_1 eq1_1 | 1, 2 => kit_ref ed2 et2 eq1_2 eq2_2 | 1, 3 => kit_ref ed3 et3 eq1_3 eq3_3 | 1, 4 => kit_ref ed4 et4 eq1_4 eq4_4 | 1, 5 => kit_ref ed5 et5 eq1_5 eq5_5 | 1, 6 => kit_ref ed6 et6 eq1_6 eq6_6 | 2, 0 => kit_ref ed0 et0 eq2_0 eq0_0 | 2, 1 => kit_ref ed1 et1 eq2_1 eq1_1 | 2, 2 => kit_ref ed2 et2 eq2_2 eq2_2 | 2, 3 => kit_ref ed3 et3 eq2_3 eq3_3 | 2, 4 => kit_ref ed4 et4 eq2_4 eq4_4 | 2, 5 => kit_ref ed5 et5 eq2_5 eq5_5 | 2, 6 => kit_ref ed6 et6 eq2_6 eq6_6 | 3, 0 => kit_ref ed0 et0 eq3_0 eq0_0 | 3, 1 => kit_ref ed1 et1 eq3_1 eq1_1 | 3, 2 => kit_ref ed2 et2 eq3_2 eq2_2 | 3, 3 => kit_ref ed3 et3 eq3_3 eq3_3 | 3, 4 => kit_ref ed4 et4 eq3_4 eq4_4 | 3, 5 => kit_ref ed5 et5 eq3_5 eq5_5 | 3, 6 => kit_ref ed6 et6 eq3_6 eq6_6 | 4, 0 => kit_ref ed0 et0 eq4_0 eq0_0 | 4, 1 => kit_ref ed1 et1 eq4_1 eq1_1 | 4, 2 => kit_ref ed2 et2 eq4_2 eq2_2 | 4, 3 => kit_ref ed3 et3 eq4_3 eq3_3 | 4, 4 => kit_ref ed4 et4 eq4_4 eq4_4 | 4, 5 => kit_ref ed5 et5 eq4_5 eq5_5 | 4, 6 => kit_ref ed6 et6 eq4_6 eq6_6 | 5, 0 => kit_ref ed0 et0 eq5_0 eq0_0 | 5, 1 => kit_ref ed1 et1 eq5_1 eq1_1 | 5, 2 => kit_ref ed2 et2 eq5_2 eq2_2 | 5, 3 => kit_ref ed3 et3 eq5_3 eq3_3 | 5, 4 => kit_ref ed4 et4 eq5_4 eq4_4 | 5, 5 => kit_ref ed5 et5 eq5_5 eq5_5 | 5, 6 => kit_ref ed6 et6 eq5_6 eq6_6 | 6, 0 => kit_ref ed0 et0 eq6_0 eq0_0 | 6, 1 => kit_ref ed1 et1 eq6_1 eq1_1 | 6, 2 => kit_ref ed2 et2 eq6_2 eq2_2 | 6, 3 => kit_ref ed3 et3 eq6_3 eq3_3 | 6, 4 => kit_ref ed4 et4 eq6_4 eq4_4 | 6, 5 => kit_ref ed5 et5 eq6_5 eq5_5 | 6, 6 => kit_ref ed6 et6 eq6_6 eq6_6, PySem.W.mg_of X G bB⟩
  have O_law_numbers := fun base : Heap => ok_law_numbers (P := l.prog) (w := w) (base := base) F1 b1 g1 Er m_int m_range
  have O_law_text := fun base : Heap => ok_law_text (P := l.prog) (w := w) (base := base) F2 b2 g2 Er m_int m_len m_range
  have O_is_name := fun base : Heap => ok_is_name (P := l.prog) (w := w) (base := base) F3 b3 g3 Er m_all c_DIGITS c_LETTERS m_len
  have O_law_is_name := fun base : Heap => ok_law_is_name (P := l.prog) (w := w) (base := base) F4 b4 g4 Er m_len m_range
  have O_law_due := fun base : Heap => ok_law_due (P := l.prog) (w := w) (base := base) F5 b5 g5 Er (O_law_is_name base)
  have O_law_class := fun base : Heap => ok_law_class (P := l.prog) (w := w) (base := base) F6 b6 g6 Er m_ValueError m_isinstance m_len
  have O_check_name := fun base : Heap => ok_check_name (P := l.prog) (w := w) (base := base) F7 b7 g7 Er (O_is_name base)
  have O_Orders_add_user := fun base : Heap => ok_Orders_add_user (P := l.prog) (w := w) (base := base) F8 b8 M8 Er K_Orders c_ROLES (O_check_name base)
  have O_law_add := fun base : Heap => ok_law_add (P := l.prog) (w := w) (base := base) F9 b9 g9 Er K_Orders (O_Orders_add_user base) (O_law_class base)
  have O_Orders_role_of := fun base : Heap => ok_Orders_role_of (P := l.prog) (w := w) (base := base) F10 b10 M10 Er K_Orders
  have O_law_role := fun base : Heap => ok_law_role (P := l.prog) (w := w) (base := base) F11 b11 g11 Er K_Orders (O_Orders_role_of base) (O_law_class base)
  have O_Orders_may := fun base : Heap => ok_Orders_may (P := l.prog) (w := w) (base := base) F12 b12 M12 Er K_Orders c_ROLES i_ROLES
  have O_law_may := fun base : Heap => ok_law_may (P := l.prog) (w := w) (base := base) F13 b13 g13 Er K_Orders (O_Orders_may base) (O_law_class base)
  have O_law_asked := fun base : Heap => ok_law_asked (P := l.prog) (w := w) (base := base) F14 b14 g14 Er m_bool m_isinstance m_range m_str (O_law_may base) (O_law_role base)
  have O_Orders___init__ := fun base : Heap => ok_Orders___init__ (P := l.prog) (w := w) (base := base) F15 b15 M15 Er K_Orders
  exact ⟨PySem.W.fnOf "law" "law" (defArgs s_law) (defBody s_law) (defScope s_law) .none kV16 dc16 pm16 an16 cd16 ct16, fun s v => .of_eq rfl, fun base _ _ => ok_law F16 b16 g16 Er m_bool c_ROLES m_int m_isinstance m_len g_Orders m_tuple (O_Orders___init__ base) (O_law_add base) (O_law_asked base) (O_law_due base) (O_law_is_name base) (O_law_numbers base) (O_law_text base) (O_is_name base)⟩
theorem walk {l : PySem.W.OpenLaw} {q : Program} {loose : List Str} {XP : (Str → Option Value) → Heap → Prop} {YP : World → Heap → Prop} {d : DefRec} {K : Params → PySem.W.Frag} (hn : l.most = some 63) (hdf : d.params.defaults = [])
    (hY : ∀ (w : World) (h : Heap), YP w h → (K w.params).In h)
    (F : ∀ (w : World) (mg : Str → Option Value) (fa : Addr) (h : Heap), (K w.params).In h → h.Ns mainGlobals mg → mg d.name = some (.ref fa) →
      ∃ fd : FuncData, (∀ (s : Shared) (u : Value), BindsTo s fd ⟨[u], []⟩ [("_law_script", u)]) ∧ ∀ base : Heap, (K w.params).In base → base.Ns mainGlobals mg → FnOk l.prog w (K w.params) mg base CX0 5 fa fd ["_law_script"] (sp_law (K w.params))) :
    PySem.W.WalkO q loose XP YP l.row.toRowW d [] (fun f vs => PySem.call f vs) :=
  L2.walk_of (n := 63) (k := 5) (x := "_law_script") (CX := fun _ => CX0) (sp := fun w => sp_law (K w.params)) hn (by decide) hdf ⟨rfl, by decide, by decide⟩ hY F
    (fun w H a ns hl _ hS => ⟨ns, H, [], Desc.refl H, ⟨.ref a, rfl, ⟨a, ns.map V.int, rfl, hS, Rs.of_map (fun _ => rfl) ns⟩, hl⟩, fun v _ _ _ _ hv => hv.trans (congrArg V.bl (law_true ns))⟩) fun _ _ _ _ _ z => z
end Ck47
open PySem PySem.W PyProof.Rows in
set_option maxRecDepth 100000 in
set_option maxHeartbeats 0 in
theorem PySem.Challenge.cw_corebank_k47_names_and_roles_holds : PySem.Challenge.rw_corebank_k47_names_and_roles.Holds := by
  w_on; o_law; k_head; (case hw => w_witness2)
  k_fill
  refine Ck47.walk (l := PySem.Challenge.rw_corebank_k47_names_and_roles) rfl rfl (fun w h Y => PySem.W.kIn_of Y) ?F
  case F =>
    intro w mg fa h KX G hmg
    refine' Ck47.all_mk KX G hmg ?a1 ?l1 ?c1 ?k1 ?a2 ?l2 ?c2 ?k2 ?a3 ?l3 ?c3 ?k3 ?a4 ?l4 ?c4 ?k4 ?a5 ?l5 ?c5 ?k5 ?a6 ?l6 ?c6 ?k6 ?a7 ?l7 ?c7 ?k7 ?a8 ?i8 ?l8 ?c8 ?k8 ?a9 ?l9 ?c9 ?k9 ?a10 ?i10 ?l10 ?c10 ?k10 ?a11 ?l11 ?c11 ?k11 ?a12 ?i12 ?l12 ?c12 ?k12 ?a13 ?l13 ?c13 ?k13 ?a14 ?l14 ?c14 ?k14 ?a15 ?i15 ?l15 ?c15 ?k15 ?a16 ?l16 ?c16 ?k16 ?aC_Orders ?pg_Orders ?hd_Orders ?po_Orders ?sa_Orders ?mk_Orders ?kc_Orders ?na_Orders_roles ?na_Orders_rules ?na_Orders_placed ?na_Orders_numbers_by_key ?z_ValueError ?z_all ?z_bool ?z_int ?z_isinstance ?z_len ?z_range ?z_str ?z_tuple ?y_DIGITS ?y_LETTERS ?y_ROLES ?w_ROLES ?bB ?bB1 ?bB2 ?bB3 ?ea0 ?ex0 ?ek0 ?eb0 ?et0 ?eg0 ?eh0 ?ed0 ?ec0 ?em0 ?ey0 ?eq0_0 ?eq0_1 ?eq0_2 ?eq0_3 ?eq0_4 ?eq0_5 ?eq0_6 ?ea1 ?ex1 ?ek1 ?eb1 ?et1 ?eg1 ?eh1 ?ed1 ?ec1 ?em1 ?ey1 ?eq1_0 ?eq1_1 ?eq1_2 ?eq1_3 ?eq1_4 ?eq1_5 ?eq1_6 ?ea2 ?ex2 ?ek2 ?eb2 ?et2 ?eg2 ?eh2 ?ed2 ?ec2 ?em2 ?ey2 ?eq2_0 ?eq2_1 ?eq2_2 ?eq2_3 ?eq2_4 ?eq2_5 ?eq2_6 ?ea3 ?ex3 ?ek3 ?eb3 ?et3 ?eg3 ?eh3 ?ed3 ?ec3 ?em3 ?ey3 ?eq3_0 ?eq3_1 ?eq3_2 ?eq3_3 ?eq3_4 ?eq3_5 ?eq3_6 ?ea4 ?ex4 ?ek4 ?eb4 ?et4 ?eg4 ?eh4 ?ed4 ?ec4 ?em4 ?ey4 ?eq4_0 ?eq4_1 ?eq4_2 ?eq4_3 ?eq4_4 ?eq4_5 ?eq4_6 ?ea5 ?ex5 ?ek5 ?eb5 ?et5 ?eg5 ?eh5 ?ed5 ?ec5 ?em5 ?ey5 ?eq5_0 ?eq5_1 ?eq5_2 ?eq5_3 ?eq5_4 ?eq5_5 ?eq5_6 ?ea6 ?ex6 ?ek6 ?eb6 ?et6 ?eg6 ?eh6 ?ed6 ?ec6 ?em6 ?ey6 ?eq6_0 ?eq6_1 ?eq6_2 ?eq6_3 ?eq6_4 ?eq6_5 ?eq6_6 ?eN ?eT
    (case aC_Orders => k_is)
    (case a1 => k_is)
    (case l1 => k_is)
    (case c1 => k_is)
    (case k1 => k_is)
    (case a2 => k_is)
    (case l2 => k_is)
    (case c2 => k_is)
    (case k2 => k_is)
    (case a3 => k_is)
    (case l3 => k_is)
    (case c3 => k_is)
    (case k3 => k_is)
    (case a4 => k_is)
    (case l4 => k_is)
    (case c4 => k_is)
    (case k4 => k_is)
    (case a5 => k_is)
    (case l5 => k_is)
    (case c5 => k_is)
    (case k5 => k_is)
    (case a6 => k_is)
    (case l6 => k_is)
    (case c6 => k_is)
    (case k6 => k_is)
    (case a7 => k_is)
    (case l7 => k_is)
    (case c7 => k_is)
    (case k7 => k_is)
    (case a8 => k_is)
    (case i8 => k_is)
    (case l8 => k_is)
    (case c8 => k_is)
    (case k8 => k_is)
    (case a9 => k_is)
    (case l9 => k_is)
    (case c9 => k_is)
    (case k9 => k_is)
    (case a10 => k_is)
    (case i10 => k_is)
    (case l10 => k_is)
    (case c10 => k_is)
    (case k10 => k_is)
    (case a11 => k_is)
    (case l11 => k_is)
    (case c11 => k_is)
    (case k11 => k_is)
    (case a12 => k_is)
    (case i12 => k_is)
    (case l12 => k_is)
    (case c12 => k_is)
    (case k12 => k_is)
    (case a13 => k_is)
    (case l13 => k_is)
    (case c13 => k_is)
    (case k13 => k_is)
    (case a14 => k_is)
    (case l14 => k_is)
    (case c14 => k_is)
    (case k14 => k_is)
    (case a15 => k_is)
    (case i15 => k_is)
    (case l15 => k_is)
    (case c15 => k_is)
    (case k15 => k_is)
    (case a16 => k_is)
    (case l16 => k_is)
    (case c16 => k_is)
    (case k16 => k_is)
    (case pg_Orders => k_is)
    (case hd_Orders => k_is)
    (case po_Orders => k_is)
    (case sa_Orders => k_is)
    (case mk_Orders => k_is)
    (case kc_Orders => k_is)
    (case na_Orders_roles => k_is)
    (case na_Orders_rules => k_is)
    (case na_Orders_placed => k_is)
    (case na_Orders_numbers_by_key => k_is)
    (case z_ValueError => k_is)
    (case z_all => k_is)
    (case z_bool => k_is)
    (case z_int => k_is)
    (case z_isinstance => k_is)
    (case z_len => k_is)
    (case z_range => k_is)
    (case z_str => k_is)
    (case z_tuple => k_is)
    (case y_DIGITS => k_is)
    (case y_LETTERS => k_is)
    (case y_ROLES => k_is)
    (case w_ROLES => k_is)
    (case bB => k_is)
    (case bB1 => k_is)
    (case bB2 => k_is)
    (case bB3 => k_is)
    (case ea0 => k_is)
    (case ex0 => k_exc)
    (case ek0 => k_is)
    (case eb0 => k_is)
    (case et0 => k_is)
    (case eg0 => k_is)
    (case eh0 => k_is)
    (case ed0 => k_is)
    (case ec0 => k_is)
    (case em0 => k_is)
    (case ey0 => k_is)
    (case ea1 => k_is)
    (case ex1 => k_exc)
    (case ek1 => k_is)
    (case eb1 => k_is)
    (case et1 => k_is)
    (case eg1 => k_is)
    (case eh1 => k_is)
    (case ed1 => k_is)
    (case ec1 => k_is)
    (case em1 => k_is)
    (case ey1 => k_is)
    (case ea2 => k_is)
    (case ex2 => k_exc)
    (case ek2 => k_is)
    (case eb2 => k_is)
    (case et2 => k_is)
    (case eg2 => k_is)
    (case eh2 => k_is)
    (case ed2 => k_is)
    (case ec2 => k_is)
    (case em2 => k_is)
    (case ey2 => k_is)
    (case ea3 => k_is)
    (case ex3 => k_exc)
    (case ek3 => k_is)
    (case eb3 => k_is)
    (case et3 => k_is)
    (case eg3 => k_is)
    (case eh3 => k_is)
    (case ed3 => k_is)
    (case ec3 => k_is)
    (case em3 => k_is)
    (case ey3 => k_is)
    (case ea4 => k_is)
    (case ex4 => k_exc)
    (case ek4 => k_is)
    (case eb4 => k_is)
    (case et4 => k_is)
    (case eg4 => k_is)
    (case eh4 => k_is)
    (case ed4 => k_is)
    (case ec4 => k_is)
    (case em4 => k_is)
    (case ey4 => k_is)
    (case ea5 => k_is)
    (case ex5 => k_exc)
    (case ek5 => k_is)
    (case eb5 => k_is)
    (case et5 => k_is)
    (case eg5 => k_is)
    (case eh5 => k_is)
    (case ed5 => k_is)
    (case ec5 => k_is)
    (case em5 => k_is)
    (case ey5 => k_is)
    (case ea6 => k_is)
    (case ex6 => k_exc)
    (case ek6 => k_is)
    (case eb6 => k_is)
    (case et6 => k_is)
    (case eg6 => k_is)
    (case eh6 => k_is)
    (case ed6 => k_is)
    (case ec6 => k_is)
    (case em6 => k_is)
    (case ey6 => k_is)
    (case eN => k_is)
    (case eT => k_is)
    (case eq0_0 => first | rfl | k_is)
    (case eq0_1 => first | rfl | k_is)
    (case eq0_2 => first | rfl | k_is)
    (case eq0_3 => first | rfl | k_is)
    (case eq0_4 => first | rfl | k_is)
    (case eq0_5 => first | rfl | k_is)
    (case eq0_6 => first | rfl | k_is)
    (case eq1_0 => first | rfl | k_is)
    (case eq1_1 => first | rfl | k_is)
    (case eq1_2 => first | rfl | k_is)
    (case eq1_3 => first | rfl | k_is)
    (case eq1_4 => first | rfl | k_is)
    (case eq1_5 => first | rfl | k_is)
    (case eq1_6 => first | rfl | k_is)
    (case eq2_0 => first | rfl | k_is)
    (case eq2_1 => first | rfl | k_is)
    (case eq2_2 => first | rfl | k_is)
    (case eq2_3 => first | rfl | k_is)
    (case eq2_4 => first | rfl | k_is)
    (case eq2_5 => first | rfl | k_is)
    (case eq2_6 => first | rfl | k_is)
    (case eq3_0 => first | rfl | k_is)
    (case eq3_1 => first | rfl | k_is)
    (case eq3_2 => first | rfl | k_is)
    (case eq3_3 => first | rfl | k_is)
    (case eq3_4 => first | rfl | k_is)
    (case eq3_5 => first | rfl | k_is)
    (case eq3_6 => first | rfl | k_is)
    (case eq4_0 => first | rfl | k_is)
    (case eq4_1 => first | rfl | k_is)
    (case eq4_2 => first | rfl | k_is)
    (case eq4_3 => first | rfl | k_is)
    (case eq4_4 => first | rfl | k_is)
    (case eq4_5 => first | rfl | k_is)
    (case eq4_6 => first | rfl | k_is)
    (case eq5_0 => first | rfl | k_is)
    (case eq5_1 => first | rfl | k_is)
    (case eq5_2 => first | rfl | k_is)
    (case eq5_3 => first | rfl | k_is)
    (case eq5_4 => first | rfl | k_is)
    (case eq5_5 => first | rfl | k_is)
    (case eq5_6 => first | rfl | k_is)
    (case eq6_0 => first | rfl | k_is)
    (case eq6_1 => first | rfl | k_is)
    (case eq6_2 => first | rfl | k_is)
    (case eq6_3 => first | rfl | k_is)
    (case eq6_4 => first | rfl | k_is)
    (case eq6_5 => first | rfl | k_is)
    (case eq6_6 => first | rfl | k_is)

