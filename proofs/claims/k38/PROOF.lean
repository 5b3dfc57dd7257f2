import PyProof.Rows.All
import Wide.All
import OpenK.AllK
import Wide.FinOn
import HandS.ForMost
import HandS.ForExc
import HandS.Walk
import HandS.Codes
import HandS.Wide
import HandS.IsInst
import HandS.SortInts
import HandS.SortKw
import HandS.WordsExc
import HandS.ExcOwn
import HandS.TryOnly
import HandS.HotCalls
import HandS.ExcIs
import KE.KIsAll
import HandS.TupLe
import HandS.Text
import KE.DataCmp
import HandS.TupAny
import HandS.StrMore
import HandS.Conv
import PyProof.Rows.StrPadFill
import PyProof.StrOps2
import HandS.CallLocal
import HandS.SetFor
import HandS.Sort
import HandS.Star
import PySem.Challenge.RW_corebank_k38_match_exact
set_option Elab.async false
set_option linter.all false
set_option maxRecDepth 100000
set_option maxHeartbeats 4000000
set_option Elab.async false
/-! J: a layer of our own over the hand layer. The abstract heap is split: G, what never changes any more; cs, the cells that may still change, one after another. -/
namespace J
open PySem L2

/-! ### heaps in two parts -/
abbrev Cells := List (Addr × HO)
structure Desc (G : Hp) (cs : Cells) (H : Hp) : Prop where
  same : Same G H
  nd : (cs.map Prod.fst).Nodup
  cell : ∀ c ∈ cs, H c.1 = some c.2 ∧ G c.1 = none
theorem Desc.at_ {G H : Hp} {cs : Cells} (d : Desc G cs H) {a : Addr} {o : HO} (h : (a, o) ∈ cs) : H a = some o := (d.cell _ h).1
theorem Desc.new {G H : Hp} {cs : Cells} (d : Desc G cs H) {p : Addr} (hp : H p = none) (o : HO) : Desc (upd G p o) cs (upd H p o) := by
  refine ⟨fun a u e => ?_, d.nd, fun c hc => ?_⟩
  · by_cases h : a = p
    · subst h
      rw [upd_same] at e
      rw [upd_same]
      exact e
    · rw [upd_ne h] at e
      rw [upd_ne h]
      exact d.same a u e
  · obtain ⟨h1, h2⟩ := d.cell c hc
    have ne : c.1 ≠ p := ne_of_none h1 hp
    rw [upd_ne ne, upd_ne ne]
    exact ⟨h1, h2⟩
theorem Same.fresh {G H : Hp} (s : Same G H) {p : Addr} (hp : H p = none) (o : HO) : Same G (upd G p o) := fun a u e => by
  have ne : a ≠ p := fun z => by
    subst z
    rw [s a u e] at hp
    cases hp
  rw [upd_ne ne]
  exact e
theorem Desc.newCell {G H : Hp} {cs : Cells} (d : Desc G cs H) {p : Addr} (hp : H p = none) (o : HO) : Desc G ((p, o) :: cs) (upd H p o) := by
  refine ⟨fun a u e => ?_, ?_, fun c hc => ?_⟩
  · have ne : a ≠ p := ne_of_none (d.same a u e) hp
    rw [upd_ne ne]
    exact d.same a u e
  · refine List.nodup_cons.mpr ⟨fun hm => ?_, d.nd⟩
    obtain ⟨c, hc, e⟩ := List.mem_map.mp hm
    have e2 : c.1 = p := e
    have q := (d.cell c hc).1
    rw [e2, hp] at q
    cases q
  · rcases List.mem_cons.mp hc with e | hc
    · subst e
      exact ⟨upd_same, d.same.free hp⟩
    · obtain ⟨h1, h2⟩ := d.cell c hc
      have ne : c.1 ≠ p := ne_of_none h1 hp
      rw [upd_ne ne]
      exact ⟨h1, h2⟩
theorem nd_of_set {cs : Cells} {k : Nat} {a : Addr} {o o' : HO} (h : cs[k]? = some (a, o)) : (cs.set k (a, o')).map Prod.fst = cs.map Prod.fst := by
  induction cs generalizing k with
  | nil => cases k <;> rfl
  | cons c cs ih =>
    cases k with
    | zero =>
      have e : c = (a, o) := Option.some.inj h
      subst e
      rfl
    | succ k =>
      show c.1 :: (cs.set k (a, o')).map Prod.fst = c.1 :: cs.map Prod.fst
      rw [ih (k := k) h]
theorem mem_set_cases {cs : Cells} {k : Nat} {a : Addr} {o o' : HO} (nd : (cs.map Prod.fst).Nodup) (h : cs[k]? = some (a, o)) {c : Addr × HO} (hc : c ∈ cs.set k (a, o')) : c = (a, o') ∨ (c ∈ cs ∧ c.1 ≠ a) := by
  induction cs generalizing k with
  | nil => cases k <;> cases h
  | cons d cs ih =>
    have nd1 : d.1 ∉ cs.map Prod.fst := (List.nodup_cons.mp nd).1
    have nd2 : (cs.map Prod.fst).Nodup := (List.nodup_cons.mp nd).2
    cases k with
    | zero =>
      have e : d = (a, o) := Option.some.inj h
      subst e
      rcases List.mem_cons.mp hc with e | hc
      · exact .inl e
      · refine .inr ⟨List.mem_cons_of_mem _ hc, fun z => nd1 ?_⟩
        show a ∈ cs.map Prod.fst
        rw [← z]
        exact List.mem_map.mpr ⟨c, hc, rfl⟩
    | succ k =>
      have hm : (a, o) ∈ cs := List.mem_of_getElem? (i := k) h
      rcases List.mem_cons.mp hc with e | hc
      · refine .inr ⟨List.mem_cons.mpr (.inl e), fun z => nd1 ?_⟩
        rw [e] at z
        rw [z]
        exact List.mem_map.mpr ⟨(a, o), hm, rfl⟩
      · rcases ih nd2 (k := k) h hc with e | ⟨h1, h2⟩
        · exact .inl e
        · exact .inr ⟨List.mem_cons_of_mem _ h1, h2⟩
theorem Desc.write {G H : Hp} {cs : Cells} (d : Desc G cs H) {k : Nat} {a : Addr} {o : HO} (h : cs[k]? = some (a, o)) (o' : HO) : Desc G (cs.set k (a, o')) (upd H a o') := by
  have hm : (a, o) ∈ cs := List.mem_of_getElem? h
  obtain ⟨ha, hg⟩ := d.cell _ hm
  refine ⟨fun b u e => ?_, ?_, fun c hc => ?_⟩
  · have ne : b ≠ a := fun z => by
      subst z
      rw [hg] at e
      cases e
    rw [upd_ne ne]
    exact d.same b u e
  · rw [nd_of_set h]
    exact d.nd
  · rcases mem_set_cases d.nd h hc with e | ⟨h1, h2⟩
    · subst e
      exact ⟨upd_same, hg⟩
    · rw [upd_ne h2]
      exact d.cell c h1
theorem Desc.freeze {G H : Hp} {cs : Cells} {a : Addr} {o : HO} (d : Desc G ((a, o) :: cs) H) : Same G (upd G a o) ∧ Desc (upd G a o) cs H := by
  obtain ⟨ha, hg⟩ := d.cell (a, o) List.mem_cons_self
  refine ⟨fun b u e => ?_, fun b u e => ?_, (List.nodup_cons.mp d.nd).2, fun c hc => ?_⟩
  · have ne : b ≠ a := fun z => by
      subst z
      rw [hg] at e
      cases e
    rw [upd_ne ne]
    exact e
  · by_cases z : b = a
    · subst z
      rw [upd_same] at e
      cases e
      exact ha
    · rw [upd_ne z] at e
      exact d.same b u e
  · obtain ⟨h1, h2⟩ := d.cell c (List.mem_cons_of_mem _ hc)
    have ne : c.1 ≠ a := fun z => (List.nodup_cons.mp d.nd).1 (by
      show a ∈ cs.map Prod.fst
      rw [← z]
      exact List.mem_map.mpr ⟨c, hc, rfl⟩)
    rw [upd_ne ne]
    exact ⟨h1, h2⟩
theorem Desc.forget {G H : Hp} {cs : Cells} {c : Addr × HO} (d : Desc G (c :: cs) H) : Desc G cs H :=
  ⟨d.same, (List.nodup_cons.mp d.nd).2, fun x hx => d.cell x (List.mem_cons_of_mem _ hx)⟩
theorem Desc.perm {G H : Hp} {cs cs' : Cells} (d : Desc G cs H) (p : cs.Perm cs') : Desc G cs' H :=
  ⟨d.same, (p.map Prod.fst).nodup_iff.mp d.nd, fun x hx => d.cell x (p.mem_iff.mpr hx)⟩
theorem Desc.refl (H : Hp) : Desc H [] H := ⟨Same.refl H, List.nodup_nil, fun _ h => nomatch h⟩
theorem seqT {K : PySem.W.Frag} {H H' : Hp} {a : Addr} {xs : List V} (e : Same H H') (h : SqT K H a xs) : SqT K H' a xs := by
  rcases h with (h | ⟨o, h⟩) | h
  · exact .inl (.inl (e _ _ h))
  · exact .inl (.inr ⟨o, e _ _ h⟩)
  · exact .inr h

/-! ### judgements by what the machine does -/
section
variable (X : Cx)
structure wE (e : Expr) (σ : L2.St) (H : Hp) (Q : VK) : Prop where
  run : ∀ pins s, Inv X pins σ H s → wpAny (model X.prog X.w) X.A (eval e X.env) (EP X pins σ Q) X.xe s
structure wT (e : Expr) (σ : L2.St) (H : Hp) (Q : Bool → Hp → Prop) : Prop where
  run : ∀ pins s, Inv X pins σ H s → wpAny (model X.prog X.w) X.A (isTrue e X.env (eval e X.env)) (TP X pins σ Q) X.xe s
structure wW (e : Expr) (σ : L2.St) (H : Hp) (Q : Bool → Hp → Prop) : Prop where
  run : ∀ (whole : Sem Value) pins s, Inv X pins σ H s → wpAny (model X.prog X.w) X.A (isTrue e X.env whole) (TP X pins σ Q) X.xe s
structure wA (es : List Expr) (σ : L2.St) (H : Hp) (Q : List V → Hp → Prop) : Prop where
  run : ∀ (pos : Pos) pins s, Inv X pins σ H s → wpAny (model X.prog X.w) X.A (spliced (backTo pos (starEach es X.env))) (AP X pins σ Q) X.xe s
structure wS (st : Stmt) (D : Ends) (σ : L2.St) (H : Hp) : Prop where
  run : ∀ pins s, Inv X pins σ H s → wpAny (model X.prog X.w) X.A (exec st X.env) (SP X pins D) X.xe s
structure wSs (st : List Stmt) (D : Ends) (σ : L2.St) (H : Hp) : Prop where
  run : ∀ pins s, Inv X pins σ H s → wpAny (model X.prog X.w) X.A (execs st X.env) (SP X pins D) X.xe s
theorem sE (e : Expr) : PE X e (wE X e) := ⟨fun pins s _ _ _ I h => h.run pins s I⟩
theorem sT (e : Expr) : PT X e (wT X e) := ⟨fun pins s _ _ _ I h => h.run pins s I⟩
theorem sW (e : Expr) : PW X e (wW X e) := ⟨fun whole pins s _ _ _ I h => h.run whole pins s I⟩
theorem sA (es : List Expr) : PA X es (wA X es) := ⟨fun pos pins s _ _ _ I h => h.run pos pins s I⟩
theorem sS (st : Stmt) : PS X st (wS X st) := ⟨fun pins s _ _ _ I h => h.run pins s I⟩
theorem sSs (st : List Stmt) : PSs X st (wSs X st) := ⟨fun pins s _ _ _ I h => h.run pins s I⟩
end
section
variable {X : Cx} {e : Expr} {es : List Expr} {st : Stmt} {sts : List Stmt} {σ : L2.St} {H : Hp}
theorem uE {t : TE} {Q : VK} (h : PE X e t) (q : t σ H Q) : wE X e σ H Q := ⟨fun pins s I => h.run pins s σ H Q I q⟩
theorem uT {t : TT} {Q : Bool → Hp → Prop} (h : PT X e t) (q : t σ H Q) : wT X e σ H Q := ⟨fun pins s I => h.run pins s σ H Q I q⟩
theorem uW {t : TT} {Q : Bool → Hp → Prop} (h : PW X e t) (q : t σ H Q) : wW X e σ H Q := ⟨fun whole pins s I => h.run whole pins s σ H Q I q⟩
theorem uA {t : TA} {Q : List V → Hp → Prop} (h : PA X es t) (q : t σ H Q) : wA X es σ H Q := ⟨fun pos pins s I => h.run pos pins s σ H Q I q⟩
theorem uS {t : TS} {D : Ends} (h : PS X st t) (q : t D σ H) : wS X st D σ H := ⟨fun pins s I => h.run pins s σ H D I q⟩
theorem uSs {t : TS} {D : Ends} (h : PSs X sts t) (q : t D σ H) : wSs X sts D σ H := ⟨fun pins s I => h.run pins s σ H D I q⟩
end

/-- e comes to a value that P tells of; what was frozen stays, no cell changes -/
def D (X : Cx) (e : Expr) (σ : L2.St) (G : Hp) (cs : Cells) (P : Hp → V → Prop) : Prop :=
  ∀ G1 H, Same G G1 → Desc G1 cs H → ∀ Q : VK, (∀ G2 H2 v, Same G1 G2 → Desc G2 cs H2 → P G2 v → Q v H2) → wE X e σ H Q
def T (X : Cx) (e : Expr) (σ : L2.St) (G : Hp) (cs : Cells) (b : Bool) : Prop :=
  ∀ G1 H, Same G G1 → Desc G1 cs H → ∀ Q : Bool → Hp → Prop, (∀ G2 H2, Same G1 G2 → Desc G2 cs H2 → Q b H2) → wT X e σ H Q
def TW (X : Cx) (e : Expr) (σ : L2.St) (G : Hp) (cs : Cells) (b : Bool) : Prop :=
  ∀ G1 H, Same G G1 → Desc G1 cs H → ∀ Q : Bool → Hp → Prop, (∀ G2 H2, Same G1 G2 → Desc G2 cs H2 → Q b H2) → wW X e σ H Q
def A (X : Cx) (es : List Expr) (σ : L2.St) (G : Hp) (cs : Cells) (P : Hp → List V → Prop) : Prop :=
  ∀ G1 H, Same G G1 → Desc G1 cs H → ∀ Q : List V → Hp → Prop, (∀ G2 H2 vs, Same G1 G2 → Desc G2 cs H2 → P G2 vs → Q vs H2) → wA X es σ H Q

class Mono (P : Hp → V → Prop) : Prop where
  mono : ∀ {G G' : Hp} {v : V}, Same G G' → P G v → P G' v
class MonoA (P : Hp → List V → Prop) : Prop where
  mono : ∀ {G G' : Hp} {v : List V}, Same G G' → P G v → P G' v

/-! ### what a value tells -/
def rI (i : Int) : Hp → V → Prop := fun _ v => v = .int i
def rB (b : Bool) : Hp → V → Prop := fun _ v => v = .bl b
def rS (l : List Nat) : Hp → V → Prop := fun _ v => v = .str (SX.S l)
def rN (_ : Unit) : Hp → V → Prop := fun _ v => v = .non
def rV (w : V) : Hp → V → Prop := fun _ v => v = w
def rO {α : Type} (r : α → Hp → V → Prop) : Option α → Hp → V → Prop
  | none => fun _ v => v = .non
  | some x => r x
def Rs {α : Type} (r : α → Hp → V → Prop) (G : Hp) : List α → List V → Prop := Paired fun x v => r x G v
def rL (K : PySem.W.Frag) {α : Type} (r : α → Hp → V → Prop) (xs : List α) : Hp → V → Prop := fun G v => ∃ a vs, v = .ref a ∧ SqL K G a vs ∧ Rs r G xs vs
/-- a list that may be read: frozen, or a cell -/
def rdL (K : PySem.W.Frag) (cs : Cells) {α : Type} (r : α → Hp → V → Prop) (xs : List α) : Hp → V → Prop := fun G v => ∃ a vs, v = .ref a ∧ (SqL K G a vs ∨ (a, .lst vs) ∈ cs) ∧ Rs r G xs vs
def rT (K : PySem.W.Frag) {α : Type} (r : α → Hp → List V → Prop) (x : α) : Hp → V → Prop := fun G v => ∃ a vs, v = .ref a ∧ SqT K G a vs ∧ r x G vs
/-- the places of a tuple -/
def c0 {α : Type} (r : α → Hp → V → Prop) (x : α) : Hp → List V → Prop := fun G vs => ∃ v, vs = [v] ∧ r x G v
def cc {α β : Type} (r : α → Hp → V → Prop) (r' : β → Hp → List V → Prop) (x : α × β) : Hp → List V → Prop := fun G vs => ∃ v ws, vs = v :: ws ∧ r x.1 G v ∧ r' x.2 G ws
theorem Rs.mono {α : Type} {r : α → Hp → V → Prop} [m : ∀ x, Mono (r x)] {G G' : Hp} (e : Same G G') : ∀ {xs : List α} {vs : List V}, Rs r G xs vs → Rs r G' xs vs
  | _, _, .nil => .nil
  | _, _, .cons h t => .cons ((m _).mono e h) (Rs.mono e t)
theorem Rs.length {α : Type} {r : α → Hp → V → Prop} {G : Hp} {xs : List α} {vs : List V} (h : Rs r G xs vs) : xs.length = vs.length := Paired.length h
theorem Rs.get {α : Type} {r : α → Hp → V → Prop} {G : Hp} : ∀ {xs : List α} {vs : List V} {i : Nat} {x : α}, Rs r G xs vs → xs[i]? = some x → ∃ v, vs[i]? = some v ∧ r x G v
  | _, _, _, _, .nil, e => by simp at e
  | _, _, 0, _, .cons h _, e => by
    simp at e
    subst e
    exact ⟨_, rfl, h⟩
  | _, _, i + 1, x, .cons _ t, e => by
    obtain ⟨v, h1, h2⟩ := Rs.get (i := i) (x := x) t (by simpa using e)
    exact ⟨v, by simpa using h1, h2⟩
theorem Rs.getV {α : Type} {r : α → Hp → V → Prop} {G : Hp} : ∀ {xs : List α} {vs : List V} {i : Nat} {v : V}, Rs r G xs vs → vs[i]? = some v → ∃ x, xs[i]? = some x ∧ r x G v
  | _, _, _, _, .nil, e => by simp at e
  | _, _, 0, _, .cons h _, e => by
    simp at e
    subst e
    exact ⟨_, rfl, h⟩
  | _, _, i + 1, x, .cons _ t, e => by
    obtain ⟨v, h1, h2⟩ := Rs.getV (i := i) (v := x) t (by simpa using e)
    exact ⟨v, by simpa using h1, h2⟩
theorem Rs.snoc {α : Type} {r : α → Hp → V → Prop} {G : Hp} {x : α} {v : V} (hx : r x G v) : ∀ {xs : List α} {vs : List V}, Rs r G xs vs → Rs r G (xs ++ [x]) (vs ++ [v])
  | _, _, .nil => .cons hx .nil
  | _, _, .cons h t => .cons h (Rs.snoc hx t)
theorem Rs.append {α : Type} {r : α → Hp → V → Prop} {G : Hp} {ys : List α} {ws : List V} (hy : Rs r G ys ws) : ∀ {xs : List α} {vs : List V}, Rs r G xs vs → Rs r G (xs ++ ys) (vs ++ ws)
  | _, _, .nil => hy
  | _, _, .cons h t => .cons h (Rs.append hy t)
theorem Rs.set {α : Type} {r : α → Hp → V → Prop} {G : Hp} {x : α} {v : V} (hx : r x G v) : ∀ {xs : List α} {vs : List V} (i : Nat), Rs r G xs vs → Rs r G (xs.set i x) (vs.set i v)
  | _, _, _, .nil => .nil
  | _, _, 0, .cons _ t => .cons hx t
  | _, _, i + 1, .cons h t => .cons h (Rs.set hx i t)
theorem Rs.take {α : Type} {r : α → Hp → V → Prop} {G : Hp} : ∀ {xs : List α} {vs : List V} (n : Nat), Rs r G xs vs → Rs r G (xs.take n) (vs.take n)
  | _, _, 0, _ => .nil
  | _, _, _ + 1, .nil => .nil
  | _, _, n + 1, .cons h t => .cons h (Rs.take n t)
theorem Rs.drop {α : Type} {r : α → Hp → V → Prop} {G : Hp} : ∀ {xs : List α} {vs : List V} (n : Nat), Rs r G xs vs → Rs r G (xs.drop n) (vs.drop n)
  | _, _, 0, h => h
  | _, _, _ + 1, .nil => .nil
  | _, _, n + 1, .cons _ t => Rs.drop n t
theorem Rs.map {α : Type} {r : α → Hp → V → Prop} {f : α → V} {G : Hp} (h : ∀ x v, r x G v → v = f x) : ∀ {xs : List α} {vs : List V}, Rs r G xs vs → vs = xs.map f
  | _, _, .nil => rfl
  | _, _, .cons p t => by
    rw [h _ _ p, Rs.map h t]
    rfl
theorem Rs.of_map {α : Type} {r : α → Hp → V → Prop} {f : α → V} {G : Hp} (h : ∀ x, r x G (f x)) : ∀ (xs : List α), Rs r G xs (xs.map f)
  | [] => .nil
  | x :: xs => .cons (h x) (Rs.of_map h xs)
instance (i : Int) : Mono (rI i) := ⟨fun _ h => h⟩
instance (b : Bool) : Mono (rB b) := ⟨fun _ h => h⟩
instance (l : List Nat) : Mono (rS l) := ⟨fun _ h => h⟩
instance (u : Unit) : Mono (rN u) := ⟨fun _ h => h⟩
instance (w : V) : Mono (rV w) := ⟨fun _ h => h⟩
instance {α : Type} (r : α → Hp → V → Prop) [m : ∀ x, Mono (r x)] (o : Option α) : Mono (rO r o) := by
  cases o with
  | none => exact ⟨fun _ h => h⟩
  | some x => exact m x
instance (K : PySem.W.Frag) {α : Type} (r : α → Hp → V → Prop) [m : ∀ x, Mono (r x)] (xs : List α) : Mono (rL K r xs) :=
  ⟨fun e ⟨a, vs, h1, h2, h3⟩ => ⟨a, vs, h1, e.seq h2, h3.mono e⟩⟩
instance (K : PySem.W.Frag) (cs : Cells) {α : Type} (r : α → Hp → V → Prop) [m : ∀ x, Mono (r x)] (xs : List α) : Mono (rdL K cs r xs) :=
  ⟨fun e ⟨a, vs, h1, h2, h3⟩ => ⟨a, vs, h1, h2.imp (e.seq) id, h3.mono e⟩⟩
instance (K : PySem.W.Frag) {α : Type} (r : α → Hp → List V → Prop) [m : ∀ x, MonoA (r x)] (x : α) : Mono (rT K r x) :=
  ⟨fun e ⟨a, vs, h1, h2, h3⟩ => ⟨a, vs, h1, seqT e h2, (m x).mono e h3⟩⟩
instance {α : Type} (r : α → Hp → V → Prop) [m : ∀ x, Mono (r x)] (x : α) : MonoA (c0 r x) := ⟨fun e ⟨v, h1, h2⟩ => ⟨v, h1, (m x).mono e h2⟩⟩
instance {α β : Type} (r : α → Hp → V → Prop) (r' : β → Hp → List V → Prop) [m : ∀ x, Mono (r x)] [m' : ∀ x, MonoA (r' x)] (x : α × β) : MonoA (cc r r' x) :=
  ⟨fun e ⟨v, ws, h1, h2, h3⟩ => ⟨v, ws, h1, (m x.1).mono e h2, (m' x.2).mono e h3⟩⟩
theorem rdL_of {K : PySem.W.Frag} {cs : Cells} {α : Type} {r : α → Hp → V → Prop} {xs : List α} {G : Hp} {v : V} (h : rL K r xs G v) : rdL K cs r xs G v :=
  let ⟨a, vs, h1, h2, h3⟩ := h
  ⟨a, vs, h1, .inl h2, h3⟩
theorem rdL_cell {K : PySem.W.Frag} {cs : Cells} {α : Type} {r : α → Hp → V → Prop} {xs : List α} {G : Hp} {a : Addr} {vs : List V} (h : (a, .lst vs) ∈ cs) (h3 : Rs r G xs vs) : rdL K cs r xs G (.ref a) := ⟨a, vs, rfl, .inr h, h3⟩
theorem rdL.sq {K : PySem.W.Frag} {cs : Cells} {α : Type} {r : α → Hp → V → Prop} {xs : List α} {G H : Hp} {v : V} (h : rdL K cs r xs G v) (d : Desc G cs H) : ∃ a vs, v = .ref a ∧ SqL K H a vs ∧ Rs r G xs vs := by
  obtain ⟨a, vs, h1, h2, h3⟩ := h
  refine ⟨a, vs, h1, ?_, h3⟩
  rcases h2 with h2 | h2
  · exact d.same.seq h2
  · exact SqL.of (d.at_ h2)

/-! ### expressions -/
section
variable {X : Cx} {σ : L2.St} {G : Hp} {cs : Cells} {e a b c : Expr} {es : List Expr} {P Pa Pb Pc : Hp → V → Prop} {pos p : Pos}
theorem D.imp {P' : Hp → V → Prop} (h : D X e σ G cs P) (i : ∀ G v, P G v → P' G v) : D X e σ G cs P' := fun G1 H s d Q q => h G1 H s d Q fun G2 H2 v s2 d2 p => q G2 H2 v s2 d2 (i G2 v p)
theorem D.up {G' : Hp} (h : D X e σ G cs P) (s : Same G G') : D X e σ G' cs P := fun G1 H s1 d Q q => h G1 H (s.trans s1) d Q q
theorem T.up {G' : Hp} {k : Bool} (h : T X e σ G cs k) (s : Same G G') : T X e σ G' cs k := fun G1 H s1 d Q q => h G1 H (s.trans s1) d Q q
/-- by a rule of the layer -/
theorem d_by {t : TE} (h : PE X e t) (q : ∀ G1 H, Same G G1 → Desc G1 cs H → ∀ Q : VK, (∀ G2 H2 v, Same G1 G2 → Desc G2 cs H2 → P G2 v → Q v H2) → t σ H Q) : D X e σ G cs P := fun G1 H s d Q k => uE h (q G1 H s d Q k)
theorem d_var (i : Nat) {x : Str} {v : V} [m : Mono P] (hs : σ[i]? = some (some v)) (hp : P G v) (hN : X.N[i]? = some x := by rfl) (hv : Vis X.env.scope x := by first | exact Or.inl rfl | exact Or.inr (Or.inl rfl) | exact Or.inr (Or.inr rfl))
    (hd : (x == ("__debug__" : Str)) = false := by decide) (hcd : (x == ("__classdict__" : Str)) = false := by decide) : D X (.Name x pos) σ G cs P :=
  d_by (pe_var hN hv hd hcd) fun G1 H s d Q q => ⟨v, hs, q G1 H v (Same.refl _) d (m.mono s hp)⟩
theorem d_int {i : Int} {j : Nat} : D X (.Constant (.int i) j pos) σ G cs (rI i) := d_by pe_int fun G1 H s d Q q => q G1 H _ (Same.refl _) d rfl
theorem d_bl {i : Bool} {j : Nat} : D X (.Constant (.bool i) j pos) σ G cs (rB i) := d_by pe_bl fun G1 H s d Q q => q G1 H _ (Same.refl _) d rfl
theorem d_non {j : Nat} : D X (.Constant .none j pos) σ G cs (rN ()) := d_by pe_non fun G1 H s d Q q => q G1 H _ (Same.refl _) d rfl
theorem d_str {x : Str} {l : List Nat} {j : Nat} (h : x = SX.S l) : D X (.Constant (.str x) j pos) σ G cs (rS l) := d_by pe_str fun G1 H s d Q q => q G1 H _ (Same.refl _) d (by rw [h]; rfl)
/-- a module's constant by its value -/
theorem d_glob {x : Str} {v : V} [m : Mono P] (hg : Gl X x) (h : ∃ u, X.mg x = some u ∧ RelV v u) (hp : P G v) (hd : (x == ("__debug__" : Str)) = false := by decide) : D X (.Name x pos) σ G cs P := by
  obtain ⟨u, hm, r⟩ := h
  exact d_by (pe_glob hg hm r hd) fun G1 H s d Q q => q G1 H v (Same.refl _) d (m.mono s hp)
/-- a two-place operation -/
theorem d_bin {op : Operator} {r : R2} [Mono Pa] (ho : OpR X (binaryOp op) r) (ha : D X a σ G cs Pa) (hb : D X b σ G cs Pb)
    (hr : ∀ G1 H x y, Same G G1 → Desc G1 cs H → Pa G1 x → Pb G1 y → ∀ Q : VK, (∀ G2 H2 v, Same G1 G2 → Desc G2 cs H2 → P G2 v → Q v H2) → r x y H Q) : D X (.BinOp a op b pos) σ G cs P :=
  d_by (pe_op ho (sE X a) (sE X b)) fun G1 H s d Q q => ha G1 H s d _ fun G2 H2 x s2 d2 hx => hb G2 H2 (s.trans s2) d2 _ fun G3 H3 y s3 d3 hy =>
    hr G3 H3 x y ((s.trans s2).trans s3) d3 (Mono.mono s3 hx) hy Q fun G4 H4 v s4 d4 hv => q G4 H4 v ((s2.trans s3).trans s4) d4 hv
theorem d_un {op : UnaryOp} {r : V → Hp → VK → Prop} (ho : UnR X (unaryOp op) r) (ha : D X a σ G cs Pa)
    (hr : ∀ G1 H x, Same G G1 → Desc G1 cs H → Pa G1 x → ∀ Q : VK, (∀ G2 H2 v, Same G1 G2 → Desc G2 cs H2 → P G2 v → Q v H2) → r x H Q) : D X (.UnaryOp op a pos) σ G cs P :=
  d_by (pe_un ho (sE X a)) fun G1 H s d Q q => ha G1 H s d _ fun G2 H2 x s2 d2 hx => hr G2 H2 x (s.trans s2) d2 hx Q fun G4 H4 v s4 d4 hv => q G4 H4 v (s2.trans s4) d4 hv
/-- comparisons, as values and as tests -/
theorem d_cmp {op : CmpOp} {r : R2} {k : Bool} [Mono Pa] (ho : OpR X (compareOp op) r) (hm : behindInMarks op b = false) (ha : D X a σ G cs Pa) (hb : D X b σ G cs Pb)
    (hr : ∀ G1 H x y, Same G G1 → Desc G1 cs H → Pa G1 x → Pb G1 y → ∀ Q : VK, Q (.bl k) H → r x y H Q) : D X (.Compare a [op] [b] pos) σ G cs (rB k) :=
  d_by (pe_cmpR ho (sE X a) (sE X b) hm) fun G1 H s d Q q => ha G1 H s d _ fun G2 H2 x s2 d2 hx => hb G2 H2 (s.trans s2) d2 _ fun G3 H3 y s3 d3 hy =>
    hr G3 H3 x y ((s.trans s2).trans s3) d3 (Mono.mono s3 hx) hy Q (q G3 H3 _ (s2.trans s3) d3 rfl)
theorem t_cmp {op : CmpOp} {r : R2} {k : Bool} [Mono Pa] (ho : OpR X (compareOp op) r) (hm : behindInMarks op b = false) (ha : D X a σ G cs Pa) (hb : D X b σ G cs Pb)
    (hr : ∀ G1 H x y, Same G G1 → Desc G1 cs H → Pa G1 x → Pb G1 y → ∀ Q : VK, Q (.bl k) H → r x y H Q) : T X (.Compare a [op] [b] pos) σ G cs k := fun G1 H s d Q q =>
  uT (pt_cmpR ho (sE X a) (sE X b) hm) (ha G1 H s d _ fun G2 H2 x s2 d2 hx => hb G2 H2 (s.trans s2) d2 _ fun G3 H3 y s3 d3 hy =>
    hr G3 H3 x y ((s.trans s2).trans s3) d3 (Mono.mono s3 hx) hy _ ⟨k, rfl, q G3 H3 (s2.trans s3) d3⟩)
theorem d_chain {op op' : CmpOp} {r r' : R2} {k k' : Bool} [Mono Pa] [Mono Pb] (ho : OpR X (compareOp op) r) (ho' : OpR X (compareOp op') r') (ha : D X a σ G cs Pa) (hb : D X b σ G cs Pb) (hc : D X c σ G cs Pc)
    (hr : ∀ G1 H x y, Same G G1 → Desc G1 cs H → Pa G1 x → Pb G1 y → ∀ Q : VK, Q (.bl k) H → r x y H Q) (hr' : ∀ G1 H x y, Same G G1 → Desc G1 cs H → Pb G1 x → Pc G1 y → ∀ Q : VK, Q (.bl k') H → r' x y H Q)
    (hm : lastMarks [op, op'] [b, c] = false := by with_unfolding_all rfl) : D X (.Compare a [op, op'] [b, c] pos) σ G cs (rB (k && k')) :=
  d_by (pe_chain ho ho' (sE X a) (sE X b) (sE X c) hm) fun G1 H s d Q q => ha G1 H s d _ fun G2 H2 x s2 d2 hx => hb G2 H2 (s.trans s2) d2 _ fun G3 H3 y s3 d3 hy => by
    refine hr G3 H3 x y ((s.trans s2).trans s3) d3 (Mono.mono s3 hx) hy _ ⟨k, rfl, ?_⟩
    cases k with
    | false => exact q G3 H3 _ (s2.trans s3) d3 rfl
    | true => exact hc G3 H3 ((s.trans s2).trans s3) d3 _ fun G4 H4 z s4 d4 hz => hr' G4 H4 y z (((s.trans s2).trans s3).trans s4) d4 (Mono.mono s4 hy) hz Q (q G4 H4 _ ((s2.trans s3).trans s4) d4 rfl)
theorem t_chain {op op' : CmpOp} {r r' : R2} {k k' : Bool} [Mono Pa] [Mono Pb] (ho : OpR X (compareOp op) r) (ho' : OpR X (compareOp op') r') (ha : D X a σ G cs Pa) (hb : D X b σ G cs Pb) (hc : D X c σ G cs Pc)
    (hr : ∀ G1 H x y, Same G G1 → Desc G1 cs H → Pa G1 x → Pb G1 y → ∀ Q : VK, Q (.bl k) H → r x y H Q) (hr' : ∀ G1 H x y, Same G G1 → Desc G1 cs H → Pb G1 x → Pc G1 y → ∀ Q : VK, Q (.bl k') H → r' x y H Q)
    (hm : lastMarks [op, op'] [b, c] = false := by with_unfolding_all rfl) : T X (.Compare a [op, op'] [b, c] pos) σ G cs (k && k') := fun G1 H s d Q q =>
  uT (pt_chain ho ho' (sE X a) (sE X b) (sE X c) hm) (ha G1 H s d _ fun G2 H2 x s2 d2 hx => hb G2 H2 (s.trans s2) d2 _ fun G3 H3 y s3 d3 hy => by
    refine hr G3 H3 x y ((s.trans s2).trans s3) d3 (Mono.mono s3 hx) hy _ ⟨k, rfl, ?_⟩
    cases k with
    | false => exact ⟨false, rfl, q G3 H3 (s2.trans s3) d3⟩
    | true => exact hc G3 H3 ((s.trans s2).trans s3) d3 _ fun G4 H4 z s4 d4 hz => hr' G4 H4 y z (((s.trans s2).trans s3).trans s4) d4 (Mono.mono s4 hy) hz _ ⟨k', rfl, q G4 H4 ((s2.trans s3).trans s4) d4⟩)
/-- and, or, not; as values, as tests -/
theorem t_val {k : Bool} (h : D X e σ G cs (rB k)) (he : ∀ whole, isTrue e X.env whole = (do let v ← whole; standAt e.pos; holding [v] (truthy v)) := by intro _; rfl) : T X e σ G cs k := fun G1 H s d Q q =>
  uT (pt_val (sE X e) he) (h G1 H s d _ fun G2 H2 v s2 d2 hv => ⟨k, hv, q G2 H2 s2 d2⟩)
theorem t_not {k : Bool} (h : T X a σ G cs k) : T X (.UnaryOp .Not a pos) σ G cs (!k) := fun G1 H s d Q q => uT (pt_not (sT X a)) (h G1 H s d _ fun G2 H2 s2 d2 => q G2 H2 s2 d2)
theorem t_w {k : Bool} (h : TW X e σ G cs k) : T X e σ G cs k := fun G1 H s d Q q => uT (PW.pt (sW X e)) (h G1 H s d Q q)
theorem w_and1 {k : Bool} (h : T X a σ G cs k) : TW X (.BoolOp .And [a] pos) σ G cs k := fun G1 H s d Q q => uW (pw_and1 (sT X a)) (h G1 H s d Q q)
theorem w_or1 {k : Bool} (h : T X a σ G cs k) : TW X (.BoolOp .Or [a] pos) σ G cs k := fun G1 H s d Q q => uW (pw_or1 (sT X a)) (h G1 H s d Q q)
theorem w_and {rest : List Expr} {k k' : Bool} (h : T X a σ G cs k) (h' : k = true → TW X (.BoolOp .And (b :: rest) pos) σ G cs k') : TW X (.BoolOp .And (a :: b :: rest) pos) σ G cs (k && k') := fun G1 H s d Q q =>
  uW (pw_and (sT X a) (sW X _)) (h G1 H s d _ fun G2 H2 s2 d2 => by
    cases k with
    | false => exact iteF (q G2 H2 s2 d2)
    | true => exact iteT (h' rfl G2 H2 (s.trans s2) d2 Q fun G3 H3 s3 d3 => q G3 H3 (s2.trans s3) d3))
theorem w_or {rest : List Expr} {k k' : Bool} (h : T X a σ G cs k) (h' : k = false → TW X (.BoolOp .Or (b :: rest) pos) σ G cs k') : TW X (.BoolOp .Or (a :: b :: rest) pos) σ G cs (k || k') := fun G1 H s d Q q =>
  uW (pw_or (sT X a) (sW X _)) (h G1 H s d _ fun G2 H2 s2 d2 => by
    cases k with
    | true => exact iteT (q G2 H2 s2 d2)
    | false => exact iteF (h' rfl G2 H2 (s.trans s2) d2 Q fun G3 H3 s3 d3 => q G3 H3 (s2.trans s3) d3))
theorem d_one {op : BoolOp} (h : D X a σ G cs P) : D X (.BoolOp op [a] pos) σ G cs P := fun G1 H s d Q q => uE (pe_one (sE X a)) (h G1 H s d Q q)
theorem d_and {rest : List Expr} {k k' : Bool} (h : D X a σ G cs (rB k)) (h' : k = true → D X (.BoolOp .And (b :: rest) pos) σ G cs (rB k')) : D X (.BoolOp .And (a :: b :: rest) pos) σ G cs (rB (k && k')) :=
  d_by (pe_and (sE X a) (sE X _)) fun G1 H s d Q q => h G1 H s d _ fun G2 H2 v s2 d2 hv => ⟨k, hv, by
    cases k with
    | false => exact iteF (q G2 H2 _ s2 d2 rfl)
    | true => exact iteT (h' rfl G2 H2 (s.trans s2) d2 Q fun G3 H3 w s3 d3 hw => q G3 H3 w (s2.trans s3) d3 hw)⟩
theorem d_or {rest : List Expr} {k k' : Bool} (h : D X a σ G cs (rB k)) (h' : k = false → D X (.BoolOp .Or (b :: rest) pos) σ G cs (rB k')) : D X (.BoolOp .Or (a :: b :: rest) pos) σ G cs (rB (k || k')) :=
  d_by (pe_or (sE X a) (sE X _)) fun G1 H s d Q q => h G1 H s d _ fun G2 H2 v s2 d2 hv => ⟨k, hv, by
    cases k with
    | true => exact iteT (q G2 H2 _ s2 d2 rfl)
    | false => exact iteF (h' rfl G2 H2 (s.trans s2) d2 Q fun G3 H3 w s3 d3 hw => q G3 H3 w (s2.trans s3) d3 hw)⟩
theorem d_not {k : Bool} (h : D X a σ G cs (rB k)) : D X (.UnaryOp .Not a pos) σ G cs (rB (!k)) :=
  d_by (pe_not (sE X a)) fun G1 H s d Q q => h G1 H s d _ fun G2 H2 v s2 d2 hv => ⟨k, hv, q G2 H2 _ s2 d2 rfl⟩
theorem d_if {α : Type} {k : Bool} {r : α → Hp → V → Prop} {x y : α} (hc : T X c σ G cs k) (ha : k = true → D X a σ G cs (r x)) (hb : k = false → D X b σ G cs (r y)) : D X (.IfExp c a b pos) σ G cs (r (if k = true then x else y)) :=
  d_by (pe_ifExp (sT X c) (sE X a) (sE X b)) fun G1 H s d Q q => hc G1 H s d _ fun G2 H2 s2 d2 => by
    cases k with
    | true => exact iteT (ha rfl G2 H2 (s.trans s2) d2 Q fun G3 H3 w s3 d3 hw => q G3 H3 w (s2.trans s3) d3 hw)
    | false => exact iteF (hb rfl G2 H2 (s.trans s2) d2 Q fun G3 H3 w s3 d3 hw => q G3 H3 w (s2.trans s3) d3 hw)
/-! arguments -/
def aN : Hp → List V → Prop := fun _ vs => vs = []
def aC (P : Hp → V → Prop) (Ps : Hp → List V → Prop) : Hp → List V → Prop := fun G vs => ∃ v ws, vs = v :: ws ∧ P G v ∧ Ps G ws
theorem a_nil : A X [] σ G cs aN := fun G1 H s d Q q => uA pa_nil (q G1 H _ (Same.refl _) d rfl)
def noStar : Expr → Bool
  | .Starred _ _ => false
  | _ => true
theorem star_plain {e : Expr} {es : List Expr} {env : Env} (h : noStar e = true) : starEach (e :: es) env = (false, eval e env) :: starEach es env := by
  cases e <;> first | rfl | cases h
theorem a_cons {Ps : Hp → List V → Prop} [Mono P] (h : D X e σ G cs P) (hs : A X es σ G cs Ps) (hst : starEach (e :: es) X.env = (false, eval e X.env) :: starEach es X.env := by exact star_plain rfl) : A X (e :: es) σ G cs (aC P Ps) := fun G1 H s d Q q =>
  uA (pa_cons (sE X e) (sA X es) hst) (h G1 H s d _ fun G2 H2 v s2 d2 hv => hs G2 H2 (s.trans s2) d2 _ fun G3 H3 ws s3 d3 hw => q G3 H3 _ (s2.trans s3) d3 ⟨v, ws, rfl, Mono.mono s3 hv, hw⟩)
theorem d_callB {x : Str} {id : String} {r : List V → Hp → VK → Prop} {Ps : Hp → List V → Prop} (hc : CallR X (.builtin id) r) (hm : X.mg x = none) (ha : A X (e :: es) σ G cs Ps)
    (hr : ∀ G1 H vs, Same G G1 → Desc G1 cs H → Ps G1 vs → ∀ Q : VK, (∀ G2 H2 v, Same G1 G2 → Desc G2 cs H2 → P G2 v → Q v H2) → r vs H Q)
    (hg : Gl X x := by rfl) (hv : bootBuiltins x = some (.builtin id) := by decide +kernel) (hn : x ≠ "__name__" := by decide) (hd : (x == ("__debug__" : Str)) = false := by decide)
    (he : starEach (e :: es) X.env = (false, eval e X.env) :: starEach es X.env := by exact star_plain rfl) (hpl : (backTo pos (starEach es X.env)).any (·.1) = false := by rfl) : D X (.Call (.Name x p) (e :: es) [] pos) σ G cs P :=
  d_by (pe_callB hc hg hm hv (sA X _) (hn := hn) (hdb := hd) (he := he) (hpl := hpl)) fun G1 H s d Q q => ha G1 H s d _ fun G2 H2 vs s2 d2 hvs => hr G2 H2 vs (s.trans s2) d2 hvs Q fun G3 H3 v s3 d3 h3 => q G3 H3 v (s2.trans s3) d3 h3
theorem d_callTy {x : Str} {id : String} {r : List V → Hp → VK → Prop} {Ps : Hp → List V → Prop} (hc : CallR X (.type id) r) (hm : X.mg x = none) (ha : A X (e :: es) σ G cs Ps)
    (hr : ∀ G1 H vs, Same G G1 → Desc G1 cs H → Ps G1 vs → ∀ Q : VK, (∀ G2 H2 v, Same G1 G2 → Desc G2 cs H2 → P G2 v → Q v H2) → r vs H Q)
    (hg : Gl X x := by rfl) (hv : bootBuiltins x = some (.type id) := by decide +kernel) (hn : x ≠ "__name__" := by decide) (hd : (x == ("__debug__" : Str)) = false := by decide)
    (he : starEach (e :: es) X.env = (false, eval e X.env) :: starEach es X.env := by exact star_plain rfl) (hpl : (backTo pos (starEach es X.env)).any (·.1) = false := by rfl) : D X (.Call (.Name x p) (e :: es) [] pos) σ G cs P :=
  d_by (pe_callTy hc hg hm hv (sA X _) (hn := hn) (hdb := hd) (he := he) (hpl := hpl)) fun G1 H s d Q q => ha G1 H s d _ fun G2 H2 vs s2 d2 hvs => hr G2 H2 vs (s.trans s2) d2 hvs Q fun G3 H3 v s3 d3 h3 => q G3 H3 v (s2.trans s3) d3 h3
end
end J

namespace J
open PySem L2

/-! ### what a block comes to -/
/-- ε errors, S the state behind the block, L the state of the loop around, R what is handed back -/
inductive Out (ε S L R : Type) where
  | nx (s : S) | bk (l : L) | ct (l : L) | rt (r : R) | er (k : ε)
namespace Out
variable {ε S S' L R : Type}
def bind (m : Out ε S L R) (k : S → Out ε S' L R) : Out ε S' L R := match m with
  | .nx s => k s
  | .bk l => .bk l
  | .ct l => .ct l
  | .rt r => .rt r
  | .er e => .er e
@[simp] theorem bind_nx (s : S) (k : S → Out ε S' L R) : (Out.nx s : Out ε S L R).bind k = k s := rfl
@[simp] theorem bind_bk (l : L) (k : S → Out ε S' L R) : (Out.bk l : Out ε S L R).bind k = .bk l := rfl
@[simp] theorem bind_ct (l : L) (k : S → Out ε S' L R) : (Out.ct l : Out ε S L R).bind k = .ct l := rfl
@[simp] theorem bind_rt (r : R) (k : S → Out ε S' L R) : (Out.rt r : Out ε S L R).bind k = .rt r := rfl
@[simp] theorem bind_er (e : ε) (k : S → Out ε S' L R) : (Out.er e : Out ε S L R).bind k = .er e := rfl
/-- the value of a body that hands back, and raises nothing -/
def val [Inhabited R] (m : Out Empty Unit Empty R) : R := match m with
  | .nx _ => default
  | .bk l => l.elim
  | .ct l => l.elim
  | .rt r => r
  | .er e => e.elim
@[simp] theorem val_rt [Inhabited R] (r : R) : (Out.rt r : Out Empty Unit Empty R).val = r := rfl
/-- of one that may raise -/
def res [Inhabited R] (m : Out ε Unit Empty R) : Except ε R := match m with
  | .nx _ => .ok default
  | .bk l => l.elim
  | .ct l => l.elim
  | .rt r => .ok r
  | .er e => .error e
@[simp] theorem res_rt [Inhabited R] (r : R) : (Out.rt r : Out ε Unit Empty R).res = .ok r := rfl
@[simp] theorem res_er [Inhabited R] (e : ε) : (Out.er e : Out ε Unit Empty R).res = .error e := rfl
@[simp] theorem res_nx [Inhabited R] (u : Unit) : (Out.nx u : Out ε Unit Empty R).res = .ok default := rfl
end Out
/-- a loop: f is a turn -/
def forL {ε S L R α : Type} (f : S → α → Out ε S S R) : S → List α → Out ε S L R
  | s, [] => .nx s
  | s, x :: xs => match f s x with
    | .nx s' => forL f s' xs
    | .ct s' => forL f s' xs
    | .bk s' => .nx s'
    | .rt r => .rt r
    | .er e => .er e
/-- a while: at most n turns -/
def whileN {ε S L R : Type} (c : S → Bool) (f : S → Out ε S S R) : Nat → S → Out ε S L R
  | 0, s => .nx s
  | n + 1, s => if c s = true then (match f s with
    | .nx s' => whileN c f n s'
    | .ct s' => whileN c f n s'
    | .bk s' => .nx s'
    | .rt r => .rt r
    | .er e => .er e) else .nx s

structure Po (ε S L R : Type) where
  nx : S → L2.St → Hp → Cells → Prop
  lp : L → L2.St → Hp → Cells → Prop
  rt : R → Hp → Cells → V → Prop
  er : ε → L2.St → Hp → Cells → Prop
/-- what is wanted behind, by the outcome -/
def Wish {ε S L R : Type} (W : ε → L2.St → Hp → Prop) (G : Hp) (Φ : Po ε S L R) (E : Ends) (m : Out ε S L R) : Prop := match m with
  | .nx s => ∀ σ2 G2 cs2 H2, Same G G2 → Desc G2 cs2 H2 → Φ.nx s σ2 G2 cs2 → E.nx σ2 H2
  | .bk l => ∀ σ2 G2 cs2 H2, Same G G2 → Desc G2 cs2 H2 → Φ.lp l σ2 G2 cs2 → E.bk σ2 H2
  | .ct l => ∀ σ2 G2 cs2 H2, Same G G2 → Desc G2 cs2 H2 → Φ.lp l σ2 G2 cs2 → E.ct σ2 H2
  | .rt r => ∀ v G2 cs2 H2, Same G G2 → Desc G2 cs2 H2 → Φ.rt r G2 cs2 v → E.rt v H2
  | .er k => ∀ σ2 G2 cs2 H2, Same G G2 → Desc G2 cs2 H2 → Φ.er k σ2 G2 cs2 → W k σ2 H2
theorem Wish.up {ε S L R : Type} {W : ε → L2.St → Hp → Prop} {G G' : Hp} {Φ : Po ε S L R} {E : Ends} {m : Out ε S L R} (h : Wish W G Φ E m) (s : Same G G') : Wish W G' Φ E m := by
  cases m with
  | nx x => exact fun σ2 G2 cs2 H2 s2 d p => h σ2 G2 cs2 H2 (s.trans s2) d p
  | bk x => exact fun σ2 G2 cs2 H2 s2 d p => h σ2 G2 cs2 H2 (s.trans s2) d p
  | ct x => exact fun σ2 G2 cs2 H2 s2 d p => h σ2 G2 cs2 H2 (s.trans s2) d p
  | rt x => exact fun σ2 G2 cs2 H2 s2 d p => h σ2 G2 cs2 H2 (s.trans s2) d p
  | er x => exact fun σ2 G2 cs2 H2 s2 d p => h σ2 G2 cs2 H2 (s.trans s2) d p
/-- the block comes to m -/
def B {ε S L R : Type} (X : Cx) (W : ε → L2.St → Hp → Prop) (sts : List Stmt) (σ : L2.St) (G : Hp) (cs : Cells) (Φ : Po ε S L R) (m : Out ε S L R) : Prop :=
  ∀ H, Desc G cs H → ∀ E : Ends, Wish W G Φ E m → wSs X sts E σ H

section
variable {ε S L R : Type} {X : Cx} {W : ε → L2.St → Hp → Prop} {σ : L2.St} {G : Hp} {cs : Cells} {Φ : Po ε S L R} {m : Out ε S L R} {st : Stmt} {rest body : List Stmt} {e : Expr} {P : Hp → V → Prop} {pos p : Pos}
theorem b_nil {s : S} (h : Φ.nx s σ G cs) : B X W [] σ G cs Φ (.nx s) := fun H d E w => uSs pss_nil (w σ G cs H (Same.refl _) d h)
/-- a statement by a rule, then the rest -/
theorem b_cons {t : TS} (h : PS X st t) (q : ∀ H, Desc G cs H → ∀ E : Ends, Wish W G Φ E m → t { E with nx := wSs X rest E } σ H) : B X W (st :: rest) σ G cs Φ m := fun H d E w => uSs (pss_cons h (sSs X rest)) (q H d E w)
theorem b_pass (h : B X W rest σ G cs Φ m) : B X W (.Pass pos :: rest) σ G cs Φ m := b_cons ps_pass fun H d E w => h H d E w
theorem b_set (i : Nat) {x : Str} (hN : X.N.Nodup) (he : D X e σ G cs P) (k : ∀ v G1, Same G G1 → P G1 v → B X W rest (σ.set i (some v)) G1 cs Φ m) (hi : X.N[i]? = some x := by rfl) (hx : Loc X.env.scope x := by first | exact Or.inl rfl | exact Or.inr rfl)
    (hs : swapsWith e (some (.Name x p)) pos.line X.env = pure false := by rfl) (hf : X.fn x = true ∨ X.env.scope.names.lookup x = some .local := by first | exact .inl rfl | exact .inr rfl) : B X W (.Assign [.Name x p] e pos :: rest) σ G cs Φ m :=
  b_cons (ps_set hN hi hx (sE X e) hs hf) fun H d E w => he G H (Same.refl _) d _ fun G2 H2 v s2 d2 hv => k v G2 s2 hv H2 d2 E (w.up s2)
theorem b_ret {r : R} (he : D X e σ G cs P) (k : ∀ v G1, Same G G1 → P G1 v → Φ.rt r G1 cs v) : B X W (.Return (some e) pos :: rest) σ G cs Φ (.rt r) :=
  b_cons (ps_ret (sE X e)) fun H d E w => he G H (Same.refl _) d _ fun G2 H2 v s2 d2 hv => w v G2 cs H2 s2 d2 (k v G2 s2 hv)
theorem b_retN {r : R} (k : Φ.rt r G cs .non) : B X W (.Return none pos :: rest) σ G cs Φ (.rt r) := b_cons ps_retN fun H d E w => w .non G cs H (Same.refl _) d k
theorem b_break {l : L} (k : Φ.lp l σ G cs) : B X W (.Break pos :: rest) σ G cs Φ (.bk l) := b_cons ps_break fun H d E w => w σ G cs H (Same.refl _) d k
theorem b_cont {l : L} (k : Φ.lp l σ G cs) : B X W (.Continue pos :: rest) σ G cs Φ (.ct l) := b_cons ps_continue fun H d E w => w σ G cs H (Same.refl _) d k
/-- an if, every way through it goes on in the rest or leaves -/
theorem b_if {S' : Type} {c : Expr} {a b : List Stmt} {k : Bool} (Mid : S' → L2.St → Hp → Cells → Prop) {ma mb : Out ε S' L R} {g : S' → Out ε S L R} (hc : T X c σ G cs k)
    (ha : k = true → ∀ G1, Same G G1 → B X W a σ G1 cs { nx := Mid, lp := Φ.lp, rt := Φ.rt, er := Φ.er } ma) (hb : k = false → ∀ G1, Same G G1 → B X W b σ G1 cs { nx := Mid, lp := Φ.lp, rt := Φ.rt, er := Φ.er } mb)
    (hr : ∀ s σ2 G2 cs2, Same G G2 → Mid s σ2 G2 cs2 → (if k = true then ma else mb) = .nx s → B X W rest σ2 G2 cs2 Φ (g s)) : B X W (.If c a b pos :: rest) σ G cs Φ ((if k = true then ma else mb).bind g) :=
  b_cons (ps_if (sT X c) (sSs X a) (sSs X b)) fun H d E w => hc G H (Same.refl _) d _ fun G2 H2 s2 d2 => by
    have go : ∀ {sts : List Stmt} {mm : Out ε S' L R}, B X W sts σ G2 cs { nx := Mid, lp := Φ.lp, rt := Φ.rt, er := Φ.er } mm → Wish W G Φ E (mm.bind g) → (∀ s σ2 G3 cs2, Same G G3 → Mid s σ2 G3 cs2 → mm = .nx s → B X W rest σ2 G3 cs2 Φ (g s)) → wSs X sts { E with nx := wSs X rest E } σ H2 := fun {sts mm} hB w hr => by
      refine hB H2 d2 _ ?_
      cases mm with
      | nx s => exact fun σ3 G3 cs3 H3 s3 d3 p => hr s σ3 G3 cs3 (s2.trans s3) p rfl H3 d3 E (Wish.up (G := G) (show Wish W G Φ E (g s) from w) (s2.trans s3))
      | bk l => exact fun σ3 G3 cs3 H3 s3 d3 p => w σ3 G3 cs3 H3 (s2.trans s3) d3 p
      | ct l => exact fun σ3 G3 cs3 H3 s3 d3 p => w σ3 G3 cs3 H3 (s2.trans s3) d3 p
      | rt r => exact fun v G3 cs3 H3 s3 d3 p => w v G3 cs3 H3 (s2.trans s3) d3 p
      | er x => exact fun σ3 G3 cs3 H3 s3 d3 p => w σ3 G3 cs3 H3 (s2.trans s3) d3 p
    cases k with
    | true => exact iteT (go (ha rfl G2 s2) w hr)
    | false => exact iteF (go (hb rfl G2 s2) w hr)
/-- an if whose first way always leaves, no else -/
theorem b_ifx {c : Expr} {a : List Stmt} {k : Bool} {ma mr : Out ε S L R} (hc : T X c σ G cs k)
    (ha : k = true → ∀ G1, Same G G1 → B X W a σ G1 cs { nx := fun _ _ _ _ => False, lp := Φ.lp, rt := Φ.rt, er := Φ.er } ma)
    (hr : k = false → ∀ G1, Same G G1 → B X W rest σ G1 cs Φ mr) : B X W (.If c a [] pos :: rest) σ G cs Φ (if k = true then ma else mr) :=
  b_cons (ps_if (sT X c) (sSs X a) pss_nil) fun H d E w => hc G H (Same.refl _) d _ fun G2 H2 s2 d2 => by
    cases k with
    | true =>
      have w' : Wish W G Φ E ma := w
      refine iteT (ha rfl G2 s2 H2 d2 _ ?_)
      cases ma with
      | nx s => exact fun σ3 G3 cs3 H3 s3 d3 p => p.elim
      | bk l => exact fun σ3 G3 cs3 H3 s3 d3 p => w' σ3 G3 cs3 H3 (s2.trans s3) d3 p
      | ct l => exact fun σ3 G3 cs3 H3 s3 d3 p => w' σ3 G3 cs3 H3 (s2.trans s3) d3 p
      | rt r => exact fun v G3 cs3 H3 s3 d3 p => w' v G3 cs3 H3 (s2.trans s3) d3 p
      | er x => exact fun σ3 G3 cs3 H3 s3 d3 p => w' σ3 G3 cs3 H3 (s2.trans s3) d3 p
    | false => exact iteF (hr rfl G2 s2 H2 d2 E (Wish.up (show Wish W G Φ E mr from w) s2))
/-- an if at the block's end, its two ways -/
theorem b_ifl {c : Expr} {a b : List Stmt} {k : Bool} {ma mb : Out ε S L R} (hc : T X c σ G cs k)
    (ha : k = true → ∀ G1, Same G G1 → B X W a σ G1 cs Φ ma) (hb : k = false → ∀ G1, Same G G1 → B X W b σ G1 cs Φ mb) : B X W [.If c a b pos] σ G cs Φ (if k = true then ma else mb) := fun H d E w =>
  uSs (pss_one (ps_if (sT X c) (sSs X a) (sSs X b))) (hc G H (Same.refl _) d _ fun G2 H2 s2 d2 => by
    cases k with
    | true => exact iteT (ha rfl G2 s2 H2 d2 E (Wish.up (show Wish W G Φ E ma from w) s2))
    | false => exact iteF (hb rfl G2 s2 H2 d2 E (Wish.up (show Wish W G Φ E mb from w) s2)))
theorem B.up {G' : Hp} (h : B X W rest σ G' cs Φ m) (s : ∀ H, Desc G cs H → Same G G' ∧ Desc G' cs H) : B X W rest σ G cs Φ m := fun H d E w => h H (s H d).2 E (w.up (s H d).1)
/-- a value's being is dropped -/
theorem b_expr (he : D X e σ G cs P) (k : ∀ v G1, Same G G1 → P G1 v → B X W rest σ G1 cs Φ m) (hs : swapsWith e none pos.line X.env = pure false := by rfl) : B X W (.Expr e pos :: rest) σ G cs Φ m :=
  b_cons (ps_expr (sE X e) hs) fun H d E w => he G H (Same.refl _) d _ fun G2 H2 v s2 d2 hv => k v G2 s2 hv H2 d2 E (w.up s2)

/-! ### loops -/
structure WalkD {α : Type} (J : It) (xs : List α) (G : Hp) (C : Cells → Prop) (P : α → Hp → V → Prop) : Prop where
  goes : ∀ i G1 H cs, i < xs.length → Same G G1 → C cs → Desc G1 cs H → J.go i H
  stops : ∀ G1 H cs, Same G G1 → C cs → Desc G1 cs H → J.stop xs.length H
  yields : ∀ i x G1 H cs v H', xs[i]? = some x → Same G G1 → C cs → Desc G1 cs H → J.yld i H v H' → ∃ G', Same G1 G' ∧ Desc G' cs H' ∧ P x G' v
/-- what is walked -/
def I {α : Type} (X : Cx) (tg iter : Expr) (σ : L2.St) (G : Hp) (cs : Cells) (C : Cells → Prop) (xs : List α) (P : α → Hp → V → Prop) : Prop :=
  ∃ wi, PI X tg iter wi ∧ ∀ G1 H, Same G G1 → Desc G1 cs H → ∀ Rr : It → Hp → Prop, (∀ J G2 H2, Same G1 G2 → Desc G2 cs H2 → WalkD J xs G2 C P → Rr J H2) → wi σ H Rr
/-- a target -/
def Tg {α : Type} (X : Cx) (tg : Expr) (P : α → Hp → V → Prop) (Sx : α → Hp → L2.St → L2.St → Prop) : Prop :=
  ∃ g, PG X tg g ∧ ∀ x v G cs H σ, P x G v → Desc G cs H → ∀ Q : L2.St → Hp → Prop, (∀ σ', Sx x G σ σ' → Q σ' H) → g v σ H Q
/-- the states that a loop comes through -/
inductive Reach {α : Type} (f : S → α → Out ε S S R) (s0 : S) : List α → S → Prop where
  | nil : Reach f s0 [] s0
  | nx {pre : List α} {s s' : S} {x : α} : Reach f s0 pre s → f s x = .nx s' → Reach f s0 (pre ++ [x]) s'
  | ct {pre : List α} {s s' : S} {x : α} : Reach f s0 pre s → f s x = .ct s' → Reach f s0 (pre ++ [x]) s'
theorem forL_reach {L : Type} {α : Type} {f : S → α → Out ε S S R} {s0 : S} {pre : List α} {s : S} (h : Reach f s0 pre s) : ∀ (post : List α), (forL f s0 (pre ++ post) : Out ε S L R) = forL f s post := by
  induction h with
  | nil => intro post; rfl
  | @nx pre s s' x h e ih =>
    intro post
    rw [List.append_assoc, ih]
    show (match f s x with | .nx s' => forL f s' post | .ct s' => forL f s' post | .bk s' => .nx s' | .rt r => .rt r | .er e => .er e : Out ε S L R) = _
    rw [e]
  | @ct pre s s' x h e ih =>
    intro post
    rw [List.append_assoc, ih]
    show (match f s x with | .nx s' => forL f s' post | .ct s' => forL f s' post | .bk s' => .nx s' | .rt r => .rt r | .er e => .er e : Out ε S L R) = _
    rw [e]
theorem forL_cons {L : Type} {α : Type} {f : S → α → Out ε S S R} {s : S} {x : α} {xs : List α} : (forL f s (x :: xs) : Out ε S L R) = (match f s x with | .nx s' => forL f s' xs | .ct s' => forL f s' xs | .bk s' => .nx s' | .rt r => .rt r | .er e => .er e) := rfl
/-- a for: N tells the slots, the frozen part and the cells by the turns done and the state; f is a turn -/
theorem b_for {α S1 : Type} {tg iter : Expr} {C : Cells → Prop} {xs : List α} {Pi : α → Hp → V → Prop} {Sx : α → Hp → L2.St → L2.St → Prop} {s0 : S1} {f : S1 → α → Out ε S1 S1 R} {g : S1 → Out ε S L R}
    (N : Nat → S1 → L2.St → Hp → Cells → Prop) (hi : I X tg iter σ G cs C xs Pi) (ht : Tg X tg Pi Sx) (hcalm : X.calm = true) (hp : PassesOwn (model X.prog X.w) X.A X.env X.xe)
    (h0 : ∀ G1, Same G G1 → N 0 s0 σ G1 cs) (hC : ∀ n s σ1 G1 cs1, N n s σ1 G1 cs1 → C cs1)
    (hb : ∀ pre x post s σ1 G0 G1 cs1 σ2, xs = pre ++ x :: post → Reach f s0 pre s → Same G G0 → N pre.length s σ1 G0 cs1 → Same G0 G1 → Sx x G1 σ1 σ2 →
      B X W body σ2 G1 cs1 { nx := N (pre.length + 1), lp := N (pre.length + 1), rt := Φ.rt, er := Φ.er } (f s x))
    (hr : ∀ n s σ1 G1 cs1, n ≤ xs.length → Same G G1 → N n s σ1 G1 cs1 → (forL f s0 xs : Out ε S1 L R) = .nx s → B X W rest σ1 G1 cs1 Φ (g s))
    (hs : ∀ x, foldedSetIterable iter X.env x = pure x := by intro _; rfl) : B X W (.For tg iter body [] pos :: rest) σ G cs Φ ((forL f s0 xs).bind g) := by
  obtain ⟨wi, hpi, hw⟩ := hi
  obtain ⟨gt, hpg, hgt⟩ := ht
  refine b_cons (ps_for hp hcalm hpi hpg (sSs X body) hs) fun H d E w => ?_
  refine hw G H (Same.refl _) d _ fun J G2 H2 s2 d2 wk => ?_
  let Pv : Nat → L2.St → Hp → Prop := fun i σ1 H1 => ∃ s G1 cs1, i ≤ xs.length ∧ Reach f s0 (xs.take i) s ∧ Same G2 G1 ∧ Desc G1 cs1 H1 ∧ N i s σ1 G1 cs1
  refine ⟨fun i n σ1 H1 => n = xs.length - i ∧ Pv i σ1 H1, ⟨xs.length, rfl, s0, G2, cs, Nat.zero_le _, .nil, Same.refl _, d2, h0 G2 s2⟩, ?_⟩
  rintro i n σ1 H1 ⟨rfl, s, G1, cs1, hi, hre, s1, d1, hN⟩
  have w0 : Wish W G Φ E ((forL f s (xs.drop i)).bind g) := by
    have q := forL_reach (L := L) hre (xs.drop i)
    rw [List.take_append_drop] at q
    rw [← q]
    exact w
  by_cases hlt : i < xs.length
  · refine .inr ⟨wk.goes i G1 H1 cs1 hlt s1 (hC _ _ _ _ _ hN) d1, Pv (i + 1), fun σ' H' p' => ⟨_, by omega, rfl, p'⟩, fun v H3 y => ?_⟩
    have hx : xs[i]? = some xs[i] := by simp [hlt]
    obtain ⟨G3, s3, d3, pv⟩ := wk.yields i xs[i] G1 H1 cs1 v H3 hx s1 (hC _ _ _ _ _ hN) d1 y
    refine hgt xs[i] v G3 cs1 H3 σ1 pv d3 _ fun σ' hS => ?_
    have ed : xs = xs.take i ++ xs[i] :: xs.drop (i + 1) := by
      rw [← List.drop_eq_getElem_cons hlt, List.take_append_drop]
    have et : xs.take (i + 1) = xs.take i ++ [xs[i]] := by simp
    have el : (xs.take i).length = i := by rw [List.length_take]; omega
    have hb' := hb (xs.take i) xs[i] (xs.drop (i + 1)) s σ1 G1 G3 cs1 σ' ed hre (s2.trans s1) (by rw [el]; exact hN) s3 hS
    rw [el] at hb'
    refine hb' H3 d3 _ ?_
    have w1 : Wish W G Φ E ((forL f s (xs[i] :: xs.drop (i + 1))).bind g) := by
      rw [List.drop_eq_getElem_cons hlt] at w0
      exact w0
    rw [forL_cons] at w1
    have sG : Same G G3 := (s2.trans s1).trans s3
    cases hm : f s xs[i] with
    | nx s' => exact fun σ4 G4 cs4 H4 s4 d4 p4 => ⟨s', G4, cs4, hlt, by rw [et]; exact .nx hre hm, (s1.trans s3).trans s4, d4, p4⟩
    | ct s' => exact fun σ4 G4 cs4 H4 s4 d4 p4 => ⟨s', G4, cs4, hlt, by rw [et]; exact .ct hre hm, (s1.trans s3).trans s4, d4, p4⟩
    | bk s' =>
      rw [hm] at w1
      refine fun σ4 G4 cs4 H4 s4 d4 p4 => hr (i + 1) s' σ4 G4 cs4 hlt (sG.trans s4) p4 ?_ H4 d4 E (Wish.up (show Wish W G Φ E (g s') from w1) (sG.trans s4))
      rw [ed, forL_reach hre, forL_cons, hm]
    | rt r =>
      rw [hm] at w1
      exact fun v4 G4 cs4 H4 s4 d4 p4 => w1 v4 G4 cs4 H4 (sG.trans s4) d4 p4
    | er k =>
      rw [hm] at w1
      exact fun σ4 G4 cs4 H4 s4 d4 p4 => w1 σ4 G4 cs4 H4 (sG.trans s4) d4 p4
  · have e : i = xs.length := by omega
    subst e
    rw [List.drop_length] at w0
    rw [List.take_length] at hre
    refine .inl ⟨wk.stops G1 H1 cs1 s1 (hC _ _ _ _ _ hN) d1, hr _ s σ1 G1 cs1 (Nat.le_refl _) (s2.trans s1) hN ?_ H1 d1 E (Wish.up (show Wish W G Φ E (g s) from w0) (s2.trans s1))⟩
    have q := forL_reach (L := L) hre ([] : List α)
    rw [List.append_nil] at q
    exact q
/-- a name for a value -/
def letV {α β : Type} (x : α) (f : α → β) : β := f x
theorem b_setV {α : Type} {r : α → Hp → V → Prop} {y : α} {f : α → Out ε S L R} (i : Nat) {x : Str} (hN : X.N.Nodup) (he : D X e σ G cs (r y)) (k : ∀ z, z = y → ∀ v G1, Same G G1 → r z G1 v → B X W rest (σ.set i (some v)) G1 cs Φ (f z)) (hi : X.N[i]? = some x := by rfl) (hx : Loc X.env.scope x := by first | exact Or.inl rfl | exact Or.inr rfl)
    (hs : swapsWith e (some (.Name x p)) pos.line X.env = pure false := by rfl) (hf : X.fn x = true ∨ X.env.scope.names.lookup x = some .local := by first | exact .inl rfl | exact .inr rfl) : B X W (.Assign [.Name x p] e pos :: rest) σ G cs Φ (letV y f) :=
  b_set i hN he (fun v G1 s1 h => k y rfl v G1 s1 h) hi hx hs hf
end
end J

namespace J
open PySem L2
section
variable {X : Cx} {σ : L2.St} {G : Hp} {cs : Cells} {e a b c : Expr} {es : List Expr} {P Pa Pb Pc : Hp → V → Prop} {pos p : Pos} {i j k : Int}

/-! ### whole numbers -/
theorem d_add (ha : D X a σ G cs (rI i)) (hb : D X b σ G cs (rI j)) : D X (.BinOp a .Add b pos) σ G cs (rI (i + j)) := d_bin op_add ha hb fun G1 H x y s d hx hy Q q => ⟨i, j, hx, hy, q G1 H _ (Same.refl _) d rfl⟩
theorem d_sub (ha : D X a σ G cs (rI i)) (hb : D X b σ G cs (rI j)) : D X (.BinOp a .Sub b pos) σ G cs (rI (i - j)) := d_bin op_sub ha hb fun G1 H x y s d hx hy Q q => ⟨i, j, hx, hy, q G1 H _ (Same.refl _) d rfl⟩
theorem d_mul (ha : D X a σ G cs (rI i)) (hb : D X b σ G cs (rI j)) (h : CMul i j) : D X (.BinOp a .Mult b pos) σ G cs (rI (i * j)) := d_bin op_mul ha hb fun G1 H x y s d hx hy Q q => ⟨i, j, hx, hy, h, q G1 H _ (Same.refl _) d rfl⟩
theorem d_mulW (ha : D X a σ G cs (rI i)) (hb : D X b σ G cs (rI j)) (h : CMulW i j) : D X (.BinOp a .Mult b pos) σ G cs (rI (i * j)) := d_bin op_mulW ha hb fun G1 H x y s d hx hy Q q => ⟨i, j, hx, hy, h, q G1 H _ (Same.refl _) d rfl⟩
theorem d_fdiv (ha : D X a σ G cs (rI i)) (hb : D X b σ G cs (rI j)) (h : CDivW i j) : D X (.BinOp a .FloorDiv b pos) σ G cs (rI (i / j)) := d_bin op_fdivW ha hb fun G1 H x y s d hx hy Q q => ⟨i, j, hx, hy, h, q G1 H _ (Same.refl _) d rfl⟩
theorem d_mod (ha : D X a σ G cs (rI i)) (hb : D X b σ G cs (rI j)) (h : 0 < j) : D X (.BinOp a .Mod b pos) σ G cs (rI (i % j)) := d_bin op_mod ha hb fun G1 H x y s d hx hy Q q => ⟨i, j, hx, hy, h, q G1 H _ (Same.refl _) d rfl⟩
theorem d_pow (ha : D X a σ G cs (rI i)) (hb : D X b σ G cs (rI j)) (h : CPow i j) {z : Int} (hz : i ^ j.toNat = z) : D X (.BinOp a .Pow b pos) σ G cs (rI z) := d_bin op_pow ha hb fun G1 H x y s d hx hy Q q => ⟨i, j, hx, hy, h, q G1 H _ (Same.refl _) d (by subst hz; rfl)⟩
theorem d_neg (ha : D X a σ G cs (rI i)) : D X (.UnaryOp .USub a pos) σ G cs (rI (-i)) := d_un un_neg ha fun G1 H x s d hx Q q => ⟨i, hx, q G1 H _ (Same.refl _) d rfl⟩
theorem divW {i j : Int} (h : 0 < j) (hb : j.natAbs < 2 ^ 8999) : CDivW i j := wide_div (b := 8999) h hb (by decide) (by decide)
/-! what the operators' readings ask, by the operands -/
section
variable {G1 H : Hp} {x y : V} {Q : VK}
theorem c_lt (hx : rI i G1 x) (hy : rI j G1 y) (q : Q (.bl (decide (i < j))) H) : rI0 (fun i j => .bl (decide (i < j))) x y H Q := ⟨i, j, hx, hy, q⟩
theorem c_le (hx : rI i G1 x) (hy : rI j G1 y) (q : Q (.bl (decide (i ≤ j))) H) : rI0 (fun i j => .bl (decide (i ≤ j))) x y H Q := ⟨i, j, hx, hy, q⟩
theorem c_gt (hx : rI i G1 x) (hy : rI j G1 y) (q : Q (.bl (decide (j < i))) H) : rI0 (fun i j => .bl (decide (j < i))) x y H Q := ⟨i, j, hx, hy, q⟩
theorem c_ge (hx : rI i G1 x) (hy : rI j G1 y) (q : Q (.bl (decide (j ≤ i))) H) : rI0 (fun i j => .bl (decide (j ≤ i))) x y H Q := ⟨i, j, hx, hy, q⟩
theorem c_eqI (hx : rI i G1 x) (hy : rI j G1 y) (q : Q (.bl (decide (i = j))) H) : rEq x y H Q := by
  cases hx; cases hy
  refine ⟨rfl, ?_⟩
  have e : decide (V.int i = V.int j) = decide (i = j) := decide_eq_decide.mpr ⟨fun h => V.int.inj h, fun h => by rw [h]⟩
  rw [e]
  exact q
theorem c_neI (hx : rI i G1 x) (hy : rI j G1 y) (q : Q (.bl (!decide (i = j))) H) : rNe x y H Q := by
  cases hx; cases hy
  refine ⟨rfl, ?_⟩
  have e : decide (V.int i = V.int j) = decide (i = j) := decide_eq_decide.mpr ⟨fun h => V.int.inj h, fun h => by rw [h]⟩
  rw [e]
  exact q
theorem c_eqB {i j : Bool} (hx : rB i G1 x) (hy : rB j G1 y) (q : Q (.bl (decide (i = j))) H) : rEq x y H Q := by
  cases hx; cases hy
  refine ⟨rfl, ?_⟩
  have e : decide (V.bl i = V.bl j) = decide (i = j) := decide_eq_decide.mpr ⟨fun h => V.bl.inj h, fun h => by rw [h]⟩
  rw [e]
  exact q
theorem c_neB {i j : Bool} (hx : rB i G1 x) (hy : rB j G1 y) (q : Q (.bl (!decide (i = j))) H) : rNe x y H Q := by
  cases hx; cases hy
  refine ⟨rfl, ?_⟩
  have e : decide (V.bl i = V.bl j) = decide (i = j) := decide_eq_decide.mpr ⟨fun h => V.bl.inj h, fun h => by rw [h]⟩
  rw [e]
  exact q
theorem str_eq {i j : List Nat} : decide (V.str (SX.S i) = V.str (SX.S j)) = decide (i = j) := decide_eq_decide.mpr ⟨fun h => SX.S_inj (V.str.inj h), fun h => by rw [h]⟩
theorem c_eqS {i j : List Nat} (hx : rS i G1 x) (hy : rS j G1 y) (q : Q (.bl (decide (i = j))) H) : rEq x y H Q := by
  cases hx; cases hy
  refine ⟨rfl, ?_⟩
  rw [str_eq]
  exact q
theorem c_neS {i j : List Nat} (hx : rS i G1 x) (hy : rS j G1 y) (q : Q (.bl (!decide (i = j))) H) : rNe x y H Q := by
  cases hx; cases hy
  refine ⟨rfl, ?_⟩
  rw [str_eq]
  exact q
theorem c_inS {l : List Nat} {n : Nat} (hx : rS [n] G1 x) (hy : rS l G1 y) (q : Q (.bl (decide (n ∈ l))) H) : ∃ (c : Nat) (z : Str), x = .str ⟨#[c]⟩ ∧ y = .str z ∧ Q (.bl (decide (c ∈ z.cps.toList))) H := ⟨n, SX.S l, hx, hy, q⟩
theorem c_ninS {l : List Nat} {n : Nat} (hx : rS [n] G1 x) (hy : rS l G1 y) (q : Q (.bl (!decide (n ∈ l))) H) : ∃ (c : Nat) (z : Str), x = .str ⟨#[c]⟩ ∧ y = .str z ∧ Q (.bl (!decide (c ∈ z.cps.toList))) H := ⟨n, SX.S l, hx, hy, q⟩
end
/-- a value that is never None -/
class NotNon {α : Type} (r : α → Hp → V → Prop) : Prop where
  nn : ∀ {x G v}, r x G v → v ≠ .non
instance : NotNon rI := ⟨fun h z => by cases h; cases z⟩
instance : NotNon rB := ⟨fun h z => by cases h; cases z⟩
instance : NotNon rS := ⟨fun h z => by cases h; cases z⟩
instance (K : PySem.W.Frag) {α : Type} (r : α → Hp → V → Prop) : NotNon (rL K r) := ⟨fun h z => by obtain ⟨_, _, e, _⟩ := h; rw [e] at z; cases z⟩
instance (K : PySem.W.Frag) {α : Type} (r : α → Hp → List V → Prop) : NotNon (rT K r) := ⟨fun h z => by obtain ⟨_, _, e, _⟩ := h; rw [e] at z; cases z⟩
theorem is_non {α : Type} {r : α → Hp → V → Prop} [NotNon r] {o : Option α} {G : Hp} {v : V} (h : rO r o G v) : decide (v = .non) = o.isNone := by
  cases o with
  | none =>
    have e : v = .non := h
    rw [e]
    rfl
  | some x => exact decide_eq_false (NotNon.nn (r := r) (x := x) h)
theorem d_isN {α : Type} {r : α → Hp → V → Prop} [NotNon r] [∀ x, Mono (r x)] {o : Option α} {jj : Nat} {p' : Pos} (ha : D X a σ G cs (rO r o)) : D X (.Compare a [.Is] [.Constant .none jj p'] pos) σ G cs (rB o.isNone) :=
  d_cmp op_isN (nomark _) ha d_non fun G1 H x y s d hx hy Q q => ⟨hy, by rw [is_non hx]; exact q⟩
theorem t_isN {α : Type} {r : α → Hp → V → Prop} [NotNon r] [∀ x, Mono (r x)] {o : Option α} {jj : Nat} {p' : Pos} (ha : D X a σ G cs (rO r o)) : T X (.Compare a [.Is] [.Constant .none jj p'] pos) σ G cs o.isNone :=
  t_cmp op_isN (nomark _) ha d_non fun G1 H x y s d hx hy Q q => ⟨hy, by rw [is_non hx]; exact q⟩
theorem d_notN {α : Type} {r : α → Hp → V → Prop} [NotNon r] [∀ x, Mono (r x)] {o : Option α} {jj : Nat} {p' : Pos} (ha : D X a σ G cs (rO r o)) : D X (.Compare a [.IsNot] [.Constant .none jj p'] pos) σ G cs (rB (!o.isNone)) :=
  d_cmp op_notN (nomark _) ha d_non fun G1 H x y s d hx hy Q q => ⟨hy, by rw [is_non hx]; exact q⟩
theorem t_notN {α : Type} {r : α → Hp → V → Prop} [NotNon r] [∀ x, Mono (r x)] {o : Option α} {jj : Nat} {p' : Pos} (ha : D X a σ G cs (rO r o)) : T X (.Compare a [.IsNot] [.Constant .none jj p'] pos) σ G cs (!o.isNone) :=
  t_cmp op_notN (nomark _) ha d_non fun G1 H x y s d hx hy Q q => ⟨hy, by rw [is_non hx]; exact q⟩
/-- a value that may be None, known to be there -/
theorem d_some {α : Type} {r : α → Hp → V → Prop} {x : α} (h : D X e σ G cs (rO r (some x))) : D X e σ G cs (r x) := h
theorem d_toO {α : Type} {r : α → Hp → V → Prop} {x : α} (h : D X e σ G cs (r x)) : D X e σ G cs (rO r (some x)) := h
theorem d_toN {α : Type} {r : α → Hp → V → Prop} (h : D X e σ G cs (rN ())) : D X e σ G cs (rO r none) := h

/-! ### texts -/
theorem d_cat {l m : List Nat} (ha : D X a σ G cs (rS l)) (hb : D X b σ G cs (rS m)) (h : l.length + m.length ≤ sizeLine) : D X (.BinOp a .Add b pos) σ G cs (rS (l ++ m)) :=
  d_bin op_add_str ha hb fun G1 H x y s d hx hy Q q => ⟨SX.S l, SX.S m, hx, hy, by rw [SX.S_len, SX.S_len]; exact h, by rw [SX.S_cat]; exact q G1 H _ (Same.refl _) d rfl⟩
theorem d_ixS {l : List Nat} {n : Nat} (ha : D X a σ G cs (rS l)) (hb : D X b σ G cs (rI i)) (hl : l.length ≤ sizeLine) (h : atI l i = some n) (hs : PlainIx b := by exact fun _ _ => rfl) : D X (.Subscript a b pos) σ G cs (rS [n]) :=
  d_by (pe_ix ix_str (sE X a) (sE X b) hs) fun G1 H s d Q q => ha G1 H s d _ fun G2 H2 x s2 d2 hx => hb G2 H2 (s.trans s2) d2 _ fun G3 H3 y s3 d3 hy =>
    ⟨SX.S l, i, n, hx, hy, by rw [SX.S_len]; exact hl, h, q G3 H3 _ (s2.trans s3) d3 rfl⟩

/-! ### lists, tuples: read -/
theorem atI_rs {α : Type} {r : α → Hp → V → Prop} {xs : List α} {vs : List V} {x : α} (h : Rs r G xs vs) (hx : atI xs i = some x) : ∃ v, atI vs i = some v ∧ r x G v := by
  unfold atI at hx ⊢
  rw [← h.length]
  cases e : ixN xs.length i with
  | none =>
    rw [e] at hx
    cases hx
  | some k =>
    rw [e] at hx
    exact Rs.get h hx
theorem atI_lt {α : Type} {xs : List α} (h0 : 0 ≤ i) (h1 : i < (xs.length : Int)) [Inhabited α] : atI xs i = some (xs.getD i.toNat default) := by
  obtain ⟨n, rfl⟩ := Int.eq_ofNat_of_zero_le h0
  have hn : n < xs.length := by omega
  exact atI_nat (by simp [hn])
theorem atI_neg {α : Type} {xs : List α} {n : Nat} (h0 : 0 < n) (h1 : n ≤ xs.length) [Inhabited α] : atI xs (-(n : Int)) = some (xs.getD (xs.length - n) default) := by
  have hl : xs.length - n < xs.length := by omega
  have e : ixN xs.length (-(n : Int)) = some (xs.length - n) := by
    unfold ixN
    rw [if_neg (by omega), if_pos (by omega)]
    exact congrArg some (by omega)
  unfold atI
  rw [e]
  simp [hl]
theorem d_ixL {α : Type} {r : α → Hp → V → Prop} [∀ x, Mono (r x)] {xs : List α} {x : α} (ha : D X a σ G cs (rdL X.K cs r xs)) (hb : D X b σ G cs (rI i)) (hx : atI xs i = some x) (hs : PlainIx b := by exact fun _ _ => rfl) :
    D X (.Subscript a b pos) σ G cs (r x) :=
  d_by (pe_ix ix_list (sE X a) (sE X b) hs) fun G1 H s d Q q => ha G1 H s d _ fun G2 H2 u s2 d2 hu => hb G2 H2 (s.trans s2) d2 _ fun G3 H3 y s3 d3 hy => by
    obtain ⟨l, vs, e, hl, hr⟩ := (Mono.mono s3 hu).sq d3
    obtain ⟨v, hv, hp⟩ := atI_rs hr hx
    exact ⟨l, vs, i, v, e, hy, hl, hv, q G3 H3 v (s2.trans s3) d3 hp⟩
/-- the n-th place of a tuple -/
def At (R : Hp → List V → Prop) (n : Nat) (P : Hp → V → Prop) : Prop := ∀ G vs, R G vs → ∃ v, vs[n]? = some v ∧ P G v
theorem at_1 {α : Type} {r : α → Hp → V → Prop} {x : α} : At (c0 r x) 0 (r x) := fun G vs ⟨v, e, h⟩ => ⟨v, by rw [e]; rfl, h⟩
theorem at_z {α β : Type} {r : α → Hp → V → Prop} {r' : β → Hp → List V → Prop} {x : α × β} : At (cc r r' x) 0 (r x.1) := fun G vs ⟨v, ws, e, h, _⟩ => ⟨v, by rw [e]; rfl, h⟩
theorem at_s {α β : Type} {r : α → Hp → V → Prop} {r' : β → Hp → List V → Prop} {x : α × β} {n : Nat} (h : At (r' x.2) n P) : At (cc r r' x) (n + 1) P := fun G vs ⟨v, ws, e, _, h'⟩ => by
  obtain ⟨u, h1, h2⟩ := h G ws h'
  exact ⟨u, by rw [e]; exact h1, h2⟩
theorem d_ixT {α : Type} {r : α → Hp → List V → Prop} [∀ x, MonoA (r x)] {x : α} {n : Nat} (ha : D X a σ G cs (rT X.K r x)) (hb : D X b σ G cs (rI (n : Int))) (hat : At (r x) n P) (hs : PlainIx b := by exact fun _ _ => rfl) :
    D X (.Subscript a b pos) σ G cs P :=
  d_by (pe_ix ix_tup (sE X a) (sE X b) hs) fun G1 H s d Q q => ha G1 H s d _ fun G2 H2 u s2 d2 hu => hb G2 H2 (s.trans s2) d2 _ fun G3 H3 y s3 d3 hy => by
    obtain ⟨l, vs, e, hl, hr⟩ := Mono.mono s3 hu
    obtain ⟨v, hv, hp⟩ := hat G3 vs hr
    exact ⟨l, vs, (n : Int), v, e, hy, seqT d3.same hl, atI_nat hv, q G3 H3 v (s2.trans s3) d3 hp⟩
theorem d_lenL {α : Type} {r : α → Hp → V → Prop} {xs : List α} {x : Str} [∀ x, Mono (r x)] (hm : X.mg x = none) (ha : D X a σ G cs (rdL X.K cs r xs)) (hg : Gl X x := by rfl) (hv : bootBuiltins x = some (.builtin "len") := by first | exact PySem.boot_len | decide +kernel) (hn : x ≠ "__name__" := by decide) (hd : (x == ("__debug__" : Str)) = false := by decide)
    (he : starEach [a] X.env = (false, eval a X.env) :: starEach [] X.env := by rfl) (hpl : (backTo pos (starEach [] X.env)).any (·.1) = false := by rfl) : D X (.Call (.Name x p) [a] [] pos) σ G cs (rI (xs.length : Int)) :=
  d_callB call_len hm (a_cons ha a_nil he) (fun G1 H vs s d hvs Q q => by
    obtain ⟨v, ws, e1, h1, h2⟩ := hvs
    cases h2
    obtain ⟨l, us, e, hl, hr⟩ := h1.sq d
    subst e
    exact ⟨_, xs.length, e1, .inl ⟨us, hl, hr.length⟩, q G1 H _ (Same.refl _) d rfl⟩) hg hv hn hd he hpl
theorem d_lenS {l : List Nat} {x : Str} (hm : X.mg x = none) (ha : D X a σ G cs (rS l)) (hl : l.length ≤ sizeLine) (hg : Gl X x := by rfl) (hv : bootBuiltins x = some (.builtin "len") := by first | exact PySem.boot_len | decide +kernel) (hn : x ≠ "__name__" := by decide) (hd : (x == ("__debug__" : Str)) = false := by decide)
    (he : starEach [a] X.env = (false, eval a X.env) :: starEach [] X.env := by rfl) (hpl : (backTo pos (starEach [] X.env)).any (·.1) = false := by rfl) : D X (.Call (.Name x p) [a] [] pos) σ G cs (rI (l.length : Int)) :=
  d_callB call_len hm (a_cons ha a_nil he) (fun G1 H vs s d hvs Q q => by
    obtain ⟨v, ws, e1, h1, h2⟩ := hvs
    cases h2
    cases h1
    exact ⟨_, l.length, e1, ⟨by rw [SX.S_len]; exact hl, (SX.S_len l).symm⟩, q G1 H _ (Same.refl _) d rfl⟩) hg hv hn hd he hpl
theorem d_int1 {x : Str} (hm : X.mg x = none) (ha : D X a σ G cs (rI i)) (hg : Gl X x := by rfl) (hv : bootBuiltins x = some (.type "int") := by decide +kernel) (hn : x ≠ "__name__" := by decide) (hd : (x == ("__debug__" : Str)) = false := by decide)
    (he : starEach [a] X.env = (false, eval a X.env) :: starEach [] X.env := by rfl) (hpl : (backTo pos (starEach [] X.env)).any (·.1) = false := by rfl) : D X (.Call (.Name x p) [a] [] pos) σ G cs (rI i) :=
  d_callTy call_int1 hm (a_cons ha a_nil he) (fun G1 H vs s d hvs Q q => by
    obtain ⟨v, ws, e1, h1, h2⟩ := hvs
    cases h2
    cases h1
    exact .inl ⟨i, e1, q G1 H _ (Same.refl _) d rfl⟩) hg hv hn hd he hpl
theorem d_abs {x : Str} (hm : X.mg x = none) (ha : D X a σ G cs (rI i)) (hg : Gl X x := by rfl) (hv : bootBuiltins x = some (.builtin "abs") := by decide +kernel) (hn : x ≠ "__name__" := by decide) (hd : (x == ("__debug__" : Str)) = false := by decide)
    (he : starEach [a] X.env = (false, eval a X.env) :: starEach [] X.env := by rfl) (hpl : (backTo pos (starEach [] X.env)).any (·.1) = false := by rfl) : D X (.Call (.Name x p) [a] [] pos) σ G cs (rI (if i < 0 then -i else i)) :=
  d_callB call_abs hm (a_cons ha a_nil he) (fun G1 H vs s d hvs Q q => by
    obtain ⟨v, ws, e1, h1, h2⟩ := hvs
    cases h2
    cases h1
    exact ⟨i, e1, q G1 H _ (Same.refl _) d rfl⟩) hg hv hn hd he hpl
theorem d_max2 {x : Str} (hc : X.calm = true) (hm : X.mg x = none) (ha : D X a σ G cs (rI i)) (hb : D X b σ G cs (rI j)) (hg : Gl X x := by rfl) (hv : bootBuiltins x = some (.builtin "max") := by decide +kernel) (hn : x ≠ "__name__" := by decide) (hd : (x == ("__debug__" : Str)) = false := by decide)
    (he : starEach [a, b] X.env = (false, eval a X.env) :: starEach [b] X.env := by rfl) (he2 : starEach [b] X.env = (false, eval b X.env) :: starEach [] X.env := by rfl) (hpl : (backTo pos (starEach [b] X.env)).any (·.1) = false := by rfl) : D X (.Call (.Name x p) [a, b] [] pos) σ G cs (rI (if j > i then j else i)) :=
  d_callB (call_max2 hc) hm (a_cons ha (a_cons hb a_nil he2) he) (fun G1 H vs s d hvs Q q => by
    obtain ⟨v, ws, e1, h1, v2, ws2, e2, h2, h3⟩ := hvs
    cases h3
    cases h1
    cases h2
    subst e2
    exact ⟨i, j, e1, q G1 H _ (Same.refl _) d rfl⟩) hg hv hn hd he hpl
theorem d_min2 {x : Str} (hc : X.calm = true) (hm : X.mg x = none) (ha : D X a σ G cs (rI i)) (hb : D X b σ G cs (rI j)) (hg : Gl X x := by rfl) (hv : bootBuiltins x = some (.builtin "min") := by decide +kernel) (hn : x ≠ "__name__" := by decide) (hd : (x == ("__debug__" : Str)) = false := by decide)
    (he : starEach [a, b] X.env = (false, eval a X.env) :: starEach [b] X.env := by rfl) (he2 : starEach [b] X.env = (false, eval b X.env) :: starEach [] X.env := by rfl) (hpl : (backTo pos (starEach [b] X.env)).any (·.1) = false := by rfl) : D X (.Call (.Name x p) [a, b] [] pos) σ G cs (rI (if j < i then j else i)) :=
  d_callB (call_min2 hc) hm (a_cons ha (a_cons hb a_nil he2) he) (fun G1 H vs s d hvs Q q => by
    obtain ⟨v, ws, e1, h1, v2, ws2, e2, h2, h3⟩ := hvs
    cases h3
    cases h1
    cases h2
    subst e2
    exact ⟨i, j, e1, q G1 H _ (Same.refl _) d rfl⟩) hg hv hn hd he hpl
theorem rs_int {xs : List Int} {vs : List V} (h : Rs rI G xs vs) : vs = xs.map V.int := h.map fun _ _ e => e
theorem rs_bl {xs : List Bool} {vs : List V} (h : Rs rB G xs vs) : vs = xs.map V.bl := h.map fun _ _ e => e
theorem d_sum {xs : List Int} {x : Str} (hc : X.calm = true) (hm : X.mg x = none) (ha : D X a σ G cs (rdL X.K cs rI xs)) (hg : Gl X x := by rfl) (hv : bootBuiltins x = some (.builtin "sum") := by decide +kernel) (hn : x ≠ "__name__" := by decide) (hd : (x == ("__debug__" : Str)) = false := by decide)
    (he : starEach [a] X.env = (false, eval a X.env) :: starEach [] X.env := by rfl) (hpl : (backTo pos (starEach [] X.env)).any (·.1) = false := by rfl) : D X (.Call (.Name x p) [a] [] pos) σ G cs (rI xs.sum) :=
  d_callB (cr_sum hc) hm (a_cons ha a_nil he) (fun G1 H vs s d hvs Q q => by
    obtain ⟨v, ws, e1, h1, h2⟩ := hvs
    cases h2
    obtain ⟨l, us, e, hl, hr⟩ := h1.sq d
    subst e
    have hu := rs_int hr
    subst hu
    exact ⟨l, xs, e1, hl, q G1 H _ (Same.refl _) d rfl⟩) hg hv hn hd he hpl
/-- the greatest, the least of a list -/
def maxL (xs : List Int) : Int := xs.foldl max (xs.headD 0)
def minL (xs : List Int) : Int := xs.foldl min (xs.headD 0)
theorem foldl_max : ∀ (xs : List Int) (z : Int), (xs.foldl max z = z ∨ xs.foldl max z ∈ xs) ∧ z ≤ xs.foldl max z ∧ ∀ y ∈ xs, y ≤ xs.foldl max z
  | [], z => ⟨.inl rfl, Int.le_refl _, fun _ h => nomatch h⟩
  | x :: xs, z => by
    obtain ⟨h1, h2, h3⟩ := foldl_max xs (max z x)
    show ((x :: xs).foldl max z = z ∨ (x :: xs).foldl max z ∈ x :: xs) ∧ z ≤ (x :: xs).foldl max z ∧ ∀ y ∈ x :: xs, y ≤ (x :: xs).foldl max z
    rw [List.foldl_cons]
    refine ⟨?_, by omega, fun y hy => ?_⟩
    · rcases h1 with h1 | h1
      · rw [h1]
        by_cases c : z ≤ x
        · right
          rw [Int.max_eq_right c]
          exact List.mem_cons_self
        · left
          exact Int.max_eq_left (by omega)
      · right
        exact List.mem_cons_of_mem _ h1
    · rcases List.mem_cons.mp hy with e | hy
      · subst e
        omega
      · exact h3 y hy
theorem foldl_min : ∀ (xs : List Int) (z : Int), (xs.foldl min z = z ∨ xs.foldl min z ∈ xs) ∧ xs.foldl min z ≤ z ∧ ∀ y ∈ xs, xs.foldl min z ≤ y
  | [], z => ⟨.inl rfl, Int.le_refl _, fun _ h => nomatch h⟩
  | x :: xs, z => by
    obtain ⟨h1, h2, h3⟩ := foldl_min xs (min z x)
    show ((x :: xs).foldl min z = z ∨ (x :: xs).foldl min z ∈ x :: xs) ∧ (x :: xs).foldl min z ≤ z ∧ ∀ y ∈ x :: xs, (x :: xs).foldl min z ≤ y
    rw [List.foldl_cons]
    refine ⟨?_, by omega, fun y hy => ?_⟩
    · rcases h1 with h1 | h1
      · rw [h1]
        by_cases c : z ≤ x
        · left
          exact Int.min_eq_left c
        · right
          rw [Int.min_eq_right (by omega)]
          exact List.mem_cons_self
      · right
        exact List.mem_cons_of_mem _ h1
    · rcases List.mem_cons.mp hy with e | hy
      · subst e
        omega
      · exact h3 y hy
theorem maxL_is {xs : List Int} (h : 0 < xs.length) : maxL xs ∈ xs ∧ ∀ y ∈ xs, y ≤ maxL xs := by
  cases xs with
  | nil => exact absurd h (Nat.lt_irrefl _)
  | cons x xs =>
    obtain ⟨h1, h2, h3⟩ := foldl_max (x :: xs) x
    refine ⟨?_, h3⟩
    rcases h1 with h1 | h1
    · show (x :: xs).foldl max x ∈ x :: xs
      rw [h1]
      exact List.mem_cons_self
    · exact h1
theorem minL_is {xs : List Int} (h : 0 < xs.length) : minL xs ∈ xs ∧ ∀ y ∈ xs, minL xs ≤ y := by
  cases xs with
  | nil => exact absurd h (Nat.lt_irrefl _)
  | cons x xs =>
    obtain ⟨h1, h2, h3⟩ := foldl_min (x :: xs) x
    refine ⟨?_, h3⟩
    rcases h1 with h1 | h1
    · show (x :: xs).foldl min x ∈ x :: xs
      rw [h1]
      exact List.mem_cons_self
    · exact h1
theorem d_maxL {xs : List Int} {x : Str} (hc : X.calm = true) (hm : X.mg x = none) (ha : D X a σ G cs (rdL X.K cs rI xs)) (h0 : 0 < xs.length) (hg : Gl X x := by rfl) (hv : bootBuiltins x = some (.builtin "max") := by decide +kernel) (hn : x ≠ "__name__" := by decide) (hd : (x == ("__debug__" : Str)) = false := by decide)
    (he : starEach [a] X.env = (false, eval a X.env) :: starEach [] X.env := by rfl) (hpl : (backTo pos (starEach [] X.env)).any (·.1) = false := by rfl) : D X (.Call (.Name x p) [a] [] pos) σ G cs (rI (maxL xs)) :=
  d_callB (cr_max hc) hm (a_cons ha a_nil he) (fun G1 H vs s d hvs Q q => by
    obtain ⟨v, ws, e1, h1, h2⟩ := hvs
    cases h2
    obtain ⟨l, us, e, hl, hr⟩ := h1.sq d
    subst e
    have hu := rs_int hr
    subst hu
    refine ⟨l, xs, e1, hl, h0, fun m hm hle => q G1 H _ (Same.refl _) d ?_⟩
    obtain ⟨k1, k2⟩ := maxL_is h0
    have e3 : m = maxL xs := Int.le_antisymm (k2 m hm) (hle _ k1)
    rw [e3]
    rfl) hg hv hn hd he hpl
theorem d_minL {xs : List Int} {x : Str} (hc : X.calm = true) (hm : X.mg x = none) (ha : D X a σ G cs (rdL X.K cs rI xs)) (h0 : 0 < xs.length) (hg : Gl X x := by rfl) (hv : bootBuiltins x = some (.builtin "min") := by decide +kernel) (hn : x ≠ "__name__" := by decide) (hd : (x == ("__debug__" : Str)) = false := by decide)
    (he : starEach [a] X.env = (false, eval a X.env) :: starEach [] X.env := by rfl) (hpl : (backTo pos (starEach [] X.env)).any (·.1) = false := by rfl) : D X (.Call (.Name x p) [a] [] pos) σ G cs (rI (minL xs)) :=
  d_callB (cr_min hc) hm (a_cons ha a_nil he) (fun G1 H vs s d hvs Q q => by
    obtain ⟨v, ws, e1, h1, h2⟩ := hvs
    cases h2
    obtain ⟨l, us, e, hl, hr⟩ := h1.sq d
    subst e
    have hu := rs_int hr
    subst hu
    refine ⟨l, xs, e1, hl, h0, fun m hm hle => q G1 H _ (Same.refl _) d ?_⟩
    obtain ⟨k1, k2⟩ := minL_is h0
    have e3 : m = minL xs := Int.le_antisymm (hle _ k1) (k2 m hm)
    rw [e3]
    rfl) hg hv hn hd he hpl

/-! ### made: tuples, lists -/
/-- the arguments as a tuple's places; n of them -/
def Tp (n : Nat) (Ps R : Hp → List V → Prop) : Prop := ∀ G vs, Ps G vs → R G vs ∧ vs.length = n
theorem tp_1 {α : Type} {r : α → Hp → V → Prop} {x : α} : Tp 1 (aC (r x) aN) (c0 r x) := fun G vs ⟨v, ws, e, h, h2⟩ => by
  cases h2
  exact ⟨⟨v, e, h⟩, by rw [e]; rfl⟩
theorem tp_c {α β : Type} {r : α → Hp → V → Prop} {r' : β → Hp → List V → Prop} {x : α} {y : β} {n : Nat} {Ps : Hp → List V → Prop} (h : Tp n Ps (r' y)) : Tp (n + 1) (aC (r x) Ps) (cc r r' (x, y)) := fun G vs ⟨v, ws, e, h1, h2⟩ => by
  obtain ⟨k1, k2⟩ := h G ws h2
  exact ⟨⟨v, ws, e, h1, k1⟩, by rw [e, List.length_cons, k2]⟩
theorem sl_small {n : Nat} (h : n ≤ 16777216) : n ≤ sizeLine := by rw [sizeLine_eq]; exact h
theorem d_tup {α : Type} {r : α → Hp → List V → Prop} {x : α} {Ps : Hp → List V → Prop} {n kk : Nat} [∀ x, MonoA (r x)] (h : A X es σ G cs Ps) (ht : Tp n Ps (r x)) (hn : n ≤ 16777216 := by decide) : D X (.Tuple es kk pos) σ G cs (rT X.K r x) :=
  d_by (pe_tup (sA X es)) fun G1 H s d Q q => h G1 H s d _ fun G2 H2 vs s2 d2 hvs => by
    obtain ⟨k1, k2⟩ := ht G2 vs hvs
    refine ⟨by rw [k2]; exact sl_small hn, fun l hl => ?_⟩
    have sf : Same G2 (upd G2 l (.tup vs)) := Same.fresh d2.same hl _
    exact q _ _ _ (s2.trans sf) (d2.new hl _) ⟨l, vs, rfl, SqT.of upd_same, MonoA.mono sf k1⟩
/-- the arguments as a list's items -/
def Ls {α : Type} (r : α → Hp → V → Prop) (Ps : Hp → List V → Prop) (xs : List α) : Prop := ∀ G vs, Ps G vs → Rs r G xs vs
theorem ls_n {α : Type} {r : α → Hp → V → Prop} : Ls r aN [] := fun G vs h => by cases h; exact .nil
theorem ls_c {α : Type} {r : α → Hp → V → Prop} {x : α} {xs : List α} {Ps : Hp → List V → Prop} (h : Ls r Ps xs) : Ls r (aC (r x) Ps) (x :: xs) := fun G vs ⟨v, ws, e, h1, h2⟩ => by
  rw [e]
  exact .cons h1 (h G ws h2)
/-- a new list, not yet frozen -/
def N (X : Cx) (e : Expr) (σ : L2.St) (G : Hp) (cs : Cells) {α : Type} (r : α → Hp → V → Prop) (xs : List α) : Prop :=
  ∀ G1 H, Same G G1 → Desc G1 cs H → ∀ Q : VK, (∀ G2 H2 l vs, Same G1 G2 → Desc G2 ((l, .lst vs) :: cs) H2 → Rs r G2 xs vs → Q (.ref l) H2) → wE X e σ H Q
theorem d_new {α : Type} {r : α → Hp → V → Prop} [∀ x, Mono (r x)] {xs : List α} (h : N X e σ G cs r xs) : D X e σ G cs (rL X.K r xs) := fun G1 H s d Q q =>
  h G1 H s d Q fun G2 H2 l vs s2 d2 hr => by
    obtain ⟨f1, f2⟩ := d2.freeze
    exact q _ _ _ (s2.trans f1) f2 ⟨l, vs, rfl, SqL.of upd_same, hr.mono f1⟩
theorem n_lst {α : Type} {r : α → Hp → V → Prop} {xs : List α} {Ps : Hp → List V → Prop} (h : A X es σ G cs Ps) (hl : Ls r Ps xs) (hn : xs.length ≤ 16777216 := by first | decide | simp | (simp; omega)) : N X (.List es pos) σ G cs r xs := fun G1 H s d Q q =>
  uE (pe_lst (sA X es)) (h G1 H s d _ fun G2 H2 vs s2 d2 hvs => by
    have hr := hl G2 vs hvs
    exact ⟨by rw [← hr.length]; exact sl_small hn, fun l hl => q G2 _ l vs s2 (d2.newCell hl _) hr⟩)
/-- list(xs) of a list -/
theorem n_listL {α : Type} {r : α → Hp → V → Prop} [∀ x, Mono (r x)] {xs : List α} {x : Str} (hm : X.mg x = none) (ha : D X a σ G cs (rdL X.K cs r xs)) (hg : Gl X x := by rfl) (hv : bootBuiltins x = some (.type "list") := by decide +kernel) (hn : x ≠ "__name__" := by decide) (hd : (x == ("__debug__" : Str)) = false := by decide)
    (he : starEach [a] X.env = (false, eval a X.env) :: starEach [] X.env := by rfl) (hpl : (backTo pos (starEach [] X.env)).any (·.1) = false := by rfl) : N X (.Call (.Name x p) [a] [] pos) σ G cs r xs := fun G1 H s d Q q =>
  uE (pe_callTy call_list_of hg hm hv (sA X [a]) (hn := hn) (hdb := hd) (he := he) (hpl := hpl)) (a_cons ha a_nil he G1 H s d _ fun G2 H2 vs s2 d2 hvs => by
    obtain ⟨v, ws, e1, h1, h2⟩ := hvs
    cases h2
    obtain ⟨l, us, e, hl, hr⟩ := h1.sq d2
    subst e
    exact ⟨l, us, e1, .inl hl, fun l' hl' => q G2 _ l' us s2 (d2.newCell hl' _) hr⟩)
end

section
variable {ε S L R : Type} {X : Cx} {W : ε → L2.St → Hp → Prop} {σ : L2.St} {G : Hp} {cs : Cells} {Φ : Po ε S L R} {m : Out ε S L R} {st : Stmt} {rest body : List Stmt} {e o : Expr} {P : Hp → V → Prop} {pos p : Pos}
/-- name = a new list that will change -/
theorem b_setN {α : Type} {r : α → Hp → V → Prop} {xs : List α} (i : Nat) {x : Str} (hN : X.N.Nodup) (he : N X e σ G cs r xs) (k : ∀ l vs G1, Same G G1 → Rs r G1 xs vs → B X W rest (σ.set i (some (.ref l))) G1 ((l, .lst vs) :: cs) Φ m) (hi : X.N[i]? = some x := by rfl) (hx : Loc X.env.scope x := by first | exact Or.inl rfl | exact Or.inr rfl)
    (hs : swapsWith e (some (.Name x p)) pos.line X.env = pure false := by rfl) (hf : X.fn x = true ∨ X.env.scope.names.lookup x = some .local := by first | exact .inl rfl | exact .inr rfl) : B X W (.Assign [.Name x p] e pos :: rest) σ G cs Φ m :=
  b_cons (ps_set hN hi hx (sE X e) hs hf) fun H d E w => he G H (Same.refl _) d _ fun G2 H2 l vs s2 d2 hr => k l vs G2 s2 hr H2 d2 E (w.up s2)
/-- xs.append(e), xs the cell at k -/
theorem b_app (k : Nat) {l : Addr} {vs : List V} {apos cpos : Pos} (hk : cs[k]? = some (l, .lst vs)) (ho : D X o σ G cs (rV (.ref l))) (he : D X e σ G cs P) (hz : vs.length < sizeLine)
    (q : ∀ v G1, Same G G1 → P G1 v → B X W rest σ G1 (cs.set k (l, .lst (vs ++ [v]))) Φ m) (hs : swapsWith (.Call (.Attribute o "append" apos) [e] [] cpos) none pos.line X.env = pure false := by rfl)
    (hbase : attributeBase o "append" X.env (eval o X.env) = eval o X.env := by rfl)
    (hfew : ((backTo cpos (starEach [e] X.env)).all (fun x => !x.1) && (backToKw cpos (keywordEach [] X.env)).all (fun x => x.1.isSome) && decide ([e].length + ([] : List Keyword).length + (if ([] : List Keyword).isEmpty then 0 else 1) < 30)) = true := by rfl)
    (hline : (apos.endLine == cpos.line) = true := by rfl) (hst : starEach [e] X.env = (false, eval e X.env) :: starEach [] X.env := by rfl) (hplain : (backTo cpos (starEach [] X.env)).any (·.1) = false := by rfl) :
    B X W (.Expr (.Call (.Attribute o "append" apos) [e] [] cpos) pos :: rest) σ G cs Φ m :=
  b_cons (ps_expr (pe_bm PySem.F.plainAttrs_list PySem.F.slot_list_append PySem.F.type_list_append mt_append (sE X o) (pa_cons (sE X e) pa_nil hst) hbase hfew hline hst hplain) hs) fun H d E w =>
    ho G H (Same.refl _) d _ fun G2 H2 u s2 d2 hu => by
      have eu : u = .ref l := hu
      subst eu
      refine ⟨.inl ⟨rfl, vs, SqL.of (d2.at_ (List.mem_of_getElem? hk))⟩, he G2 H2 s2 d2 _ fun G3 H3 v s3 d3 hv => ?_⟩
      exact ⟨l, vs, v, rfl, rfl, d3.at_ (List.mem_of_getElem? hk), hz, q v G3 (s2.trans s3) hv _ (d3.write hk _) E (w.up (s2.trans s3))⟩
theorem perm_at {cs : Cells} {k : Nat} {c : Addr × HO} (h : cs[k]? = some c) : cs.Perm (c :: cs.eraseIdx k) := by
  induction cs generalizing k with
  | nil => cases k <;> cases h
  | cons x cs ih =>
    cases k with
    | zero =>
      have e : x = c := Option.some.inj h
      subst e
      exact List.Perm.refl _
    | succ k => exact ((ih (k := k) h).cons x).trans (List.Perm.swap ..)
/-- the cell at k changes no more -/
theorem b_freeze (k : Nat) {l : Addr} {u : HO} (hk : cs[k]? = some (l, u)) (h : Same G (upd G l u) → (upd G l u) l = some u → B X W rest σ (upd G l u) (cs.eraseIdx k) Φ m) : B X W rest σ G cs Φ m := fun H d E w => by
  obtain ⟨f1, f2⟩ := (d.perm (perm_at hk)).freeze
  exact h f1 upd_same H f2 E (w.up f1)
end
end J

namespace J
open PySem L2 PyProof.Rows

/-! ### what is walked -/
/-- lo, lo + 1, .. below hi -/
def rng (lo hi : Int) : List Int := (List.range (hi - lo).toNat).map fun k : Nat => lo + (k : Int)
theorem rng_length (lo hi : Int) : (rng lo hi).length = (hi - lo).toNat := by simp [rng]
theorem rng_get {lo hi : Int} {i : Nat} (h : i < (hi - lo).toNat) : (rng lo hi)[i]? = some (lo + (i : Int)) := by simp [rng, h]
theorem rng_mem {lo hi x : Int} : x ∈ rng lo hi ↔ lo ≤ x ∧ x < hi := by
  unfold rng
  rw [List.mem_map]
  constructor
  · rintro ⟨k, hk, rfl⟩
    have := List.mem_range.mp hk
    omega
  · rintro ⟨h1, h2⟩
    exact ⟨(x - lo).toNat, List.mem_range.mpr (by omega), by omega⟩
/-- the items with their places -/
def enumL {α : Type} (xs : List α) : List (Int × α) := xs.zipIdx.map fun p => ((p.2 : Int), p.1)
theorem enumL_length {α : Type} (xs : List α) : (enumL xs).length = xs.length := by simp [enumL]
theorem enumL_get {α : Type} {xs : List α} {i : Nat} {x : α} (h : xs[i]? = some x) : (enumL xs)[i]? = some ((i : Int), x) := by simp [enumL, h]
theorem enumL_getE {α : Type} {xs : List α} {i : Nat} {p : Int × α} (h : (enumL xs)[i]? = some p) : p.1 = (i : Int) ∧ xs[i]? = some p.2 := by
  have hl : i < (enumL xs).length := (List.getElem?_eq_some_iff.mp h).1
  rw [enumL_length] at hl
  have e := enumL_get (xs := xs) (i := i) (x := xs[i]) (by simp [hl])
  rw [h] at e
  cases e
  exact ⟨rfl, by simp [hl]⟩
def rU (K : PySem.W.Frag) {α : Type} (r : α → Hp → V → Prop) (xs : List α) : Hp → V → Prop := fun G v => ∃ a vs, v = .ref a ∧ SqT K G a vs ∧ Rs r G xs vs
instance (K : PySem.W.Frag) {α : Type} (r : α → Hp → V → Prop) [m : ∀ x, Mono (r x)] (xs : List α) : Mono (rU K r xs) :=
  ⟨fun e ⟨a, vs, h1, h2, h3⟩ => ⟨a, vs, h1, seqT e h2, h3.mono e⟩⟩
section
variable {X : Cx} {σ : L2.St} {G : Hp} {cs : Cells} {e a b tg iter : Expr} {es : List Expr} {pos p : Pos} {α : Type} {r : α → Hp → V → Prop} {xs : List α}
theorem wd_list {l : Addr} {vs : List V} {C : Cells → Prop} [m : ∀ x, Mono (r x)] (hr : Rs r G xs vs) (hC : ∀ G1 H cs, Same G G1 → C cs → Desc G1 cs H → SqL X.K H l vs) : WalkD (Itl X.K l) xs G C r :=
  ⟨fun i G1 H cs hi s c d => walk_list.goes i H (by rw [← hr.length]; exact hi) (hC G1 H cs s c d), fun G1 H cs s c d => by
    have q := walk_list.stops H (hC G1 H cs s c d)
    rw [← hr.length] at q
    exact q, fun i x G1 H cs v H' hx s c d y => by
    have hi : i < xs.length := (List.getElem?_eq_some_iff.mp hx).1
    obtain ⟨e, hv⟩ := walk_list.yields i H v H' (by rw [← hr.length]; exact hi) (hC G1 H cs s c d) y
    obtain ⟨x', h1, h2⟩ := hr.getV hv
    rw [hx] at h1
    cases h1
    subst e
    exact ⟨G1, Same.refl _, d, (m x).mono s h2⟩⟩
theorem i_listF [∀ x, Mono (r x)] (h : D X iter σ G cs (rL X.K r xs)) : I X tg iter σ G cs (fun _ => True) xs r :=
  ⟨_, pi_list (sE X iter), fun G1 H s d Rr k => h G1 H s d _ fun G2 H2 v s2 d2 hv => by
    obtain ⟨l, vs, e, hl, hr⟩ := hv
    exact ⟨l, e, ⟨vs, d2.same.seq hl⟩, k _ G2 H2 s2 d2 (wd_list hr fun G3 H3 cs3 s3 _ d3 => d3.same.seq (s3.seq hl))⟩⟩
theorem i_listC {l : Addr} {vs : List V} [∀ x, Mono (r x)] (h : D X iter σ G cs (rV (.ref l))) (hm : (l, .lst vs) ∈ cs) (hr : Rs r G xs vs) : I X tg iter σ G cs (fun cs' => (l, .lst vs) ∈ cs') xs r :=
  ⟨_, pi_list (sE X iter), fun G1 H s d Rr k => h G1 H s d _ fun G2 H2 v s2 d2 hv =>
    ⟨l, hv, ⟨vs, SqL.of (d2.at_ hm)⟩, k _ G2 H2 s2 d2 (wd_list (hr.mono (s.trans s2)) fun G3 H3 cs3 s3 c3 d3 => SqL.of (d3.at_ c3))⟩⟩
theorem i_tupU [m : ∀ x, Mono (r x)] (h : D X iter σ G cs (rU X.K r xs)) : I X tg iter σ G cs (fun _ => True) xs r :=
  ⟨_, pi_tup (sE X iter), fun G1 H s d Rr k => h G1 H s d _ fun G2 H2 v s2 d2 hv => by
    obtain ⟨l, vs, e, hl, hr⟩ := hv
    refine ⟨l, e, ⟨vs, seqT d2.same hl⟩, k _ G2 H2 s2 d2 ⟨fun i G3 H3 cs3 hi s3 _ d3 => walk_tup.goes i H3 (by rw [← hr.length]; exact hi) (seqT d3.same (seqT s3 hl)), fun G3 H3 cs3 s3 _ d3 => ?_, fun i x G3 H3 cs3 v H' hx s3 _ d3 y => ?_⟩⟩
    · have q := walk_tup.stops H3 (seqT d3.same (seqT s3 hl))
      rw [← hr.length] at q
      exact q
    · have hi : i < xs.length := (List.getElem?_eq_some_iff.mp hx).1
      obtain ⟨e, hv⟩ := walk_tup.yields i H3 v H' (by rw [← hr.length]; exact hi) (seqT d3.same (seqT s3 hl)) y
      obtain ⟨x', h1, h2⟩ := hr.getV hv
      rw [hx] at h1
      cases h1
      subst e
      exact ⟨G3, Same.refl _, d3, (m x).mono s3 h2⟩⟩
theorem wd_rng {lo hi : Int} {C : Cells → Prop} : WalkD (Itr lo (hi - lo).toNat) (rng lo hi) G C rI :=
  ⟨fun i G1 H cs h s c d => by
    rw [rng_length] at h
    exact h, fun G1 H cs s c d => by
    show (hi - lo).toNat ≤ (rng lo hi).length
    rw [rng_length]
    exact Nat.le_refl _, fun i x G1 H cs v H' hx s c d y => by
    have h : i < (rng lo hi).length := (List.getElem?_eq_some_iff.mp hx).1
    rw [rng_length] at h
    rw [rng_get h] at hx
    cases hx
    obtain ⟨e1, e2⟩ := y
    subst e1
    exact ⟨G1, Same.refl _, d, e2⟩⟩
theorem i_rng1 {j : Int} (hm : X.mg "range" = none) (ha : D X a σ G cs (rI j)) (h1 : -(2 ^ 62) ≤ j) (h2 : j < 2 ^ 62) (hg : Gl X "range" := by rfl) (hs : starEach [a] X.env = [(false, eval a X.env)] := by rfl) (hst : starEach [a] X.env = (false, eval a X.env) :: starEach [] X.env := by rfl) :
    I X tg (.Call (.Name "range" p) [a] [] pos) σ G cs (fun _ => True) (rng 0 j) rI :=
  ⟨_, pi_range1 hg hm (sA X [a]) hs, fun G1 H s d Rr k => a_cons ha a_nil hst G1 H s d _ fun G2 H2 vs s2 d2 hvs => by
    obtain ⟨v, ws, e1, k1, k2⟩ := hvs
    cases k2
    cases k1
    refine ⟨j, e1, h1, h2, k _ G2 H2 s2 d2 ?_⟩
    have q := wd_rng (G := G2) (lo := 0) (hi := j) (C := fun _ => True)
    rw [Int.sub_zero] at q
    exact q⟩
theorem i_rng2 {i j : Int} (hm : X.mg "range" = none) (ha : D X a σ G cs (rI i)) (hb : D X b σ G cs (rI j)) (h : -(2 ^ 62) ≤ i ∧ i < 2 ^ 62 ∧ -(2 ^ 62) ≤ j ∧ j < 2 ^ 62) (hg : Gl X "range" := by rfl) (hs : starEach [a, b] X.env = [(false, eval a X.env), (false, eval b X.env)] := by rfl) (hs2 : starEach [b] X.env = [(false, eval b X.env)] := by rfl)
    (hst : starEach [a, b] X.env = (false, eval a X.env) :: starEach [b] X.env := by rfl) (hst2 : starEach [b] X.env = (false, eval b X.env) :: starEach [] X.env := by rfl) : I X tg (.Call (.Name "range" p) [a, b] [] pos) σ G cs (fun _ => True) (rng i j) rI :=
  ⟨_, pi_range2 hg hm (sA X [a, b]) hs hs2, fun G1 H s d Rr k => a_cons ha (a_cons hb a_nil hst2) hst G1 H s d _ fun G2 H2 vs s2 d2 hvs => by
    obtain ⟨v, ws, e1, k1, v2, ws2, e2, k2, k3⟩ := hvs
    cases k3
    cases k1
    cases k2
    subst e2
    exact ⟨i, j, e1, h, k _ G2 H2 s2 d2 wd_rng⟩⟩
def rC (c : Nat) : Hp → V → Prop := rS [c]
instance (c : Nat) : Mono (rC c) := ⟨fun _ h => h⟩
theorem i_str {l : List Nat} (h : D X iter σ G cs (rS l)) : I X tg iter σ G cs (fun _ => True) l rC :=
  ⟨_, pi_str (sE X iter), fun G1 H s d Rr k => h G1 H s d _ fun G2 H2 v s2 d2 hv => by
    refine ⟨SX.S l, hv, k _ G2 H2 s2 d2 ⟨fun i G3 H3 cs3 hi s3 _ d3 => ?_, fun G3 H3 cs3 s3 _ d3 => ?_, fun i x G3 H3 cs3 v H' hx s3 _ d3 y => ?_⟩⟩
    · show i < (SX.S l).cps.size
      simpa using hi
    · show (SX.S l).cps.size ≤ l.length
      simp
    · obtain ⟨e, c, h1, h2⟩ := y
      subst e
      have h3 : l[i]? = some c := by simpa using h1
      rw [hx] at h3
      cases h3
      exact ⟨G3, Same.refl _, d3, h2⟩⟩
theorem wd_enum {l : Addr} {vs : List V} {C : Cells → Prop} [m : ∀ x, Mono (r x)] (hr : Rs r G xs vs) (hC : ∀ G1 H cs, Same G G1 → C cs → Desc G1 cs H → SqL X.K H l vs) : WalkD (Ite X.K l) (enumL xs) G C (rT X.K (cc rI (c0 r))) :=
  ⟨fun i G1 H cs hi s c d => walk_enum.goes i H (by rw [enumL_length] at hi; rw [← hr.length]; exact hi) (hC G1 H cs s c d), fun G1 H cs s c d => by
    have q := walk_enum.stops H (hC G1 H cs s c d)
    rw [← hr.length] at q
    rw [enumL_length]
    exact q, fun i x G1 H cs v H' hx s c d y => by
    obtain ⟨e1, e2⟩ := enumL_getE hx
    have hi : i < xs.length := (List.getElem?_eq_some_iff.mp e2).1
    obtain ⟨t, u, w, h1, h2, h3, h4, h5⟩ := walk_enum.yields i H v H' (by rw [← hr.length]; exact hi) (hC G1 H cs s c d) y
    obtain ⟨x', k1, k2⟩ := hr.getV h5
    rw [e2] at k1
    cases k1
    cases h4
    subst h3
    have sf : Same G1 (upd G1 t (.tup [.int (i : Nat), w])) := Same.fresh d.same h2 _
    refine ⟨_, sf, d.new h2 _, t, [.int (i : Nat), w], h1, SqT.of upd_same, .int (i : Nat), [w], rfl, ?_, w, rfl, (m x.2).mono (s.trans sf) k2⟩
    show V.int _ = V.int _
    rw [e1]⟩
theorem i_enumF {elts : List Expr} {kk : Nat} {tpos : Pos} [∀ x, Mono (r x)] (hm : X.mg "enumerate" = none) (h : D X a σ G cs (rL X.K r xs)) (hg : Gl X "enumerate" := by rfl) (hs : starEach [a] X.env = [(false, eval a X.env)] := by rfl) (hst : starEach [a] X.env = (false, eval a X.env) :: starEach [] X.env := by rfl) :
    I X (.Tuple elts kk tpos) (.Call (.Name "enumerate" p) [a] [] pos) σ G cs (fun _ => True) (enumL xs) (rT X.K (cc rI (c0 r))) :=
  ⟨_, pi_enum hg hm (sA X [a]) hs, fun G1 H s d Rr k => a_cons h a_nil hst G1 H s d _ fun G2 H2 vs s2 d2 hvs => by
    obtain ⟨v, ws, e1, k1, k2⟩ := hvs
    cases k2
    obtain ⟨l, us, e, hl, hr⟩ := k1
    subst e
    exact ⟨l, us, e1, d2.same.seq hl, k _ G2 H2 s2 d2 (wd_enum hr fun G3 H3 cs3 s3 _ d3 => d3.same.seq (s3.seq hl))⟩⟩

/-! ### targets -/
def sxN (i : Nat) {α : Type} (r : α → Hp → V → Prop) : α → Hp → L2.St → L2.St → Prop := fun x G σ σ' => ∃ v, r x G v ∧ σ' = σ.set i (some v)
theorem tg_name (i : Nat) {x : Str} (hN : X.N.Nodup) (hi : X.N[i]? = some x := by rfl) (hx : Loc X.env.scope x := by first | exact Or.inl rfl | exact Or.inr rfl) (hf : X.fn x = true ∨ X.env.scope.names.lookup x = some .local := by first | exact .inl rfl | exact .inr rfl) : Tg X (.Name x pos) r (sxN i r) :=
  ⟨_, pg_name hN hi hx hf, fun x v G cs H σ h d Q q => q _ ⟨v, h, rfl⟩⟩
def Tgs {α : Type} (X : Cx) (ts : List Expr) (R : α → Hp → List V → Prop) (n : Nat) (Sx : α → Hp → L2.St → L2.St → Prop) : Prop :=
  ∃ g, PGs X ts g ∧ ∀ x vs G cs H σ, R x G vs → Desc G cs H → vs.length = n ∧ ∀ Q : L2.St → Hp → Prop, (∀ σ', Sx x G σ σ' → Q σ' H) → g vs σ H Q
theorem tgs_1 {S1 : α → Hp → L2.St → L2.St → Prop} (h : Tg X e r S1) (hs : (assignEach [e] X.env).map (·.2) = assign e X.env :: (assignEach [] X.env).map (·.2) := by rfl) : Tgs X [e] (c0 r) 1 S1 := by
  obtain ⟨g, h1, h2⟩ := h
  refine ⟨_, pgs_cons (hs := hs) h1 pgs_nil, fun x vs G cs H σ hr d => ?_⟩
  obtain ⟨v, rfl, hv⟩ := hr
  exact ⟨rfl, fun Q q => ⟨v, [], rfl, h2 x v G cs H σ hv d _ fun σ' hs => ⟨rfl, q σ' hs⟩⟩⟩
theorem tgs_c {β : Type} {r' : β → Hp → List V → Prop} {n : Nat} {S1 : α → Hp → L2.St → L2.St → Prop} {S2 : β → Hp → L2.St → L2.St → Prop} (h : Tg X e r S1) (h' : Tgs X es r' n S2) (hs : (assignEach (e :: es) X.env).map (·.2) = assign e X.env :: (assignEach es X.env).map (·.2) := by rfl) :
    Tgs X (e :: es) (cc r r') (n + 1) (fun x G σ σ' => ∃ σ1, S1 x.1 G σ σ1 ∧ S2 x.2 G σ1 σ') := by
  obtain ⟨g, h1, h2⟩ := h
  obtain ⟨g', h3, h4⟩ := h'
  refine ⟨_, pgs_cons (hs := hs) h1 h3, fun x vs G cs H σ hr d => ?_⟩
  obtain ⟨v, ws, rfl, hv, hw⟩ := hr
  refine ⟨by rw [List.length_cons, (h4 x.2 ws G cs H σ hw d).1], fun Q q => ⟨v, ws, rfl, h2 x.1 v G cs H σ hv d _ fun σ1 hs => (h4 x.2 ws G cs H σ1 hw d).2 Q fun σ' hs' => q σ' ⟨σ1, hs, hs'⟩⟩⟩
theorem tg_tup {R : α → Hp → List V → Prop} {n kk : Nat} {Sx : α → Hp → L2.St → L2.St → Prop} (hc : X.calm = true) (h : Tgs X es R n Sx) (hn : (assignEach es X.env).length = n := by rfl) (hst : (assignEach es X.env).findIdx? (·.1) = none := by rfl) : Tg X (.Tuple es kk pos) (rT X.K R) Sx := by
  obtain ⟨g, h1, h2⟩ := h
  refine ⟨_, pg_tup hc h1 hn hst, fun x v G cs H σ hr d Q q => ?_⟩
  obtain ⟨l, vs, e, hl, hR⟩ := hr
  obtain ⟨k1, k2⟩ := h2 x vs G cs H σ hR d
  exact ⟨l, vs, e, seqT d.same hl, k1, k2 Q q⟩
end
section
variable {ε S L R : Type} {X : Cx} {W : ε → L2.St → Hp → Prop} {σ : L2.St} {G : Hp} {cs : Cells} {Φ : Po ε S L R} {m : Out ε S L R} {st : Stmt} {rest body : List Stmt} {e o tg : Expr} {P : Hp → V → Prop} {pos p : Pos}
/-- a target of any form = e -/
theorem b_asg {α : Type} {r : α → Hp → V → Prop} {x : α} {Sx : α → Hp → L2.St → L2.St → Prop} (he : D X e σ G cs (r x)) (ht : Tg X tg r Sx) (k : ∀ σ' G1, Same G G1 → Sx x G1 σ σ' → B X W rest σ' G1 cs Φ m)
    (hs : swapsWithSole [tg] e pos.line X.env = pure false := by rfl) (hw : swappedStores [tg] e X.env = pure none := by rfl) (h1 : (assignEach [tg] X.env).map (·.2) = [assign tg X.env] := by rfl) : B X W (.Assign [tg] e pos :: rest) σ G cs Φ m := by
  obtain ⟨g, hg, h2⟩ := ht
  exact b_cons (ps_asg (sE X e) hg hs hw (h1 := h1)) fun H d E w => he G H (Same.refl _) d _ fun G2 H2 v s2 d2 hv => h2 x v G2 cs H2 σ hv d2 _ fun σ' hS => k σ' G2 s2 hS H2 d2 E (w.up s2)
theorem b_augAdd (i : Nat) {x : Str} {p' : Pos} {z y : Int} (hN : X.N.Nodup) (hz : σ[i]? = some (some (.int z))) (he : D X e σ G cs (rI y)) (k : ∀ G1, Same G G1 → B X W rest (σ.set i (some (.int (z + y)))) G1 cs Φ m) (hi : X.N[i]? = some x := by rfl) (hx : Loc X.env.scope x := by first | exact Or.inl rfl | exact Or.inr rfl)
    (hf : X.fn x = true ∨ X.env.scope.names.lookup x = some .local := by first | exact .inl rfl | exact .inr rfl) : B X W (.AugAssign (.Name x p') .Add e pos :: rest) σ G cs Φ m :=
  b_cons (ps_aug hN hi hx (sE X e) ip_add hf) fun H d E w => ⟨_, hz, he G H (Same.refl _) d _ fun G2 H2 v s2 d2 hv => ⟨z, y, rfl, hv, k G2 s2 H2 d2 E (w.up s2)⟩⟩
theorem b_augSub (i : Nat) {x : Str} {p' : Pos} {z y : Int} (hN : X.N.Nodup) (hz : σ[i]? = some (some (.int z))) (he : D X e σ G cs (rI y)) (k : ∀ G1, Same G G1 → B X W rest (σ.set i (some (.int (z - y)))) G1 cs Φ m) (hi : X.N[i]? = some x := by rfl) (hx : Loc X.env.scope x := by first | exact Or.inl rfl | exact Or.inr rfl)
    (hf : X.fn x = true ∨ X.env.scope.names.lookup x = some .local := by first | exact .inl rfl | exact .inr rfl) : B X W (.AugAssign (.Name x p') .Sub e pos :: rest) σ G cs Φ m :=
  b_cons (ps_aug hN hi hx (sE X e) ip_sub hf) fun H d E w => ⟨_, hz, he G H (Same.refl _) d _ fun G2 H2 v s2 d2 hv => ⟨z, y, rfl, hv, k G2 s2 H2 d2 E (w.up s2)⟩⟩
end

/-! ### sorted -/
def srt (xs : List Int) : List Int := xs.mergeSort fun a b => decide (a ≤ b)
def srtR (xs : List Int) : List Int := xs.mergeSort fun a b => decide (b ≤ a)
theorem perm_eq {le : Int → Int → Prop} (anti : ∀ a b, le a b → le b a → a = b) : ∀ {xs ys : List Int}, xs.Perm ys → xs.Pairwise le → ys.Pairwise le → xs = ys
  | [], ys, p, _, _ => (List.nil_perm.mp p).symm
  | x :: xs, [], p, _, _ => absurd (List.perm_nil.mp p) (by simp)
  | x :: xs, y :: ys, p, h1, h2 => by
    have hx : x ∈ y :: ys := p.mem_iff.mp List.mem_cons_self
    have hy : y ∈ x :: xs := p.mem_iff.mpr List.mem_cons_self
    have e : x = y := by
      rcases List.mem_cons.mp hx with e | hx
      · exact e
      · rcases List.mem_cons.mp hy with e | hy
        · exact e.symm
        · exact anti _ _ ((List.pairwise_cons.mp h1).1 y hy) ((List.pairwise_cons.mp h2).1 x hx)
    subst e
    rw [perm_eq anti (List.perm_cons x |>.mp p) (List.pairwise_cons.mp h1).2 (List.pairwise_cons.mp h2).2]
theorem srt_is {xs ys : List Int} (p : ys.Perm xs) (h : ys.Pairwise (· ≤ ·)) : ys = srt xs := by
  refine perm_eq (le := fun a b => a ≤ b) (fun a b => Int.le_antisymm) (p.trans (List.mergeSort_perm xs _).symm) h ?_
  have q := List.pairwise_mergeSort (le := fun a b : Int => decide (a ≤ b)) (fun a b c h1 h2 => by simp at *; omega) (fun a b => by simp; omega) xs
  exact q.imp fun h => of_decide_eq_true h
theorem srtR_is {xs ys : List Int} (p : ys.Perm xs) (h : ys.Pairwise (· ≥ ·)) : ys = srtR xs := by
  refine perm_eq (le := fun a b => b ≤ a) (fun a b h1 h2 => Int.le_antisymm h2 h1) (p.trans (List.mergeSort_perm xs _).symm) h ?_
  have q := List.pairwise_mergeSort (le := fun a b : Int => decide (b ≤ a)) (fun a b c h1 h2 => by simp at *; omega) (fun a b => by simp; omega) xs
  exact q.imp fun h => of_decide_eq_true h
section
variable {X : Cx} {σ : L2.St} {G : Hp} {cs : Cells} {a : Expr} {pos p : Pos} {xs : List Int}
theorem n_sorted (hm : X.mg "sorted" = none) (ha : D X a σ G cs (rdL X.K cs rI xs)) (hg : Gl X "sorted" := by rfl) (hv : bootBuiltins "sorted" = some (.builtin "sorted") := by decide +kernel)
    (he : starEach [a] X.env = (false, eval a X.env) :: starEach [] X.env := by rfl) (hpl : (backTo pos (starEach [] X.env)).any (·.1) = false := by rfl) : N X (.Call (.Name "sorted" p) [a] [] pos) σ G cs rI (srt xs) := fun G1 H s d Q q =>
  uE (pe_callB cr_sortedI hg hm hv (sA X [a]) (he := he) (hpl := hpl)) (a_cons ha a_nil he G1 H s d _ fun G2 H2 vs s2 d2 hvs => by
    obtain ⟨v, ws, e1, h1, h2⟩ := hvs
    cases h2
    obtain ⟨l, us, e, hl, hr⟩ := h1.sq d2
    subst e
    have hu := rs_int hr
    subst hu
    refine ⟨l, xs, e1, hl, fun ys l' hp hs hl' => q G2 _ l' _ s2 (d2.newCell hl' _) ?_⟩
    rw [srt_is hp hs]
    exact Rs.of_map (fun _ => rfl) _)
theorem n_sortedR {kn : Option Str} {jj : Nat} {p2 p3 : Pos} (hk : PK X [⟨kn, .Constant (.bool true) jj p2, p3⟩] (fun _ H Q => Q [.bl true] H)) (hm : X.mg "sorted" = none) (ha : D X a σ G cs (rdL X.K cs rI xs)) (hg : Gl X "sorted" := by rfl) (hv : bootBuiltins "sorted" = some (.builtin "sorted") := by decide +kernel)
    (he : backTo pos (starEach [a] X.env) = (false, eval a X.env) :: backTo pos (starEach [] X.env) := by rfl) (hst : starEach [a] X.env = (false, eval a X.env) :: starEach [] X.env := by rfl) (hpl : (backTo pos (starEach [a] X.env)).any (·.1) = false := by rfl)
    (hall : (backToKw pos (keywordEach [⟨kn, .Constant (.bool true) jj p2, p3⟩] X.env)).all (·.1.isSome) = true := by rfl) (hnone : (backToKw pos (keywordEach [⟨kn, .Constant (.bool true) jj p2, p3⟩] X.env)).any (·.1.isNone) = false := by rfl)
    (hks : (backToKw pos (keywordEach [⟨kn, .Constant (.bool true) jj p2, p3⟩] X.env)).filterMap (·.1) = [Str.ofString "reverse"] := by rfl) :
    N X (.Call (.Name "sorted" p) [a] [⟨kn, .Constant (.bool true) jj p2, p3⟩] pos) σ G cs rI (srtR xs) := fun G1 H s d Q q =>
  uE (pe_callBK (ks := [Str.ofString "reverse"]) (cr_sortedRev (b := true)) hg hm hv (sA X [a]) hk (he := he) (hpl := hpl) (hall := hall) (hnone := hnone) (hks := hks)) (a_cons ha a_nil hst G1 H s d _ fun G2 H2 vs s2 d2 hvs => by
    obtain ⟨v, ws, e1, h1, h2⟩ := hvs
    cases h2
    obtain ⟨l, us, e, hl, hr⟩ := h1.sq d2
    subst e
    have hu := rs_int hr
    subst hu
    refine ⟨l, xs, e1, rfl, hl, fun ys l' hp hs hl' => q G2 _ l' _ s2 (d2.newCell hl' _) ?_⟩
    have hs' : ys.Pairwise (· ≥ ·) := hs
    rw [srtR_is hp hs']
    exact Rs.of_map (fun _ => rfl) _)
end

/-! ### comprehensions -/
def Xb (X : Cx) (scope : Scope) (s : Shared) (H : Hp) (C : Addr) (cl : List (Str × Addr)) (fp : List Addr) : Cx := X.blk s H scope (compEnvC scope cl C X.env) fp
section
variable {X : Cx} {σ : L2.St} {G : Hp} {cs : Cells} {elt tg iter : Expr} {ifs : List Expr} {pos : Pos} {scope : Scope} {own : List (Str × Nat)} {α β : Type} {xs : List α} {Pi : α → Hp → V → Prop} {r : β → Hp → V → Prop} {f : α → β} {q : α → Bool}
/-- a target within a comprehension's block -/
def TgB (X : Cx) (scope : Scope) (tg : Expr) (P : α → Hp → V → Prop) (Sx : α → Hp → L2.St → L2.St → Prop) : Prop :=
  ∃ g, (∀ s H C cl fp, PG (X.blk s H scope (compEnvC scope cl C X.env) fp) tg g) ∧ ∀ x v G cs H σ, P x G v → Desc G cs H → ∀ Q : L2.St → Hp → Prop, (∀ σ', Sx x G σ σ' → Q σ' H) → g v σ H Q
theorem tgb_name (i : Nat) {x : Str} (hN : X.N.Nodup) (hi : X.N[i]? = some x := by rfl) (hx : scope.names.lookup x = some .local := by rfl) : TgB X scope (.Name x pos) Pi (sxN i Pi) :=
  ⟨_, fun s H C cl fp => by
    have k : (X.blk s H scope (compEnvC scope cl C X.env) fp).env.scope.names.lookup x = some .local := by
      first
      | exact lookup_relabel_local hx
      | (show (relabel scope X.env).names.lookup x = some .local
         unfold relabel
         exact lookup_relabel_local hx)
    exact pg_name (X := X.blk s H scope (compEnvC scope cl C X.env) fp) hN hi (.inl k) (.inr k), fun x v G cs H σ h d Q q => q _ ⟨v, h, rfl⟩⟩
/-- [elt for tg in iter if ..]: f of the items that q lets through -/
theorem lc_go {wi : TI} {g : TG} {tt : TT} {te : TE} {Sx : α → Hp → L2.St → L2.St → Prop} {C : Cells → Prop} {vs : List Nat} {H : Hp}
    (hw : ∀ Rr : It → Hp → Prop, (∀ J G2 H2, Same G G2 → Desc G2 cs H2 → WalkD J xs G2 C Pi → Rr J H2) → wi σ H Rr) (hg : ∀ x v G cs H σ, Pi x G v → Desc G cs H → ∀ Q : L2.St → Hp → Prop, (∀ σ', Sx x G σ σ' → Q σ' H) → g v σ H Q)
    (hC : ∀ l us, C ((l, .lst us) :: cs)) (hwipe : ∀ x G1 σ', Sx x G1 (wipe σ vs) σ' → wipe σ' vs = wipe σ vs) [∀ y, Mono (r y)]
    (ht : ∀ x, x ∈ xs → ∀ G1 cs1 σ', Same G G1 → (∃ c, cs1 = c :: cs) → Sx x G1 (wipe σ vs) σ' → ∀ G2 H2, Same G1 G2 → Desc G2 cs1 H2 → ∀ Q : Bool → Hp → Prop, (∀ G3 H3, Same G2 G3 → Desc G3 cs1 H3 → Q (q x) H3) → tt σ' H2 Q)
    (he : ∀ x, x ∈ xs → q x = true → ∀ G1 cs1 σ', Same G G1 → (∃ c, cs1 = c :: cs) → Sx x G1 (wipe σ vs) σ' → ∀ G2 H2, Same G1 G2 → Desc G2 cs1 H2 → ∀ Q : VK, (∀ G3 H3 v, Same G2 G3 → Desc G3 cs1 H3 → r (f x) G3 v → Q v H3) → te σ' H2 Q)
    (hsz : xs.length ≤ 16777215) {Q : VK} (hQ : ∀ G2 H2 l us, Same G G2 → Desc G2 ((l, .lst us) :: cs) H2 → Rs r G2 ((xs.filter q).map f) us → Q (.ref l) H2) : tLc wi g tt te vs σ H Q := by
  refine hw _ fun J G2 H2 s2 d2 wk => fun l hl => ?_
  have hlen : ∀ i, ((xs.take i).filter q).length ≤ i := fun i => Nat.le_trans (List.length_filter_le _ _) (by rw [List.length_take]; omega)
  let Pv : Nat → Hp → Prop := fun i H1 => ∃ G1 us, i ≤ xs.length ∧ Same G2 G1 ∧ Desc G1 ((l, .lst us) :: cs) H1 ∧ Rs r G1 (((xs.take i).filter q).map f) us
  refine ⟨fun i n H1 => n = xs.length - i ∧ Pv i H1, ⟨xs.length, rfl, G2, [], Nat.zero_le _, Same.refl _, d2.newCell hl _, .nil⟩, ?_⟩
  rintro i n H1 ⟨rfl, G1, us, hi, s1, d1, hr⟩
  by_cases hlt : i < xs.length
  · refine .inr ⟨wk.goes i G1 H1 _ hlt s1 (hC _ _) d1, Pv (i + 1), fun H' p' => ⟨_, by omega, rfl, p'⟩, fun v H3 y => ?_⟩
    have hx : xs[i]? = some xs[i] := by simp [hlt]
    have hm : xs[i] ∈ xs := List.getElem_mem hlt
    obtain ⟨G3, s3, d3, pv⟩ := wk.yields i xs[i] G1 H1 _ v H3 hx s1 (hC _ _) d1 y
    have et : xs.take (i + 1) = xs.take i ++ [xs[i]] := by simp
    refine hg xs[i] v G3 _ H3 _ pv d3 _ fun σ' hS => ⟨hwipe _ _ _ hS, ?_⟩
    refine ht xs[i] hm G3 _ σ' ((s2.trans s1).trans s3) ⟨_, rfl⟩ hS G3 H3 (Same.refl _) d3 _ fun G4 H4 s4 d4 => ?_
    cases hq : q xs[i] with
    | true =>
      refine iteT (he xs[i] hm hq G3 _ σ' ((s2.trans s1).trans s3) ⟨_, rfl⟩ hS G4 H4 s4 d4 _ fun G5 H5 w s5 d5 hw => ⟨us, d5.at_ List.mem_cons_self, ?_, G5, us ++ [w], hlt, ((s1.trans s3).trans s4).trans s5, d5.write (k := 0) rfl _, ?_⟩)
      · rw [← hr.length, List.length_map]
        have := hlen i
        rw [sizeLine_eq]
        omega
      · rw [et, List.filter_append, List.map_append, List.filter_cons_of_pos hq]
        exact Rs.snoc hw (hr.mono ((s3.trans s4).trans s5))
    | false =>
      refine iteF ⟨G4, us, hlt, (s1.trans s3).trans s4, d4, ?_⟩
      rw [et, List.filter_append, List.filter_cons_of_neg (by rw [hq]; decide), List.filter_nil, List.append_nil]
      exact hr.mono (s3.trans s4)
  · have e : i = xs.length := by omega
    subst e
    rw [List.take_length] at hr
    exact .inl ⟨wk.stops G1 H1 _ s1 (hC _ _) d1, hQ G1 H1 l us (s2.trans s1) d1 hr⟩
def teB (X : Cx) (scope : Scope) (e : Expr) : TE := fun σ H Q => ∀ s H0 C cl fp, wE (X.blk s H0 scope (compEnvC scope cl C X.env) fp) e σ H Q
def ttB (X : Cx) (scope : Scope) (e : Expr) : TT := fun σ H Q => ∀ s H0 C cl fp, wT (X.blk s H0 scope (compEnvC scope cl C X.env) fp) e σ H Q
/-- without a test -/
theorem n_lc {Sx : α → Hp → L2.St → L2.St → Prop} {C : Cells → Prop} (hcalm : X.calm = true) (hN : X.N.Nodup) (ok : BlkOk X.N X.env.scope scope own) (hi : I X tg iter σ G cs C xs Pi) (ht : TgB X scope tg Pi Sx)
    (hC : ∀ l us, C ((l, .lst us) :: cs)) (hwipe : ∀ x G1 σ', Sx x G1 (wipe σ (own.map (·.2))) σ' → wipe σ' (own.map (·.2)) = wipe σ (own.map (·.2))) [∀ y, Mono (r y)]
    (he : ∀ x, x ∈ xs → ∀ G1 cs1 σ', Same G G1 → (∃ c, cs1 = c :: cs) → Sx x G1 (wipe σ (own.map (·.2))) σ' → ∀ s H0 C cl fp, D (X.blk s H0 scope (compEnvC scope cl C X.env) fp) elt σ' G1 cs1 (r (f x)))
    (hsz : xs.length ≤ 16777215) (hs : ∀ x, foldedSetIterable iter X.env x = pure x := by intro _; rfl) : N X (.ListComp elt [⟨tg, iter, [], 0⟩] scope pos) σ G cs r (xs.map f) := by
  obtain ⟨wi, hpi, hw⟩ := hi
  obtain ⟨g, hpg, hgt⟩ := ht
  intro G1 H s d Q q
  refine uE (pe_lc (te := teB X scope elt) hcalm hN hpi ok hpg (fun _ _ _ _ _ => pts_nil) (fun s H0 C cl fp => ⟨fun pins s1 σ H Q I h => (h s H0 C cl fp).run pins s1 I⟩) hs) ?_
  refine lc_go (Sx := Sx) (C := C) (r := r) (f := f) (q := fun _ => true) (hw G1 H s d) hgt hC hwipe (fun x hx G2 cs1 σ' s2 hc hS G3 H3 s3 d3 Q q => q G3 H3 (Same.refl _) d3)
    (fun x hx _ G2 cs1 σ' s2 hc hS G3 H3 s3 d3 Q q s4 H4 C4 cl4 fp4 => he x hx G2 cs1 σ' (s.trans s2) hc hS s4 H4 C4 cl4 fp4 G3 H3 s3 d3 Q q) hsz fun G2 H2 l us s2 d2 hr => q G2 H2 l us s2 d2 ?_
  have e : xs.filter (fun _ => true) = xs := by simp
  rw [e] at hr
  exact hr
/-- with one test -/
theorem n_lcIf {cnd : Expr} {Sx : α → Hp → L2.St → L2.St → Prop} {C : Cells → Prop} (hcalm : X.calm = true) (hN : X.N.Nodup) (ok : BlkOk X.N X.env.scope scope own) (hi : I X tg iter σ G cs C xs Pi) (ht : TgB X scope tg Pi Sx)
    (hC : ∀ l us, C ((l, .lst us) :: cs)) (hwipe : ∀ x G1 σ', Sx x G1 (wipe σ (own.map (·.2))) σ' → wipe σ' (own.map (·.2)) = wipe σ (own.map (·.2))) [∀ y, Mono (r y)]
    (hq : ∀ x, x ∈ xs → ∀ G1 cs1 σ', Same G G1 → (∃ c, cs1 = c :: cs) → Sx x G1 (wipe σ (own.map (·.2))) σ' → ∀ s H0 C cl fp, T (X.blk s H0 scope (compEnvC scope cl C X.env) fp) cnd σ' G1 cs1 (q x))
    (he : ∀ x, x ∈ xs → q x = true → ∀ G1 cs1 σ', Same G G1 → (∃ c, cs1 = c :: cs) → Sx x G1 (wipe σ (own.map (·.2))) σ' → ∀ s H0 C cl fp, D (X.blk s H0 scope (compEnvC scope cl C X.env) fp) elt σ' G1 cs1 (r (f x)))
    (hsz : xs.length ≤ 16777215) (hs : ∀ x, foldedSetIterable iter X.env x = pure x := by intro _; rfl) : N X (.ListComp elt [⟨tg, iter, [cnd], 0⟩] scope pos) σ G cs r ((xs.filter q).map f) := by
  obtain ⟨wi, hpi, hw⟩ := hi
  obtain ⟨g, hpg, hgt⟩ := ht
  intro G1 H s d Q k
  refine uE (pe_lc (te := teB X scope elt) (tt := ttB X scope cnd) hcalm hN hpi ok hpg (fun s H0 C cl fp => pts_one ⟨fun pins s1 σ H Q I h => (h s H0 C cl fp).run pins s1 I⟩) (fun s H0 C cl fp => ⟨fun pins s1 σ H Q I h => (h s H0 C cl fp).run pins s1 I⟩) hs) ?_
  exact lc_go (Sx := Sx) (C := C) (r := r) (f := f) (q := q) (hw G1 H s d) hgt hC hwipe (fun x hx G2 cs1 σ' s2 hc hS G3 H3 s3 d3 Q q s4 H4 C4 cl4 fp4 => hq x hx G2 cs1 σ' (s.trans s2) hc hS s4 H4 C4 cl4 fp4 G3 H3 s3 d3 Q q)
    (fun x hx hx2 G2 cs1 σ' s2 hc hS G3 H3 s3 d3 Q q s4 H4 C4 cl4 fp4 => he x hx hx2 G2 cs1 σ' (s.trans s2) hc hS s4 H4 C4 cl4 fp4 G3 H3 s3 d3 Q q) hsz fun G2 H2 l us s2 d2 hr => k G2 H2 l us s2 d2 hr
end
section
variable {ε S L R : Type} {X : Cx} {W : ε → L2.St → Hp → Prop} {σ : L2.St} {G : Hp} {cs : Cells} {Φ : Po ε S L R} {m : Out ε S L R} {rest : List Stmt} {elt tg iter : Expr} {pos spos : Pos} {scope : Scope} {own : List (Str × Nat)} {α β : Type} {xs : List α} {Pi : α → Hp → V → Prop} {r : β → Hp → V → Prop} {f : α → β} {q : α → Bool}
/-- y = [..], a statement of its own -/
theorem b_setLc (i : Nat) {y : Str} {py : Pos} {Sx : α → Hp → L2.St → L2.St → Prop} {C : Cells → Prop} (hcalm : X.calm = true) (hN : X.N.Nodup) (hyl : X.env.scope.names.lookup y = some .local) (hsw : swapsWith (.ListComp elt [⟨tg, iter, [], 0⟩] scope pos) (some (.Name y py)) spos.line X.env = pure true)
    (ok : BlkOk X.N X.env.scope scope own) (hi : I X tg iter σ G cs C xs Pi) (ht : TgB X scope tg Pi Sx)
    (hC : ∀ l us, C ((l, .lst us) :: cs)) (hwipe : ∀ x G1 σ', Sx x G1 (wipe σ (own.map (·.2))) σ' → wipe σ' (own.map (·.2)) = wipe σ (own.map (·.2))) [∀ y, Mono (r y)]
    (he : ∀ x, x ∈ xs → ∀ G1 cs1 σ', Same G G1 → (∃ c, cs1 = c :: cs) → Sx x G1 (wipe σ (own.map (·.2))) σ' → ∀ s H0 C cl fp, D (X.blk s H0 scope (compEnvC scope cl C X.env) fp) elt σ' G1 cs1 (r (f x)))
    (hsz : xs.length ≤ 16777215) (k : ∀ l vs G1, Same G G1 → Rs r G1 (xs.map f) vs → B X W rest (σ.set i (some (.ref l))) G1 ((l, .lst vs) :: cs) Φ m) (hy : X.N[i]? = some y := by rfl) (hs : ∀ x, foldedSetIterable iter X.env x = pure x := by intro _; rfl) :
    B X W (.Assign [.Name y py] (.ListComp elt [⟨tg, iter, [], 0⟩] scope pos) spos :: rest) σ G cs Φ m := by
  obtain ⟨wi, hpi, hw⟩ := hi
  obtain ⟨g, hpg, hgt⟩ := ht
  refine b_cons (ps_setLc (te := teB X scope elt) hcalm hN hy hyl hsw hpi ok hpg (fun _ _ _ _ _ => pts_nil) (fun s H0 C cl fp => ⟨fun pins s1 σ H Q I h => (h s H0 C cl fp).run pins s1 I⟩) hs) fun H d E w => ?_
  refine lc_go (Sx := Sx) (C := C) (r := r) (f := f) (q := fun _ => true) (hw G H (Same.refl _) d) hgt hC hwipe (fun x hx G2 cs1 σ' s2 hc hS G3 H3 s3 d3 Q q => q G3 H3 (Same.refl _) d3)
    (fun x hx _ G2 cs1 σ' s2 hc hS G3 H3 s3 d3 Q q s4 H4 C4 cl4 fp4 => he x hx G2 cs1 σ' s2 hc hS s4 H4 C4 cl4 fp4 G3 H3 s3 d3 Q q) hsz fun G2 H2 l us s2 d2 hr => k l us G2 s2 ?_ H2 d2 E (w.up s2)
  have e : xs.filter (fun _ => true) = xs := by simp
  rw [e] at hr
  exact hr
theorem b_setLcIf (i : Nat) {y : Str} {py : Pos} {cnd : Expr} {Sx : α → Hp → L2.St → L2.St → Prop} {C : Cells → Prop} (hcalm : X.calm = true) (hN : X.N.Nodup) (hyl : X.env.scope.names.lookup y = some .local) (hsw : swapsWith (.ListComp elt [⟨tg, iter, [cnd], 0⟩] scope pos) (some (.Name y py)) spos.line X.env = pure true)
    (ok : BlkOk X.N X.env.scope scope own) (hi : I X tg iter σ G cs C xs Pi) (ht : TgB X scope tg Pi Sx)
    (hC : ∀ l us, C ((l, .lst us) :: cs)) (hwipe : ∀ x G1 σ', Sx x G1 (wipe σ (own.map (·.2))) σ' → wipe σ' (own.map (·.2)) = wipe σ (own.map (·.2))) [∀ y, Mono (r y)]
    (hq : ∀ x, x ∈ xs → ∀ G1 cs1 σ', Same G G1 → (∃ c, cs1 = c :: cs) → Sx x G1 (wipe σ (own.map (·.2))) σ' → ∀ s H0 C cl fp, T (X.blk s H0 scope (compEnvC scope cl C X.env) fp) cnd σ' G1 cs1 (q x))
    (he : ∀ x, x ∈ xs → q x = true → ∀ G1 cs1 σ', Same G G1 → (∃ c, cs1 = c :: cs) → Sx x G1 (wipe σ (own.map (·.2))) σ' → ∀ s H0 C cl fp, D (X.blk s H0 scope (compEnvC scope cl C X.env) fp) elt σ' G1 cs1 (r (f x)))
    (hsz : xs.length ≤ 16777215) (k : ∀ l vs G1, Same G G1 → Rs r G1 ((xs.filter q).map f) vs → B X W rest (σ.set i (some (.ref l))) G1 ((l, .lst vs) :: cs) Φ m) (hy : X.N[i]? = some y := by rfl) (hs : ∀ x, foldedSetIterable iter X.env x = pure x := by intro _; rfl) :
    B X W (.Assign [.Name y py] (.ListComp elt [⟨tg, iter, [cnd], 0⟩] scope pos) spos :: rest) σ G cs Φ m := by
  obtain ⟨wi, hpi, hw⟩ := hi
  obtain ⟨g, hpg, hgt⟩ := ht
  refine b_cons (ps_setLc (te := teB X scope elt) (tt := ttB X scope cnd) hcalm hN hy hyl hsw hpi ok hpg (fun s H0 C cl fp => pts_one ⟨fun pins s1 σ H Q I h => (h s H0 C cl fp).run pins s1 I⟩) (fun s H0 C cl fp => ⟨fun pins s1 σ H Q I h => (h s H0 C cl fp).run pins s1 I⟩) hs) fun H d E w => ?_
  exact lc_go (Sx := Sx) (C := C) (r := r) (f := f) (q := q) (hw G H (Same.refl _) d) hgt hC hwipe (fun x hx G2 cs1 σ' s2 hc hS G3 H3 s3 d3 Q q s4 H4 C4 cl4 fp4 => hq x hx G2 cs1 σ' s2 hc hS s4 H4 C4 cl4 fp4 G3 H3 s3 d3 Q q)
    (fun x hx hx2 G2 cs1 σ' s2 hc hS G3 H3 s3 d3 Q q s4 H4 C4 cl4 fp4 => he x hx hx2 G2 cs1 σ' s2 hc hS s4 H4 C4 cl4 fp4 G3 H3 s3 d3 Q q) hsz fun G2 H2 l us s2 d2 hr => k l us G2 s2 hr H2 d2 E (w.up s2)
end

/-! ### defs -/
theorem Desc.drop {G H : Hp} {loc cs : Cells} (d : Desc G (loc ++ cs) H) : Desc G cs H := by
  induction loc with
  | nil => exact d
  | cons c loc ih => exact ih d.forget
/-- the promise of a def that raises nothing: i what it is given, pre how it lies, m what it gives, r how that lies -/
def SpP {I O : Type} (pre : I → Hp → List V → Prop) (r : I → O → Hp → V → Prop) (m : I → O) : Sp := fun vs H Q _ => ∃ (i : I) (G : Hp) (cs : Cells), Desc G cs H ∧ pre i G vs ∧ ∀ v G2 H2, Same G G2 → Desc G2 cs H2 → r i (m i) G2 v → Q v H2
/-- .. of one that may raise -/
def SpE {ε I O : Type} (cE : ε → Value) (pre : I → Hp → List V → Prop) (r : I → O → Hp → V → Prop) (m : I → Except ε O) : Sp := fun vs H Q E => ∃ (i : I) (G : Hp) (cs : Cells), Desc G cs H ∧ pre i G vs ∧
  (match m i with
    | .ok o => ∀ v G2 H2, Same G G2 → Desc G2 cs H2 → r i o G2 v → Q v H2
    | .error k => ∀ G2 H2, Same G G2 → Desc G2 cs H2 → E (cE k) none H2)
structure Fn0 (P : Program) (w : World) (K : PySem.W.Frag) (mg : Str → Option Value) (base : Heap) (CX : CXT) (k : Nat) (x : Str) (n : Nat) (sp : Sp) : Prop where
  ex : ∃ (f : Addr) (fd : FuncData) (ps : List Str), FnOk P w K mg base CX k f fd ps sp ∧ mg x = some (.ref f) ∧ PySem.W.keepIn K (.ref f) = true ∧ Binds K fd ps [] ∧ ps.length = n
/-- what is wanted at a def's end -/
def PoF {ε O : Type} [Inhabited O] (cs : Cells) (r : O → Hp → V → Prop) : Po ε Unit Empty O :=
  { nx := fun _ _ G2 cs2 => (∃ loc, cs2 = loc ++ cs) ∧ r default G2 .non, lp := fun l => l.elim, rt := fun o G2 cs2 v => (∃ loc, cs2 = loc ++ cs) ∧ r o G2 v, er := fun _ _ _ cs2 => ∃ loc, cs2 = loc ++ cs }
section
variable {P : Program} {w : World} {K : PySem.W.Frag} {mg : Str → Option Value} {base : Heap}
theorem fn_ok {I O : Type} [Inhabited O] {x : Str} {st : Stmt} {f : Addr} {fd : FuncData} {N ps : List Str} {k : Nat} {pre : I → Hp → List V → Prop} {r : I → O → Hp → V → Prop} (F : Fun K x x st f fd) (S : FnScope N ps (defScope st))
    (body : I → Out Empty Unit Empty O) (len : ∀ i G vs, pre i G vs → vs.length = ps.length)
    (h : ∀ (cdv : Value) (A : Around) (outer : List Env) (s : Shared) (H : Hp) (E : XK) (i : I) (G : Hp) (cs : Cells) (vs : List V), Room k (A.deeper (envOfC x (defScope st) s.heap.objs.size f cdv)) → pre i G vs →
      B (cxOf CX0 P w K mg base N x (defScope st) f cdv A outer s H E).nox (fun e _ _ => e.elim) (defBody st) (start N vs) G cs (PoF cs (r i)) (body i)) :
    FnOk P w K mg base CX0 (k + 1) f fd ps (SpP pre r fun i => (body i).val) := by
  refine F.ok S (fun vs H Q E hs => ?_) (fun cdv A outer s H vs Q E hr hs => ?_)
  · obtain ⟨i, G, cs, _, hp, _⟩ := hs
    exact len i G vs hp
  · obtain ⟨i, G, cs, d, hp, q⟩ := hs
    refine ⟨_, sSs _ (defBody st), h cdv A outer s H E i G cs vs hr hp H d _ ?_⟩
    cases hb : body i with
    | nx u =>
      rintro σ2 G2 cs2 H2 s2 d2 ⟨⟨loc, rfl⟩, hr2⟩
      refine q _ G2 H2 s2 d2.drop ?_
      dsimp only
      rw [hb]
      exact hr2
    | bk l => exact l.elim
    | ct l => exact l.elim
    | rt o =>
      rintro v G2 cs2 H2 s2 d2 ⟨⟨loc, rfl⟩, hr2⟩
      refine q _ G2 H2 s2 d2.drop ?_
      dsimp only
      rw [hb]
      exact hr2
    | er e => exact e.elim
theorem fn_mk {I O : Type} [Inhabited O] {x : Str} {st : Stmt} {f : Addr} {fd : FuncData} {N ps : List Str} {k : Nat} {pre : I → Hp → List V → Prop} {r : I → O → Hp → V → Prop} (F : Fun K x x st f fd) (S : FnScope N ps (defScope st)) (b : Binds K fd ps []) (hmg : mg x = some (.ref f))
    (body : I → Out Empty Unit Empty O) (len : ∀ i G vs, pre i G vs → vs.length = ps.length)
    (h : ∀ (cdv : Value) (A : Around) (outer : List Env) (s : Shared) (H : Hp) (E : XK) (i : I) (G : Hp) (cs : Cells) (vs : List V), Room k (A.deeper (envOfC x (defScope st) s.heap.objs.size f cdv)) → pre i G vs →
      B (cxOf CX0 P w K mg base N x (defScope st) f cdv A outer s H E).nox (fun e _ _ => e.elim) (defBody st) (start N vs) G cs (PoF cs (r i)) (body i)) :
    Fn0 P w K mg base CX0 (k + 1) x ps.length (SpP pre r fun i => (body i).val) :=
  ⟨f, fd, ps, fn_ok F S body len h, hmg, F.kp, b, rfl⟩
theorem fn_okE {ε I O : Type} [Inhabited O] {cE : ε → Value} {x : Str} {st : Stmt} {f : Addr} {fd : FuncData} {N ps : List Str} {k : Nat} {pre : I → Hp → List V → Prop} {r : I → O → Hp → V → Prop} (F : Fun K x x st f fd) (S : FnScope N ps (defScope st))
    (body : I → Out ε Unit Empty O) (len : ∀ i G vs, pre i G vs → vs.length = ps.length)
    (h : ∀ (cdv : Value) (A : Around) (outer : List Env) (s : Shared) (H : Hp) (E : XK) (i : I) (G : Hp) (cs : Cells) (vs : List V), Room k (A.deeper (envOfC x (defScope st) s.heap.objs.size f cdv)) → pre i G vs →
      B (cxOf (L2.CX P w) P w K mg base N x (defScope st) f cdv A outer s H E) (fun e _ H => E (cE e) none H) (defBody st) (start N vs) G cs (PoF cs (r i)) (body i)) :
    FnOk P w K mg base (L2.CX P w) (k + 1) f fd ps (SpE cE pre r fun i => (body i).res) := by
  refine F.okX S (fun vs H Q E hs => ?_) (fun cdv A outer s H vs Q E hr hs => ?_)
  · obtain ⟨i, G, cs, _, hp, _⟩ := hs
    exact len i G vs hp
  · obtain ⟨i, G, cs, d, hp, q⟩ := hs
    refine ⟨_, sSs _ (defBody st), h cdv A outer s H E i G cs vs hr hp H d _ ?_⟩
    cases hb : body i with
    | nx u =>
      dsimp only at q
      rw [hb] at q
      rintro σ2 G2 cs2 H2 s2 d2 ⟨⟨loc, rfl⟩, hr2⟩
      exact q _ G2 H2 s2 d2.drop hr2
    | bk l => exact l.elim
    | ct l => exact l.elim
    | rt o =>
      dsimp only at q
      rw [hb] at q
      rintro v G2 cs2 H2 s2 d2 ⟨⟨loc, rfl⟩, hr2⟩
      exact q _ G2 H2 s2 d2.drop hr2
    | er e =>
      dsimp only at q
      rw [hb] at q
      rintro σ2 G2 cs2 H2 s2 d2 ⟨loc, rfl⟩
      exact q G2 H2 s2 d2.drop
theorem fn_mkE {ε I O : Type} [Inhabited O] {cE : ε → Value} {x : Str} {st : Stmt} {f : Addr} {fd : FuncData} {N ps : List Str} {k : Nat} {pre : I → Hp → List V → Prop} {r : I → O → Hp → V → Prop} (F : Fun K x x st f fd) (S : FnScope N ps (defScope st)) (b : Binds K fd ps []) (hmg : mg x = some (.ref f))
    (body : I → Out ε Unit Empty O) (len : ∀ i G vs, pre i G vs → vs.length = ps.length)
    (h : ∀ (cdv : Value) (A : Around) (outer : List Env) (s : Shared) (H : Hp) (E : XK) (i : I) (G : Hp) (cs : Cells) (vs : List V), Room k (A.deeper (envOfC x (defScope st) s.heap.objs.size f cdv)) → pre i G vs →
      B (cxOf (L2.CX P w) P w K mg base N x (defScope st) f cdv A outer s H E) (fun e _ H => E (cE e) none H) (defBody st) (start N vs) G cs (PoF cs (r i)) (body i)) :
    Fn0 P w K mg base (L2.CX P w) (k + 1) x ps.length (SpE cE pre r fun i => (body i).res) :=
  ⟨f, fd, ps, fn_okE F S body len h, hmg, F.kp, b, rfl⟩
end
section
variable {X : Cx} {σ : L2.St} {G : Hp} {cs : Cells} {e : Expr} {es : List Expr} {pos p : Pos}
/-- a call of a def that raises nothing -/
theorem d_call {I O : Type} {pre : I → Hp → List V → Prop} {r : I → O → Hp → V → Prop} {m : I → O} {k j n : Nat} {x : Str} {Ps : Hp → List V → Prop} (i : I) (F : Fn0 X.prog X.w X.K X.mg X.base CX0 k x n (SpP pre r m)) (hr : Room j X.A) (hk : k ≤ j)
    (ha : A X (e :: es) σ G cs Ps) (hp : ∀ G1 vs, Same G G1 → Ps G1 vs → pre i G1 vs) (hg : Gl X x := by rfl) (hd : (x == ("__debug__" : Str)) = false := by decide)
    (he : starEach (e :: es) X.env = (false, eval e X.env) :: starEach es X.env := by exact star_plain rfl) (hpl : (backTo pos (starEach es X.env)).any (·.1) = false := by rfl) : D X (.Call (.Name x p) (e :: es) [] pos) σ G cs (r i (m i)) := by
  obtain ⟨f, fd, ps, F, hm, kp, b, _⟩ := F.ex
  refine d_by (pe_call F (hr.mono hk) hg hm kp b .nil pass0 (sA X _) (hdb := hd) (he := he) (hpl := hpl)) fun G1 H s d Q q => ha G1 H s d _ fun G2 H2 vs s2 d2 hvs => ?_
  refine ⟨i, G2, cs, d2, ?_, fun v G3 H3 s3 d3 hv => q G3 H3 v (s2.trans s3) d3 hv⟩
  rw [List.append_nil]
  exact hp G2 vs (s.trans s2) hvs
theorem d_callQ {I O : Type} {pre : I → Hp → List V → Prop} {r : I → O → Hp → V → Prop} {m : I → O} {k j n : Nat} {x : Str} {Ps : Hp → List V → Prop} {P : Hp → V → Prop} (i : I) (F : Fn0 X.prog X.w X.K X.mg X.base CX0 k x n (SpP pre r m)) (hr : Room j X.A) (hk : k ≤ j)
    (ha : A X (e :: es) σ G cs Ps) (hp : ∀ G1 vs, Same G G1 → Ps G1 vs → pre i G1 vs) (hP : ∀ G v, r i (m i) G v → P G v) (hg : Gl X x := by rfl) (hd : (x == ("__debug__" : Str)) = false := by decide)
    (he : starEach (e :: es) X.env = (false, eval e X.env) :: starEach es X.env := by exact star_plain rfl) (hpl : (backTo pos (starEach es X.env)).any (·.1) = false := by rfl) : D X (.Call (.Name x p) (e :: es) [] pos) σ G cs P :=
  (d_call i F hr hk ha hp hg hd he hpl).imp hP
end
end J

namespace J
open PySem L2 PyProof.Rows
section
variable {X : Cx}
/-- two readable lists end to end -/
def rCatW (K : PySem.W.Frag) : R2 := fun x y H Q => ∃ l b xs zs, x = .ref l ∧ y = .ref b ∧ SqL K H l xs ∧ SqL K H b zs ∧ xs.length + zs.length ≤ sizeLine ∧ ∀ p, H p = none → Q (.ref p) (upd H p (.lst (xs ++ zs)))
theorem op_catW : OpR X (binaryOp .Add) (rCatW X.K) := by
  intro pins s σ H x y v u Q I rx ry h
  obtain ⟨l, b, xs, zs, rfl, rfl, hH, hB, hz, q⟩ := h
  cases rx
  cases ry
  obtain ⟨its, r, p1, _⟩ := I.list hH
  obtain ⟨its2, r2, p2, _⟩ := I.list hB
  have e1 := r.length
  have e2 := r2.length
  obtain ⟨⟨c1, d1, da1, sl1⟩, n1, g1, h1, _, k1⟩ := p1
  obtain ⟨⟨c2, d2, da2, sl2⟩, n2, g2, h2, _, k2⟩ := p2
  dsimp only at h1 k1 h2 k2
  subst h1 k1 h2 k2
  have hsz : its.toArray.size + its2.toArray.size ≤ sizeLine := by
    rw [List.size_toArray, List.size_toArray]
    omega
  have ea : its.toArray ++ its2.toArray = (its ++ its2).toArray := by simp
  refine concat_meets ⟨_, g1, rfl⟩ ⟨_, g2, rfl⟩ noFill_list_add seq_list_add PySem.F.slot_list_add PySem.F.entry_list_add (PySem.F.args_list_add_2 _ _)
    (list_addW l b its.toArray its2.toArray n1 n2 d1 d2 sl1 sl2 hsz) ⟨g1, g2, ?_⟩
  rw [ea]
  refine ⟨.ref s.heap.objs.size, _, I.lnew (t' := s.toks) (r.append r2) ?_, rfl, q _ I.fresh⟩
  rw [List.length_append]
  exact hz
end
section
variable {X : Cx} {σ : L2.St} {G : Hp} {cs : Cells} {a b : Expr} {pos : Pos} {α : Type} {r : α → Hp → V → Prop} {xs ys : List α}
theorem n_cat [∀ x, Mono (r x)] (ha : D X a σ G cs (rdL X.K cs r xs)) (hb : D X b σ G cs (rdL X.K cs r ys)) (hl : xs.length + ys.length ≤ sizeLine) : N X (.BinOp a .Add b pos) σ G cs r (xs ++ ys) := fun G1 H s d Q q =>
  uE (pe_op op_catW (sE X a) (sE X b)) (ha G1 H s d _ fun G2 H2 x s2 d2 hx => hb G2 H2 (s.trans s2) d2 _ fun G3 H3 y s3 d3 hy => by
    obtain ⟨l, vs, e, h1, h2⟩ := (Mono.mono s3 hx).sq d3
    obtain ⟨l', vs', e', h1', h2'⟩ := hy.sq d3
    exact ⟨l, l', vs, vs', e, e', h1, h1', by rw [← h2.length, ← h2'.length]; exact hl, fun p hp => q G3 _ p _ (s2.trans s3) (d3.newCell hp _) (Rs.append h2' h2)⟩)
end

/-! ### == of data -/
class EqR {α : Type} (K : PySem.W.Frag) (r : α → Hp → V → Prop) where
  toD : α → PyData
  ok : α → Prop
  dep : Nat
  dp : ∀ {x G H v}, r x G v → Same G H → Dp K H v (toD x)
  lay : ∀ {x}, ok x → (toD x).canLay0 = true
  deep : ∀ x, (toD x).depth ≤ dep
  eqv : ∀ x y, PyData.eqv (toD x) (toD y) = true ↔ x = y
instance (K : PySem.W.Frag) : EqR K rI where
  toD := .int
  ok _ := True
  dep := 1
  dp h _ := by cases h; exact .int _
  lay _ := rfl
  deep x := by unfold PyData.depth; omega
  eqv x y := by
    unfold PyData.eqv
    exact beq_iff_eq
instance (K : PySem.W.Frag) : EqR K rB where
  toD := .bool
  ok _ := True
  dep := 1
  dp h _ := by cases h; exact .bl _
  lay _ := rfl
  deep x := by unfold PyData.depth; omega
  eqv x y := by
    unfold PyData.eqv
    exact beq_iff_eq
instance (K : PySem.W.Frag) : EqR K rS where
  toD l := .str (SX.S l)
  ok l := ∀ c ∈ l, c < 1114112
  dep := 1
  dp h _ := by cases h; exact .str _
  lay {x} h := by
    unfold PyData.canLay0 PySem.PyData.strOk
    show (SX.S x).cps.all _ = true
    rw [← Array.all_toList]
    exact List.all_eq_true.mpr fun c hc => decide_eq_true (h c hc)
  deep x := by unfold PyData.depth; omega
  eqv x y := by
    unfold PyData.eqv
    rw [SX.S_beq]
    exact beq_iff_eq
theorem dpAll {K : PySem.W.Frag} {α : Type} {r : α → Hp → V → Prop} [q : EqR K r] {G H : Hp} (s : Same G H) : ∀ {xs : List α} {vs : List V}, Rs r G xs vs → DpAll K H vs (xs.map q.toD)
  | _, _, .nil => .nil
  | _, _, .cons h t => .cons (q.dp h s) (dpAll s t)
theorem layAll {K : PySem.W.Frag} {α : Type} {r : α → Hp → V → Prop} [q : EqR K r] : ∀ {xs : List α}, (∀ x ∈ xs, q.ok x) → PyData.canLayAll0 (xs.map q.toD) = true
  | [], _ => by rw [List.map_nil]; unfold PyData.canLayAll0; rfl
  | x :: xs, h => by
    rw [List.map_cons]
    unfold PyData.canLayAll0
    rw [Bool.and_eq_true]
    exact ⟨q.lay (h x List.mem_cons_self), layAll fun y hy => h y (List.mem_cons_of_mem _ hy)⟩
theorem deepAll {K : PySem.W.Frag} {α : Type} {r : α → Hp → V → Prop} [q : EqR K r] : ∀ (xs : List α), PyData.depthAll (xs.map q.toD) ≤ q.dep
  | [] => by rw [List.map_nil]; unfold PyData.depthAll; omega
  | x :: xs => by
    rw [List.map_cons]
    unfold PyData.depthAll
    exact Nat.max_le.mpr ⟨q.deep x, deepAll xs⟩
theorem eqvAll {K : PySem.W.Frag} {α : Type} {r : α → Hp → V → Prop} [q : EqR K r] : ∀ (xs ys : List α), PyData.eqvAll (xs.map q.toD) (ys.map q.toD) = true ↔ xs = ys
  | [], [] => by rw [List.map_nil]; unfold PyData.eqvAll; simp
  | [], y :: ys => by rw [List.map_nil, List.map_cons]; unfold PyData.eqvAll; simp
  | x :: xs, [] => by rw [List.map_nil, List.map_cons]; unfold PyData.eqvAll; simp
  | x :: xs, y :: ys => by
    rw [List.map_cons, List.map_cons]
    unfold PyData.eqvAll
    rw [Bool.and_eq_true, q.eqv, eqvAll xs ys]
    simp
instance (K : PySem.W.Frag) {α : Type} (r : α → Hp → V → Prop) [q : EqR K r] : EqR K (rL K r) where
  toD xs := .list (xs.map q.toD)
  ok xs := ∀ x ∈ xs, q.ok x
  dep := q.dep + 1
  dp h s := by
    obtain ⟨a, vs, rfl, h1, h2⟩ := h
    exact .lst (s.seq h1) (dpAll s h2)
  lay h := by
    unfold PyData.canLay0
    exact layAll h
  deep xs := by
    unfold PyData.depth
    have := deepAll (K := K) (r := r) xs
    omega
  eqv xs ys := by
    unfold PyData.eqv
    rw [eqvAll]
/-- the places of a tuple as data -/
class EqT {α : Type} (K : PySem.W.Frag) (r : α → Hp → List V → Prop) where
  toD : α → List PyData
  ok : α → Prop
  dep : Nat
  dp : ∀ {x G H vs}, r x G vs → Same G H → DpAll K H vs (toD x)
  lay : ∀ {x}, ok x → PyData.canLayAll0 (toD x) = true
  deep : ∀ x, PyData.depthAll (toD x) ≤ dep
  eqv : ∀ x y, PyData.eqvAll (toD x) (toD y) = true ↔ x = y
instance (K : PySem.W.Frag) {α : Type} (r : α → Hp → V → Prop) [q : EqR K r] : EqT K (c0 r) where
  toD x := [q.toD x]
  ok x := q.ok x
  dep := q.dep
  dp h s := by
    obtain ⟨v, rfl, h1⟩ := h
    exact .cons (q.dp h1 s) .nil
  lay h := by
    unfold PyData.canLayAll0
    rw [q.lay h]
    rfl
  deep x := by
    unfold PyData.depthAll
    exact Nat.max_le.mpr ⟨q.deep x, by unfold PyData.depthAll; omega⟩
  eqv x y := by
    unfold PyData.eqvAll
    rw [Bool.and_eq_true, q.eqv]
    exact ⟨fun h => h.1, fun h => ⟨h, by unfold PyData.eqvAll; rfl⟩⟩
instance (K : PySem.W.Frag) {α β : Type} (r : α → Hp → V → Prop) (r' : β → Hp → List V → Prop) [q : EqR K r] [q' : EqT K r'] : EqT K (cc r r') where
  toD x := q.toD x.1 :: q'.toD x.2
  ok x := q.ok x.1 ∧ q'.ok x.2
  dep := max q.dep q'.dep
  dp h s := by
    obtain ⟨v, ws, rfl, h1, h2⟩ := h
    exact .cons (q.dp h1 s) (q'.dp h2 s)
  lay h := by
    unfold PyData.canLayAll0
    rw [q.lay h.1, q'.lay h.2]
    rfl
  deep x := by
    unfold PyData.depthAll
    have h1 := q.deep x.1
    have h2 := q'.deep x.2
    exact Nat.max_le.mpr ⟨Nat.le_trans h1 (Nat.le_max_left _ _), Nat.le_trans h2 (Nat.le_max_right _ _)⟩
  eqv x y := by
    unfold PyData.eqvAll
    rw [Bool.and_eq_true, q.eqv, q'.eqv]
    exact ⟨fun h => Prod.ext h.1 h.2, fun h => by rw [h]; exact ⟨rfl, rfl⟩⟩
instance (K : PySem.W.Frag) {α : Type} (r : α → Hp → List V → Prop) [q : EqT K r] : EqR K (rT K r) where
  toD x := .tuple (q.toD x)
  ok x := q.ok x
  dep := q.dep + 1
  dp h s := by
    obtain ⟨a, vs, rfl, h1, h2⟩ := h
    exact .tup (seqT s h1) (q.dp h2 s)
  lay h := by
    unfold PyData.canLay0
    exact q.lay h
  deep x := by
    unfold PyData.depth
    have := q.deep x
    omega
  eqv x y := by
    unfold PyData.eqv
    rw [q.eqv]
section
variable {X : Cx} {σ : L2.St} {G : Hp} {cs : Cells} {a b : Expr} {pos : Pos} {α : Type} {r : α → Hp → V → Prop} {x y : α}
theorem shp {K : PySem.W.Frag} [q : EqR K r] (h : q.ok x) (hd : q.dep ≤ 64) : SeqAt.shaped (q.toD x) = true := by
  unfold SeqAt.shaped
  rw [q.lay h, decide_eq_true (Nat.le_trans (q.deep x) hd)]
  rfl
theorem eqv_dec {K : PySem.W.Frag} [q : EqR K r] [DecidableEq α] : PyData.eqv (q.toD x) (q.toD y) = decide (x = y) := by
  by_cases h : x = y
  · rw [decide_eq_true h, (q.eqv x y).mpr h]
  · rw [decide_eq_false h]
    cases e : PyData.eqv (q.toD x) (q.toD y) with
    | false => rfl
    | true => exact absurd ((q.eqv x y).mp e) h
variable [DecidableEq α] [∀ z, Mono (r z)] {k : Nat}
theorem d_eqD {K : PySem.W.Frag} [q : EqR K r] (hr : Room k X.A) (ha : D X a σ G cs (r x)) (hb : D X b σ G cs (r y)) (hx : q.ok x) (hy : q.ok y) (hd : q.dep ≤ 64 := by exact Nat.le_of_ble_eq_true rfl) (hK : X.K = K := by rfl) : D X (.Compare a [.Eq] [b] pos) σ G cs (rB (decide (x = y))) := by
  subst hK
  exact d_cmp (op_eqD (Nat.lt_of_le_of_lt (by omega) hr.un)) (nomark _) ha hb fun G1 H u v s d hu hv Q qq => ⟨_, _, q.dp hu d.same, q.dp hv d.same, shp hx hd, shp hy hd, by rw [eqv_dec]; exact qq⟩
theorem t_eqD {K : PySem.W.Frag} [q : EqR K r] (hr : Room k X.A) (ha : D X a σ G cs (r x)) (hb : D X b σ G cs (r y)) (hx : q.ok x) (hy : q.ok y) (hd : q.dep ≤ 64 := by exact Nat.le_of_ble_eq_true rfl) (hK : X.K = K := by rfl) : T X (.Compare a [.Eq] [b] pos) σ G cs (decide (x = y)) := by
  subst hK
  exact t_cmp (op_eqD (Nat.lt_of_le_of_lt (by omega) hr.un)) (nomark _) ha hb fun G1 H u v s d hu hv Q qq => ⟨_, _, q.dp hu d.same, q.dp hv d.same, shp hx hd, shp hy hd, by rw [eqv_dec]; exact qq⟩
theorem d_neD {K : PySem.W.Frag} [q : EqR K r] (hr : Room k X.A) (ha : D X a σ G cs (r x)) (hb : D X b σ G cs (r y)) (hx : q.ok x) (hy : q.ok y) (hd : q.dep ≤ 64 := by exact Nat.le_of_ble_eq_true rfl) (hK : X.K = K := by rfl) : D X (.Compare a [.NotEq] [b] pos) σ G cs (rB (!decide (x = y))) := by
  subst hK
  exact d_cmp (op_neD (Nat.lt_of_le_of_lt (by omega) hr.un)) (nomark _) ha hb fun G1 H u v s d hu hv Q qq => ⟨_, _, q.dp hu d.same, q.dp hv d.same, shp hx hd, shp hy hd, by rw [eqv_dec]; exact qq⟩
theorem t_neD {K : PySem.W.Frag} [q : EqR K r] (hr : Room k X.A) (ha : D X a σ G cs (r x)) (hb : D X b σ G cs (r y)) (hx : q.ok x) (hy : q.ok y) (hd : q.dep ≤ 64 := by exact Nat.le_of_ble_eq_true rfl) (hK : X.K = K := by rfl) : T X (.Compare a [.NotEq] [b] pos) σ G cs (!decide (x = y)) := by
  subst hK
  exact t_cmp (op_neD (Nat.lt_of_le_of_lt (by omega) hr.un)) (nomark _) ha hb fun G1 H u v s d hu hv Q qq => ⟨_, _, q.dp hu d.same, q.dp hv d.same, shp hx hd, shp hy hd, by rw [eqv_dec]; exact qq⟩
end
/-! ### places, by the whole numbers that name them -/
def ixg {α : Type} [Inhabited α] (xs : List α) (i : Int) : α := (atI xs i).getD default
theorem atI_ixg {α : Type} [Inhabited α] {xs : List α} {i : Int} (h : -(xs.length : Int) ≤ i ∧ i < (xs.length : Int)) : atI xs i = some (ixg xs i) := by
  unfold ixg
  have : ∃ x, atI xs i = some x := by
    by_cases h0 : 0 ≤ i
    · exact ⟨_, atI_lt h0 h.2⟩
    · have e : i = -((-i).toNat : Int) := by omega
      rw [e]
      exact ⟨_, atI_neg (by omega) (by omega)⟩
  obtain ⟨x, e⟩ := this
  rw [e]
  rfl
theorem ixg_nat {α : Type} [Inhabited α] {xs : List α} {i : Int} (h0 : 0 ≤ i) (h1 : i < (xs.length : Int)) : ixg xs i = xs.getD i.toNat default := by
  unfold ixg
  rw [atI_lt h0 h1]
  rfl
theorem ixg_mem {α : Type} [Inhabited α] {xs : List α} {i : Int} (h0 : 0 ≤ i) (h1 : i < (xs.length : Int)) : ixg xs i ∈ xs := by
  rw [ixg_nat h0 h1]
  have h : i.toNat < xs.length := by omega
  have e : xs.getD i.toNat default = xs[i.toNat] := by simp [h]
  rw [e]
  exact List.getElem_mem h
end J

namespace J
open PySem L2 PyProof.Rows
section
variable {ε S L R : Type} {X : Cx} {W : ε → L2.St → Hp → Prop} {σ : L2.St} {G : Hp} {cs : Cells} {Φ : Po ε S L R} {m : Out ε S L R} {sts rest : List Stmt} {e tg : Expr} {P : Hp → V → Prop} {pos p : Pos}
theorem letV_intro {α : Type} {y : α} {f : α → Out ε S L R} (h : ∀ z, z = y → B X W sts σ G cs Φ (f z)) : B X W sts σ G cs Φ (letV y f) := h y rfl
theorem b_augAddV (i : Nat) {x : Str} {p' : Pos} {z y : Int} {f : Int → Out ε S L R} (hN : X.N.Nodup) (hz : σ[i]? = some (some (.int z))) (he : D X e σ G cs (rI y)) (k : ∀ u, u = z + y → ∀ G1, Same G G1 → B X W rest (σ.set i (some (.int u))) G1 cs Φ (f u)) (hi : X.N[i]? = some x := by rfl) (hx : Loc X.env.scope x := by first | exact Or.inl rfl | exact Or.inr rfl)
    (hf : X.fn x = true ∨ X.env.scope.names.lookup x = some .local := by first | exact .inl rfl | exact .inr rfl) : B X W (.AugAssign (.Name x p') .Add e pos :: rest) σ G cs Φ (letV (z + y) f) :=
  b_augAdd i hN hz he (fun G1 s1 => k _ rfl G1 s1) hi hx hf
theorem b_augSubV (i : Nat) {x : Str} {p' : Pos} {z y : Int} {f : Int → Out ε S L R} (hN : X.N.Nodup) (hz : σ[i]? = some (some (.int z))) (he : D X e σ G cs (rI y)) (k : ∀ u, u = z - y → ∀ G1, Same G G1 → B X W rest (σ.set i (some (.int u))) G1 cs Φ (f u)) (hi : X.N[i]? = some x := by rfl) (hx : Loc X.env.scope x := by first | exact Or.inl rfl | exact Or.inr rfl)
    (hf : X.fn x = true ∨ X.env.scope.names.lookup x = some .local := by first | exact .inl rfl | exact .inr rfl) : B X W (.AugAssign (.Name x p') .Sub e pos :: rest) σ G cs Φ (letV (z - y) f) :=
  b_augSub i hN hz he (fun G1 s1 => k _ rfl G1 s1) hi hx hf
theorem b_asgV {α : Type} {r : α → Hp → V → Prop} {y : α} {f : α → Out ε S L R} {Sx : α → Hp → L2.St → L2.St → Prop} (he : D X e σ G cs (r y)) (ht : Tg X tg r Sx) (k : ∀ z, z = y → ∀ σ' G1, Same G G1 → Sx z G1 σ σ' → B X W rest σ' G1 cs Φ (f z))
    (hs : swapsWithSole [tg] e pos.line X.env = pure false := by rfl) (hw : swappedStores [tg] e X.env = pure none := by rfl) (h1 : (assignEach [tg] X.env).map (·.2) = [assign tg X.env] := by rfl) : B X W (.Assign [tg] e pos :: rest) σ G cs Φ (letV y f) :=
  b_asg he ht (fun σ' G1 s1 h => k y rfl σ' G1 s1 h) hs hw h1
end
theorem wipe1 {σ : L2.St} {i : Nat} {x : Option V} : wipe ((wipe σ [i]).set i x) [i] = wipe σ [i] := by
  show (((σ.set i none).set i x).set i none) = σ.set i none
  rw [List.set_set, List.set_set]
theorem divS {i j : Int} (h : 0 < j) (hb : j < 2 ^ 62) : CDivW i j := wide_div (b := 62) h (by omega) (by decide) (by decide)
theorem pk_true {X : Cx} {kn : Option Str} {jj : Nat} {p2 p3 : Pos} : PK X [⟨kn, .Constant (.bool true) jj p2, p3⟩] (fun _ H Q => Q [.bl true] H) := pk_cons pe_bl pk_nil
end J
namespace J
theorem enum_mem {α : Type} {xs : List α} {p : Int × α} (h : p ∈ enumL xs) : p.2 ∈ xs := by
  obtain ⟨i, hi⟩ := List.getElem?_of_mem h
  exact List.mem_of_getElem? (enumL_getE hi).2
theorem enum_bd {α : Type} {xs : List α} {p : Int × α} (h : p ∈ enumL xs) : 0 ≤ p.1 ∧ p.1 < (xs.length : Int) := by
  obtain ⟨i, hi⟩ := List.getElem?_of_mem h
  obtain ⟨e1, e2⟩ := enumL_getE hi
  have := (List.getElem?_eq_some_iff.mp e2).1
  omega
end J
namespace J
theorem ix_mod {a : Int} {n : Nat} (h : 0 < n) : -(n : Int) ≤ a % (n : Int) ∧ a % (n : Int) < (n : Int) := by
  have h1 := Int.emod_nonneg a (show (n : Int) ≠ 0 by omega)
  have h2 := Int.emod_lt_of_pos a (show (0 : Int) < n by omega)
  omega
/-- a loop that always goes on is a fold -/
theorem forL_fold {ε S L R α : Type} {f : S → α → Out ε S S R} {g : S → α → S} : ∀ {xs : List α} {s : S}, (∀ s x, x ∈ xs → f s x = .nx (g s x)) → (forL f s xs : Out ε S L R) = .nx (xs.foldl g s)
  | [], _, _ => rfl
  | x :: xs, s, h => by
    rw [forL_cons, h s x List.mem_cons_self]
    exact forL_fold fun s y hy => h s y (List.mem_cons_of_mem _ hy)
/-- an invariant of a loop that always goes on -/
theorem forL_inv {ε S L R α : Type} {f : S → α → Out ε S S R} (P : Nat → S → Prop) : ∀ {xs : List α} {s : S} {n : Nat}, P n s → (∀ n s x, x ∈ xs → P n s → ∃ s', f s x = .nx s' ∧ P (n + 1) s') → ∃ s', (forL f s xs : Out ε S L R) = .nx s' ∧ P (n + xs.length) s'
  | [], s, n, h, _ => ⟨s, rfl, h⟩
  | x :: xs, s, n, h, st => by
    obtain ⟨s1, e1, h1⟩ := st n s x List.mem_cons_self h
    obtain ⟨s2, e2, h2⟩ := forL_inv (L := L) P (xs := xs) h1 fun n s y hy => st n s y (List.mem_cons_of_mem _ hy)
    refine ⟨s2, ?_, ?_⟩
    · rw [forL_cons, e1]
      exact e2
    · rw [List.length_cons, show n + (xs.length + 1) = n + 1 + xs.length by omega]
      exact h2
/-- .. by the item -/
theorem forL_all {ε S L R α : Type} {f : S → α → Out ε S S R} (P : S → Prop) {xs : List α} {s : S} (h : P s) (st : ∀ s x, x ∈ xs → P s → ∃ s', f s x = .nx s' ∧ P s') : ∃ s', (forL f s xs : Out ε S L R) = .nx s' ∧ P s' :=
  forL_inv (fun _ => P) (n := 0) h fun _ s x hx hp => st s x hx hp
end J
namespace J
theorem letV_elim {α β : Type} {y : α} {f : α → β} {m : β} (h : ∀ z, z = y → f z = m) : letV y f = m := h y rfl
theorem ifB {α : Type} {c : Bool} {a b m : α} (hc : c = false) (h : b = m) : (if c = true then a else b) = m := by
  subst hc
  rw [if_neg Bool.false_ne_true]
  exact h
theorem ifT {α : Type} {c : Bool} {a b m : α} (hc : c = true) (h : a = m) : (if c = true then a else b) = m := by
  subst hc
  rw [if_pos rfl]
  exact h
theorem bind_elim {ε S S' L R : Type} {m : Out ε S L R} {k : S → Out ε S' L R} {o : Out ε S' L R} {s : S} (e : m = .nx s) (h : k s = o) : m.bind k = o := by
  rw [e]
  exact h
/-- a loop all of whose turns go on with nothing -/
theorem forL_unit {ε L R α : Type} {f : Unit → α → Out ε Unit Unit R} {xs : List α} (h : ∀ x, x ∈ xs → f () x = .nx ()) : (forL f () xs : Out ε Unit L R) = .nx () := by
  obtain ⟨_, e, _⟩ := forL_all (L := L) (fun _ : Unit => True) (f := f) (xs := xs) (s := ()) trivial fun _ x hx _ => ⟨(), h x hx, trivial⟩
  exact e
end J

namespace J
open PySem L2 PyProof.Rows

/-! ### outcomes of what may raise -/
def callE {ε S L R O : Type} (m : Except ε O) (k : O → Out ε S L R) : Out ε S L R := match m with
  | .ok o => k o
  | .error e => .er e
@[simp] theorem callE_ok {ε S L R O : Type} (o : O) (k : O → Out ε S L R) : callE (.ok o) k = k o := rfl
@[simp] theorem callE_er {ε S L R O : Type} (e : ε) (k : O → Out ε S L R) : callE (.error e) k = .er e := rfl
def tryO {ε' ε S L R : Type} (m : Out ε' S L R) (h : ε' → Out ε S L R) : Out ε S L R := match m with
  | .nx s => .nx s
  | .bk l => .bk l
  | .ct l => .ct l
  | .rt r => .rt r
  | .er e => h e
@[simp] theorem tryO_nx {ε' ε S L R : Type} (s : S) (h : ε' → Out ε S L R) : tryO (.nx s : Out ε' S L R) h = .nx s := rfl
@[simp] theorem tryO_rt {ε' ε S L R : Type} (r : R) (h : ε' → Out ε S L R) : tryO (.rt r : Out ε' S L R) h = .rt r := rfl
@[simp] theorem tryO_er {ε' ε S L R : Type} (e : ε') (h : ε' → Out ε S L R) : tryO (.er e : Out ε' S L R) h = h e := rfl
/-- what it gives, if it gives anything -/
def okV {ε O : Type} [Inhabited O] (m : Except ε O) : O := match m with
  | .ok o => o
  | .error _ => default
@[simp] theorem okV_ok {ε O : Type} [Inhabited O] (o : O) : okV (.ok o : Except ε O) = o := rfl

/-! ### the errors of a law: n classes, each right under the one at B -/
structure ErrOne (K : PySem.W.Frag) (mg : Str → Option Value) (x : Str) (C B : Addr) : Prop where
  ex : PySem.W.excIn K C [.type "ValueError", .type "Exception", .type "BaseException", .type "object"] "ValueError.__new__" = true
  mg : mg x = some (.ref C)
  kp : PySem.W.keepIn K (.ref C) = true
  be : PySem.W.subIn K (.ref C) (.type "BaseException") = some true
  ty : PySem.W.typeIn K (.ref C) = some (.type "type")
  cl : ExcC K C
  ca : PySem.W.exmOne K (.ref C) (.ref B) = some true
structure Errs (K : PySem.W.Frag) (mg : Str → Option Value) {n : Nat} (nm : Fin n → Str) (adr : Fin n → Addr) (B : Addr) : Prop where
  one : ∀ i, ErrOne K mg (nm i) (adr i) B
  is : ∀ i j, PySem.W.kitOne K (.ref (adr i)) (.ref (adr j)) = some (decide (i = j))
  mB : mg "BankError" = some (.ref B)
theorem kit_ref {K : PySem.W.Frag} {C D : Addr} {b : Bool} (hd : PySem.W.hasDictIn K D = true) (ht : PySem.W.typeIn K (.ref D) = some (.type "type")) (hs : PySem.W.subIn K (.ref C) (.ref D) = some b) (hc : PySem.W.subIn K (.ref D) (.ref D) = some true) : PySem.W.kitOne K (.ref C) (.ref D) = some b := by
  obtain ⟨cd, hcd, _⟩ := PySem.W.any_some hd
  unfold PySem.W.kitOne
  by_cases h : (Value.ref C == Value.ref D) = true
  · rw [if_pos h]
    have e : C = D := Value.ref.inj (beq_iff_eq.mp h)
    rw [e, hc] at hs
    exact hs
  · rw [if_neg h]
    show (if ((PySem.W.clsIn K D).isSome && PySem.W.typeIn K (.ref D) == some (.type "type")) = true then PySem.W.subIn K (.ref C) (.ref D) else none) = some b
    rw [hcd, ht, if_pos (show ((some cd).isSome && (some (Value.type "type") == some (Value.type "type"))) = true by rw [Option.isSome_some, Bool.true_and]; exact beq_self_eq_true _), hs]
/-- how an error lies in the wishes of the layer -/
abbrev wE2 {n : Nat} (adr : Fin n → Addr) (Wx : WX) : Fin n → L2.St → Hp → Prop := fun e σ H => Wx (.ref (adr e)) none σ H
abbrev cE {n : Nat} (adr : Fin n → Addr) : Fin n → Value := fun e => .ref (adr e)

section
variable {n : Nat} {nm : Fin n → Str} {adr : Fin n → Addr} {B0 : Addr}
variable {S L R : Type} {X : Cx} {Wx : WX} {σ : L2.St} {G : Hp} {cs : Cells} {st : Stmt} {rest body : List Stmt} {e : Expr} {es : List Expr} {pos p q : Pos}
/-- raise X('..') -/
theorem b_raise {Φ : Po (Fin n) S L R} {x m : Str} {j : Nat} {p2 p3 : Pos} (i : Fin n) (Er : Errs X.K X.mg nm adr B0) (hc : X.calm = true) (tk : Takes X Wx) (hx : nm i = x) (k : Φ.er i σ G cs) (hg : Gl X x := by rfl) (hd : (x == ("__debug__" : Str)) = false := by decide) :
    B X (wE2 adr Wx) (.Raise (some (.Call (.Name x p) [.Constant (.str m) j p2] [] p3)) none pos :: rest) σ G cs Φ (.er i) := by
  subst hx
  have o := Er.one i
  exact b_cons (ps_raise hc tk (pmk_own F.excBase_ValueError o.ex o.mg o.kp (raises_own o.be o.ty) hg hd)) fun H d E w => w σ G cs H (Same.refl _) d k
/-- a call that may raise, as a value of a statement -/
def DE (X : Cx) (adr : Fin n → Addr) (Wx : WX) (e : Expr) (σ : L2.St) (G : Hp) (cs : Cells) {O : Type} (P : O → Hp → V → Prop) (m : Except (Fin n) O) : Prop :=
  ∀ G1 H, Same G G1 → Desc G1 cs H → ∀ Q : VK, (match m with
    | .ok o => ∀ G2 H2 v, Same G1 G2 → Desc G2 cs H2 → P o G2 v → Q v H2
    | .error k => ∀ G2 H2, Same G1 G2 → Desc G2 cs H2 → Wx (.ref (adr k)) none σ H2) → wE X e σ H Q
theorem de_call {I O : Type} {pre : I → Hp → List V → Prop} {r : I → O → Hp → V → Prop} {m : I → Except (Fin n) O} {k j a : Nat} {x : Str} {Ps : Hp → List V → Prop} (i : I) (F : Fn0 X.prog X.w X.K X.mg X.base (L2.CX X.prog X.w) k x a (SpE (cE adr) pre r m)) (tk : Takes X Wx) (hr : Room j X.A) (hk : k ≤ j)
    (ha : A X (e :: es) σ G cs Ps) (hp : ∀ G1 vs, Same G G1 → Ps G1 vs → pre i G1 vs) (hg : Gl X x := by rfl) (hd : (x == ("__debug__" : Str)) = false := by decide)
    (he : starEach (e :: es) X.env = (false, eval e X.env) :: starEach es X.env := by exact star_plain rfl) (hpl : (backTo pos (starEach es X.env)).any (·.1) = false := by rfl) : DE X adr Wx (.Call (.Name x p) (e :: es) [] pos) σ G cs (r i) (m i) := by
  obtain ⟨f, fd, ps, F, hm, kp, b, _⟩ := F.ex
  refine fun G1 H s d Q q => uE (pe_callS F (hr.mono hk) hg hm kp b (fun σ => passAt tk σ) (sA X _) (hdb := hd) (he := he) (hpl := hpl)) ?_
  refine ha G1 H s d _ fun G2 H2 vs s2 d2 hvs => ⟨i, G2, cs, d2, hp G2 vs (s.trans s2) hvs, ?_⟩
  cases hm : m i with
  | ok o =>
    rw [hm] at q
    exact fun v G3 H3 s3 d3 hv => q G3 H3 v (s2.trans s3) d3 hv
  | error k =>
    rw [hm] at q
    exact fun G3 H3 s3 d3 => q G3 H3 (s2.trans s3) d3
theorem DE.imp {O : Type} {P P' : O → Hp → V → Prop} {m : Except (Fin n) O} (h : DE X adr Wx e σ G cs P m) (i : ∀ o G v, P o G v → P' o G v) : DE X adr Wx e σ G cs P' m := fun G1 H s d Q q => h G1 H s d Q (by
  cases m with
  | ok o => exact fun G2 H2 v s2 d2 hv => q G2 H2 v s2 d2 (i _ _ _ hv)
  | error k => exact q)
/-- a call that may raise, but does not here -/
theorem d_callS {I O : Type} {pre : I → Hp → List V → Prop} {r : I → O → Hp → V → Prop} {m : I → Except (Fin n) O} {P : Hp → V → Prop} {k j a : Nat} {x : Str} {Ps : Hp → List V → Prop} {o : O} (i : I) (F : Fn0 X.prog X.w X.K X.mg X.base (L2.CX X.prog X.w) k x a (SpE (cE adr) pre r m)) (ho : m i = .ok o) (hr : Room j X.A) (hk : k ≤ j)
    (ha : A X (e :: es) σ G cs Ps) (hp : ∀ G1 vs, Same G G1 → Ps G1 vs → pre i G1 vs) (hP : ∀ G v, r i o G v → P G v) (hg : Gl X x := by rfl) (hd : (x == ("__debug__" : Str)) = false := by decide)
    (he : starEach (e :: es) X.env = (false, eval e X.env) :: starEach es X.env := by exact star_plain rfl) (hpl : (backTo pos (starEach es X.env)).any (·.1) = false := by rfl) : D X (.Call (.Name x p) (e :: es) [] pos) σ G cs P := by
  obtain ⟨f, fd, ps, F, hm, kp, b, _⟩ := F.ex
  refine d_by (pe_callS (E := fun _ _ _ _ => False) F (hr.mono hk) hg hm kp b (fun σ pins H s u s' I c => ?_) (sA X _) (hdb := hd) (he := he) (hpl := hpl)) fun G1 H s d Q q => ?_
  · obtain ⟨_, _, _, _, _, _, _, _, _, _, _, _, z⟩ := c
    exact z.elim
  · refine ha G1 H s d _ fun G2 H2 vs s2 d2 hvs => ⟨i, G2, cs, d2, hp G2 vs (s.trans s2) hvs, ?_⟩
    rw [ho]
    exact fun v G3 H3 s3 d3 hv => q G3 H3 v (s2.trans s3) d3 (hP _ _ hv)
section
variable {Φ : Po (Fin n) S L R} {O : Type} {P : O → Hp → V → Prop} {m : Except (Fin n) O}
/-- x = f(..) -/
theorem b_setE (i : Nat) {x : Str} {g : O → Out (Fin n) S L R} (hN : X.N.Nodup) (he : DE X adr Wx e σ G cs P m) (kr : ∀ k, m = .error k → ∀ G1, Same G G1 → Φ.er k σ G1 cs)
    (k : ∀ o, m = .ok o → ∀ v G1, Same G G1 → P o G1 v → B X (wE2 adr Wx) rest (σ.set i (some v)) G1 cs Φ (g o)) (hi : X.N[i]? = some x := by rfl) (hx : Loc X.env.scope x := by first | exact Or.inl rfl | exact Or.inr rfl)
    (hs : swapsWith e (some (.Name x p)) pos.line X.env = pure false := by rfl) (hf : X.fn x = true ∨ X.env.scope.names.lookup x = some .local := by first | exact .inl rfl | exact .inr rfl) : B X (wE2 adr Wx) (.Assign [.Name x p] e pos :: rest) σ G cs Φ (callE m g) :=
  b_cons (ps_set hN hi hx (sE X e) hs hf) fun H d E w => he G H (Same.refl _) d _ (by
    cases hm : m with
    | ok o =>
      rw [hm] at w
      exact fun G2 H2 v s2 d2 hv => k o hm v G2 s2 hv H2 d2 E (Wish.up (m := g o) w s2)
    | error c =>
      rw [hm] at w
      exact fun G2 H2 s2 d2 => w σ G2 cs H2 s2 d2 (kr c hm G2 s2))
/-- return f(..) -/
theorem b_retE {g : O → R} (he : DE X adr Wx e σ G cs P m) (kr : ∀ k, m = .error k → ∀ G1, Same G G1 → Φ.er k σ G1 cs) (k : ∀ o, m = .ok o → ∀ v G1, Same G G1 → P o G1 v → Φ.rt (g o) G1 cs v) :
    B X (wE2 adr Wx) (.Return (some e) pos :: rest) σ G cs Φ (callE m fun o => .rt (g o)) :=
  b_cons (ps_ret (sE X e)) fun H d E w => he G H (Same.refl _) d _ (by
    cases hm : m with
    | ok o =>
      rw [hm] at w
      exact fun G2 H2 v s2 d2 hv => w v G2 cs H2 s2 d2 (k o hm v G2 s2 hv)
    | error c =>
      rw [hm] at w
      exact fun G2 H2 s2 d2 => w σ G2 cs H2 s2 d2 (kr c hm G2 s2))
/-- f(..) alone -/
theorem b_exprE {g : O → Out (Fin n) S L R} (he : DE X adr Wx e σ G cs P m) (kr : ∀ k, m = .error k → ∀ G1, Same G G1 → Φ.er k σ G1 cs)
    (k : ∀ o, m = .ok o → ∀ G1, Same G G1 → B X (wE2 adr Wx) rest σ G1 cs Φ (g o)) (hs : swapsWith e none pos.line X.env = pure false := by rfl) : B X (wE2 adr Wx) (.Expr e pos :: rest) σ G cs Φ (callE m g) :=
  b_cons (ps_expr (sE X e) hs) fun H d E w => he G H (Same.refl _) d _ (by
    cases hm : m with
    | ok o =>
      rw [hm] at w
      exact fun G2 H2 v s2 d2 hv => k o hm G2 s2 H2 d2 E (Wish.up (m := g o) w s2)
    | error c =>
      rw [hm] at w
      exact fun G2 H2 s2 d2 => w σ G2 cs H2 s2 d2 (kr c hm G2 s2))
end
section
variable {ε S' : Type} {Φ : Po ε S L R} {W : ε → L2.St → Hp → Prop} {suite : List Stmt} {b₀ : Stmt} {np : Pos}
/-- try: .. except BankError as x: .. -/
theorem b_tryAs {mb : Out (Fin n) S' L R} {mh : Fin n → Out ε S' L R} {g : S' → Out ε S L R} {x : Str} (i : Nat) (Mid : S' → L2.St → Hp → Cells → Prop) (Mx : Fin n → L2.St → Hp → Cells → Prop) (Er : Errs X.K X.mg nm adr B0) (hN : X.N.Nodup)
    (hb : ∀ (Wx : WX) (pn : List (Addr × Obj)) (xe : Value → Shared → Prop), Takes (X.tr pn xe) Wx → PassesOwn (model X.prog X.w) X.A X.env xe → B (X.tr pn xe) (wE2 adr Wx) body σ G cs { nx := Mid, lp := Φ.lp, rt := Φ.rt, er := Mx } mb)
    (hh : ∀ k, mb = .er k → ∀ (a : Addr) (oe : Obj) (pn : List (Addr × Obj)) (σ1 : L2.St) (G1 : Hp) (cs1 : Cells), Same G G1 → Mx k σ1 G1 cs1 → Zc (.ref (adr k)) none oe → (∃ vs, oe.data = .fields vs) →
      B (X.suite a ((a, oe) :: pn)) W (b₀ :: suite) (σ1.set i (some (.ref a))) G1 cs1 { nx := fun s σ2 => Mid s (σ2.set i none), lp := fun l σ2 => Φ.lp l (σ2.set i none), rt := Φ.rt, er := fun _ _ _ _ => False } (mh k))
    (hr : ∀ s σ2 G2 cs2, Same G G2 → Mid s σ2 G2 cs2 → tryO mb mh = .nx s → B X W rest σ2 G2 cs2 Φ (g s))
    (hs : X.stack = X.env :: X.outer := by rfl) (hf : X.env.frame = some X.env.locals := by rfl) (hi : X.N[i]? = some x := by rfl) (hln : X.env.kindOf x = some .local := by rfl) (hg : Gl X "BankError" := by rfl) :
    B X W (.Try body [.ExceptHandler (some (.Name "BankError" np)) (some x) (b₀ :: suite) q] [] [] pos :: rest) σ G cs Φ ((tryO mb mh).bind g) := by
  refine b_cons (ps_try_as (i := i) (tb := fun Wx D σ H => ∀ pn xe, Takes (X.tr pn xe) Wx → PassesOwn (model X.prog X.w) X.A X.env xe → wSs (X.tr pn xe) body D σ H) (ts := fun a cls d D σ H => ∀ oe pn, Zc cls d oe → (∃ vs, oe.data = .fields vs) → wSs (X.suite a ((a, oe) :: pn)) (b₀ :: suite) D σ H) (Wout := fun _ _ _ _ => False)
    hs hf hN hi hln ⟨hg, by decide, .inl Er.mB⟩ takes0 (fun Wx pn xe tk po => ⟨fun pins s _ _ _ I h => (h pn xe tk po).run pins s I⟩) (fun a oe cls d pn hz hfd => ⟨fun pins s _ _ _ I h => (h oe pn hz hfd).run pins s I⟩)) fun H d E w => ?_
  intro pn xe tk po
  have h1 := hb _ pn xe tk po
  refine h1 H d _ ?_
  cases hm : mb with
  | nx s =>
    rw [hm] at w hr
    exact fun σ2 G2 cs2 H2 s2 d2 p => hr s σ2 G2 cs2 s2 p rfl H2 d2 E (Wish.up (G := G) (show Wish W G Φ E (g s) from w) s2)
  | bk l =>
    rw [hm] at w
    exact fun σ2 G2 cs2 H2 s2 d2 p => w σ2 G2 cs2 H2 s2 d2 p
  | ct l =>
    rw [hm] at w
    exact fun σ2 G2 cs2 H2 s2 d2 p => w σ2 G2 cs2 H2 s2 d2 p
  | rt r =>
    rw [hm] at w
    exact fun v G2 cs2 H2 s2 d2 p => w v G2 cs2 H2 s2 d2 p
  | er k =>
    rw [hm] at w hr
    intro σ2 G2 cs2 H2 s2 d2 p
    refine ⟨true, (Er.one k).ca, fun _ a ha oe pn2 hz hfd => ?_, fun z => nomatch z⟩
    refine hh k hm a oe pn2 σ2 G2 cs2 s2 p hz hfd H2 d2 _ ?_
    have w2 : Wish W G Φ E ((mh k).bind g) := w
    have hr2 : ∀ s σ2 G2 cs2, Same G G2 → Mid s σ2 G2 cs2 → mh k = .nx s → B X W rest σ2 G2 cs2 Φ (g s) := hr
    cases hk : mh k with
    | nx s =>
      rw [hk] at w2
      exact fun σ3 G3 cs3 H3 s3 d3 p3 => hr2 s _ G3 cs3 (s2.trans s3) p3 hk H3 d3 E (Wish.up (G := G) (show Wish W G Φ E (g s) from w2) (s2.trans s3))
    | bk l =>
      rw [hk] at w2
      exact fun σ3 G3 cs3 H3 s3 d3 p3 => w2 _ G3 cs3 H3 (s2.trans s3) d3 p3
    | ct l =>
      rw [hk] at w2
      exact fun σ3 G3 cs3 H3 s3 d3 p3 => w2 _ G3 cs3 H3 (s2.trans s3) d3 p3
    | rt r =>
      rw [hk] at w2
      exact fun v G3 cs3 H3 s3 d3 p3 => w2 v G3 cs3 H3 (s2.trans s3) d3 p3
    | er e => exact fun _ _ _ _ _ _ z => z.elim
/-- try: .. except BankError: .. -/
theorem b_tryOnly {mb : Out (Fin n) S' L R} {mh : Fin n → Out ε S' L R} {g : S' → Out ε S L R} (Mid : S' → L2.St → Hp → Cells → Prop) (Mx : Fin n → L2.St → Hp → Cells → Prop) (Er : Errs X.K X.mg nm adr B0)
    (hb : ∀ (Wx : WX) (pn : List (Addr × Obj)) (xe : Value → Shared → Prop), Takes (X.tr pn xe) Wx → PassesOwn (model X.prog X.w) X.A X.env xe → B (X.tr pn xe) (wE2 adr Wx) body σ G cs { nx := Mid, lp := Φ.lp, rt := Φ.rt, er := Mx } mb)
    (hh : ∀ k, mb = .er k → ∀ (a : Addr) (oe : Obj) (pn : List (Addr × Obj)) (σ1 : L2.St) (G1 : Hp) (cs1 : Cells), Same G G1 → Mx k σ1 G1 cs1 → Zc (.ref (adr k)) none oe → (∃ vs, oe.data = .fields vs) →
      B (X.suite a ((a, oe) :: pn)) W (b₀ :: suite) σ1 G1 cs1 { nx := Mid, lp := Φ.lp, rt := Φ.rt, er := fun _ _ _ _ => False } (mh k))
    (hr : ∀ s σ2 G2 cs2, Same G G2 → Mid s σ2 G2 cs2 → tryO mb mh = .nx s → B X W rest σ2 G2 cs2 Φ (g s))
    (hs : X.stack = X.env :: X.outer := by rfl) (hf : X.env.frame = some X.env.locals := by rfl) (hg : Gl X "BankError" := by rfl) :
    B X W (.Try body [.ExceptHandler (some (.Name "BankError" np)) none (b₀ :: suite) q] [] [] pos :: rest) σ G cs Φ ((tryO mb mh).bind g) := by
  refine b_cons (ps_try_only (tb := fun Wx D σ H => ∀ pn xe, Takes (X.tr pn xe) Wx → PassesOwn (model X.prog X.w) X.A X.env xe → wSs (X.tr pn xe) body D σ H) (ts := fun a cls d D σ H => ∀ oe pn, Zc cls d oe → (∃ vs, oe.data = .fields vs) → wSs (X.suite a ((a, oe) :: pn)) (b₀ :: suite) D σ H) (Wout := fun _ _ _ _ => False)
    hs hf ⟨hg, by decide, .inl Er.mB⟩ takes0 (fun Wx pn xe tk po => ⟨fun pins s _ _ _ I h => (h pn xe tk po).run pins s I⟩) (fun a oe cls d pn hz hfd => ⟨fun pins s _ _ _ I h => (h oe pn hz hfd).run pins s I⟩)) fun H d E w => ?_
  intro pn xe tk po
  have h1 := hb _ pn xe tk po
  refine h1 H d _ ?_
  cases hm : mb with
  | nx s =>
    rw [hm] at w hr
    exact fun σ2 G2 cs2 H2 s2 d2 p => hr s σ2 G2 cs2 s2 p rfl H2 d2 E (Wish.up (G := G) (show Wish W G Φ E (g s) from w) s2)
  | bk l =>
    rw [hm] at w
    exact fun σ2 G2 cs2 H2 s2 d2 p => w σ2 G2 cs2 H2 s2 d2 p
  | ct l =>
    rw [hm] at w
    exact fun σ2 G2 cs2 H2 s2 d2 p => w σ2 G2 cs2 H2 s2 d2 p
  | rt r =>
    rw [hm] at w
    exact fun v G2 cs2 H2 s2 d2 p => w v G2 cs2 H2 s2 d2 p
  | er k =>
    rw [hm] at w hr
    intro σ2 G2 cs2 H2 s2 d2 p
    refine ⟨true, (Er.one k).ca, fun _ a ha oe pn2 hz hfd => ?_, fun z => nomatch z⟩
    refine hh k hm a oe pn2 σ2 G2 cs2 s2 p hz hfd H2 d2 _ ?_
    have w2 : Wish W G Φ E ((mh k).bind g) := w
    have hr2 : ∀ s σ2 G2 cs2, Same G G2 → Mid s σ2 G2 cs2 → mh k = .nx s → B X W rest σ2 G2 cs2 Φ (g s) := hr
    cases hk : mh k with
    | nx s =>
      rw [hk] at w2
      exact fun σ3 G3 cs3 H3 s3 d3 p3 => hr2 s _ G3 cs3 (s2.trans s3) p3 hk H3 d3 E (Wish.up (G := G) (show Wish W G Φ E (g s) from w2) (s2.trans s3))
    | bk l =>
      rw [hk] at w2
      exact fun σ3 G3 cs3 H3 s3 d3 p3 => w2 _ G3 cs3 H3 (s2.trans s3) d3 p3
    | ct l =>
      rw [hk] at w2
      exact fun σ3 G3 cs3 H3 s3 d3 p3 => w2 _ G3 cs3 H3 (s2.trans s3) d3 p3
    | rt r =>
      rw [hk] at w2
      exact fun v G3 cs3 H3 s3 d3 p3 => w2 v G3 cs3 H3 (s2.trans s3) d3 p3
    | er e => exact fun _ _ _ _ _ _ z => z.elim
end
end
end J

namespace J
open PySem PySem.Spec L2 PyProof.Rows
open L2H (RoomH PinOk cxH)

/-! ### defs that are handed the error in hand -/
/-- what a def promises that is called within an except suite: a the error, C its class -/
structure FnX (P : Program) (w : World) (K : PySem.W.Frag) (mg : Str → Option Value) (base : Heap) (k : Nat) (x : Str) (n : Nat) (sp : Addr → Addr → Sp) : Prop where
  ex : ∃ (f : Addr) (fd : FuncData) (ps : List Str), (∀ a C vs H Q E, sp a C vs H Q E → vs.length = ps.length) ∧
    (∀ (A : Around) (outer : List Env) (s : Shared) (H : Hp) (args : Args) (us : List Value) (vs : List V) (Q : VK) (E : XK) (p : Addr × Obj) (C : Addr), RoomH k A → PinOk outer H s p → Zc (.ref C) none p.2 → (∃ u, p.2.data = .fields u) → Env0 P w K mg base A outer s H →
      BindsTo s fd args (ps.zip us) → Vals vs us → sp p.1 C vs H Q E → codeAny (model P w) A (.call (.ref f) args) (CR CX0 outer P w H s Q E) s) ∧
    mg x = some (.ref f) ∧ PySem.W.keepIn K (.ref f) = true ∧ Binds K fd ps [] ∧ ps.length = n
section
variable {P : Program} {w : World} {K : PySem.W.Frag} {mg : Str → Option Value} {base : Heap}
/-- the promise of such a def, that raises nothing: i the error's number -/
def SpK {I O : Type} (adr : I → Addr) (r : O → Hp → V → Prop) (m : I → O) : Addr → Addr → Sp := fun a C vs H Q _ => ∃ (i : I) (G : Hp) (cs : Cells), C = adr i ∧ vs = [.ref a] ∧ Desc G cs H ∧ ∀ v G2 H2, Same G G2 → Desc G2 cs H2 → r (m i) G2 v → Q v H2
theorem fn_mkX {I O : Type} [Inhabited O] {x y : Str} {st : Stmt} {f : Addr} {fd : FuncData} {N : List Str} {k : Nat} {adr : I → Addr} {r : O → Hp → V → Prop} (F : Fun K x x st f fd) (S : FnScope N [y] (defScope st)) (b : Binds K fd [y] []) (hmg : mg x = some (.ref f))
    (body : I → Out Empty Unit Empty O)
    (h : ∀ (cdv : Value) (A : Around) (outer : List Env) (s : Shared) (H : Hp) (E : XK) (p : Addr × Obj) (i : I) (G : Hp) (cs : Cells), RoomH k (A.deeper (envOfC x (defScope st) s.heap.objs.size f cdv)) → Zc (.ref (adr i)) none p.2 → (∃ u, p.2.data = .fields u) →
      B (cxH CX0 P w K mg base N x (defScope st) f cdv A outer s H E p) (fun e _ _ => e.elim) (defBody st) (start N [.ref p.1]) G cs (PoF cs r) (body i)) :
    FnX P w K mg base (k + 1) x 1 (SpK adr r fun i => (body i).val) := by
  obtain ⟨oc, od, kV, doc, pm, an, cdv, ct, osl, rfl, hk, hcode⟩ := F.ex
  refine ⟨f, _, [y], ?_, ?_, hmg, F.kp, b, rfl⟩
  · rintro a C vs H Q E ⟨i, G, cs, _, rfl, _⟩
    rfl
  · rintro A outer s0 H args us vs Q E p C room pin hz hf en hbi rv ⟨i, G, cs, rfl, rfl, d, q⟩
    have kin := en.mod.kin.keeps fun a o z => (en.bs a o z).1
    have nol := en.mod.nolimit.keeps fun a o z => (en.bs a o z).1
    have kinds : ∀ z ∈ [y].zip us, (defScope st).names.lookup z.1 = some .local ∨ ((defScope st).names.lookup z.1 = some .cell ∧ ((cellsFrom (s0.heap.objs.size + 1) (defScope st).names []).lookup z.1).isSome = true) := fun ⟨nm, v⟩ hz =>
      (S.par nm (List.of_mem_zip hz).1).imp id fun t => ⟨t, PySem.W.cellsFrom_some _ _ _ (.inl t)⟩
    refine codeAny_call_function room.depth (kin _ _ hk) rfl S.co S.gen rfl (PySem.W.codeRec_of kin hcode) (hbi _ _ _ _ (wpAny_newFunctionEnv_cells S.kind kinds fun env he s1 ic => ?_))
    subst he
    refine ⟨nol.keeps ic.toInCall.keep, codeAny_func ?_⟩
    have Iv := L2H.inv_startH (CX := CX0) (qual := x) (cd := cdv) (E := E) S pin en rfl rv ic
    have run := h cdv A outer s0 H E p i G cs (room.deeper _) hz hf H d { nx := fun _ H' => Q .non H', rt := Q } (by
      dsimp only at q
      cases hb : body i with
      | nx u =>
        rw [hb] at q
        rintro σ2 G2 cs2 H2 s2 d2 ⟨⟨loc, rfl⟩, hr2⟩
        exact q _ G2 H2 s2 d2.drop hr2
      | bk l => exact l.elim
      | ct l => exact l.elim
      | rt o =>
        rw [hb] at q
        rintro v G2 cs2 H2 s2 d2 ⟨⟨loc, rfl⟩, hr2⟩
        exact q _ G2 H2 s2 d2.drop hr2
      | er e => exact e.elim)
    refine wpAny_mono (run.run [] s1 Iv) (fun fl s2 hs => ?_) fun e s2 hs => hs
    have done : ∀ {σ' : L2.St} {H' : Hp} {v : V} {u : Value}, Inv (cxH CX0 P w K mg base N x (defScope st) f cdv A outer s0 H E p) [] σ' H' s2 → RelV v u → Q v H' → CE outer P w H s0 Q u s2 := fun Jv rvu qv => ⟨_, _, Jv.os, Jv.bare, Jv.base, Jv.hok, rvu, qv⟩
    cases fl with
    | ret u =>
      obtain ⟨v, σ2, H2, Jv, rvu, qv⟩ := hs
      exact done Jv rvu qv
    | next =>
      obtain ⟨σ2, H2, Jv, qv⟩ := hs
      exact done (v := V.non) (u := Value.none) Jv rfl qv
    | brk =>
      obtain ⟨_, _, _, z⟩ := hs
      exact z.elim
    | cont =>
      obtain ⟨_, _, _, z⟩ := hs
      exact z.elim
end
section
variable {n : Nat} {nm : _root_.Fin n → Str} {adr : _root_.Fin n → Addr} {B0 : Addr} {X : Cx} {σ : L2.St} {G : Hp} {cs : Cells} {e : Expr} {es : List Expr} {pos p : Pos}
theorem roomX {A A' : Around} {j k : Nat} (h : Room j A) (hk : k ≤ j) (hd : A'.depth = A.depth := by rfl) (hu : A'.units = A.units := by rfl) : RoomH k A' := ⟨by rw [hd]; exact (h.mono hk).dp, by rw [hu]; exact (h.mono hk).un⟩
/-- f(e), e the error in hand -/
theorem d_callX {I O : Type} {ad : I → Addr} {r : O → Hp → V → Prop} {m : I → O} {P : Hp → V → Prop} {k a : Nat} {x : Str} {b : Addr} {ob : Obj} (i : I) (F : FnX X.prog X.w X.K X.mg X.base k x a (SpK ad r m)) (hr : RoomH k X.A) (hp : (b, ob) ∈ X.pn) (hz : Zc (.ref (ad i)) none ob) (hf : ∃ u, ob.data = .fields u)
    (he : D X e σ G cs (rV (.ref b))) (hP : ∀ G v, r (m i) G v → P G v) (hg : Gl X x := by rfl) (hd : (x == ("__debug__" : Str)) = false := by decide)
    (hst : starEach [e] X.env = (false, eval e X.env) :: starEach [] X.env := by rfl) (hpl : (backTo pos (starEach [] X.env)).any (·.1) = false := by rfl) : D X (.Call (.Name x p) [e] [] pos) σ G cs P := by
  obtain ⟨f, fd, ps, hlen, F, hm, kp, hb, _⟩ := F.ex
  refine fun G1 H s d Q q => ⟨fun pins s0 Iv => wpAny_Call_Name_kw (ld_glob Iv hg hm ?_ hd)⟩
  refine PySem.W.callWith_K (h₀ := X.base) Iv.ok.mod.kin kp (thn ((pa_cons (sE X e) pa_nil hst).run pos pins s0 σ H (fun vs H2 => vs = [V.ref b] ∧ ∃ G2, Same G1 G2 ∧ Desc G2 cs H2) Iv (he G1 H s d _ fun G2 H2 v s2 d2 hv => ⟨by rw [show v = V.ref b from hv], G2, s2, d2⟩)) fun us s1 hh => ?_) hst hpl
  obtain ⟨vs, H2, I2, rv, rfl, G2, s2, d2⟩ := hh
  refine ⟨I2.kIn, ?_⟩
  have sp : SpK ad r m b (ad i) [V.ref b] H2 Q (fun _ _ _ => False) := ⟨i, G2, cs, rfl, rfl, d2, fun v G3 H3 s3 d3 hv => q G3 H3 v (s2.trans s3) d3 (hP _ _ hv)⟩
  have bb := hb s1 us I2.kIn (by rw [List.append_nil, ← rv.length]; exact hlen _ _ _ _ _ _ sp)
  rw [List.append_nil] at bb
  obtain ⟨p1, p2, p3, p4, p5⟩ := I2.pin (b, ob) (List.mem_append_left _ hp)
  have pin : PinOk X.stack H2 s1 (b, ob) := ⟨p1, p2, fun z => (List.mem_cons.mp (I2.stkSub b z)).elim p3 p4, p5⟩
  refine wpAny_call (codeAny_mono (F X.A X.stack s1 H2 ⟨us, []⟩ us _ Q (fun _ _ _ => False) (b, ob) (ad i) hr pin hz hf I2.env0 bb rv sp) fun t s2 hq => ?_)
  cases t with
  | error c => exact absurd hq (by intro z; exact z)
  | ok fl =>
    cases fl with
    | ret u => exact I2.after hq
    | next => exact hq.elim
    | brk => exact hq.elim
    | cont => exact hq.elim
/-- isinstance(e, C), e the error in hand -/
theorem call_isP {b C : Addr} {ob : Obj} (c : ExcC X.K C) (hz : Zc (.ref C) none ob) (hf : ∃ u, ob.data = .fields u) (hp : (b, ob) ∈ X.pn) : CallR X (.builtin "isinstance") (rIsE X.K C b) := by
  rintro pins s0 σ H xs us Q Iv rv ⟨cl, cv, t, rfl, hcv, kt, q⟩
  obtain ⟨u1, u2, rfl, r1, r2⟩ := vals2 rv
  obtain rfl := hcv _ r2
  cases (show u1 = Value.ref b from r1)
  obtain ⟨fs, hv⟩ := hf
  have at1 : PySem.W.InstAt s0.heap b ob C none := by
    have g := (Iv.pin (b, ob) (List.mem_append_left _ hp)).1
    obtain ⟨k1, k2, k3, k4⟩ := ob
    obtain ⟨rfl, rfl⟩ := hz
    cases (show k3 = _ from hv)
    exact ⟨g, rfl, rfl, trivial⟩
  exact PySem.W.kia_one (PySem.W.handS_kitx_exc c.hg c.hk c.hs c.hd c.ha c.hn c.ht c.hm) Iv.kIn at1 kt (fun z => nomatch z) fun tk => ⟨.bl t, H, Iv.kept (t' := tk) fun _ _ z => z, rfl, q⟩
theorem d_isE {y : Str} {b : Addr} {ob : Obj} {py : Pos} (i j : _root_.Fin n) (Er : Errs X.K X.mg nm adr B0) (hz : Zc (.ref (adr i)) none ob) (hf : ∃ u, ob.data = .fields u) (hp : (b, ob) ∈ X.pn) (hm : X.mg "isinstance" = none) (he : D X e σ G cs (rV (.ref b))) (hy : nm j = y)
    (hg : Gl X "isinstance" := by rfl) (hgy : Gl X y := by rfl) (hdy : (y == ("__debug__" : Str)) = false := by decide) (hst : starEach [e, .Name y py] X.env = (false, eval e X.env) :: starEach [.Name y py] X.env := by rfl) (hst2 : starEach [.Name y py] X.env = (false, eval (.Name y py) X.env) :: starEach [] X.env := by rfl)
    (hpl : (backTo pos (starEach [.Name y py] X.env)).any (·.1) = false := by rfl) : D X (.Call (.Name "isinstance" p) [e, .Name y py] [] pos) σ G cs (rB (decide (i = j))) := by
  subst hy
  refine d_callB (Ps := aC (rV (.ref b)) (aC (rV (.ref (adr j))) aN)) (call_isP (Er.one i).cl hz hf hp) hm (a_cons (P := rV (.ref b)) he (a_cons (P := rV (.ref (adr j))) ?_ a_nil hst2) hst) (fun G1 H vs s d h Q q => ?_) hg (he := hst) (hpl := hpl)
  · exact d_by (pe_glob hgy (Er.one j).mg (v := .ref (adr j)) rfl hdy) fun G1 H s d Q q => q G1 H _ (Same.refl _) d rfl
  · obtain ⟨v, w, rfl, hv, v2, w2, rfl, hv2, hw⟩ := h
    cases (show w2 = [] from hw)
    cases (show v = V.ref b from hv)
    cases (show v2 = V.ref (adr j) from hv2)
    exact ⟨_, _, _, rfl, fun u z => z, Er.is i j, q G1 H _ (Same.refl _) d rfl⟩
end
end J

namespace J
open PySem L2 PyProof.Rows
/-! ### one of two kinds of values -/
def rSum {α β : Type} (r : α → Hp → V → Prop) (r' : β → Hp → V → Prop) : α ⊕ β → Hp → V → Prop
  | .inl x => r x
  | .inr y => r' y
instance {α β : Type} (r : α → Hp → V → Prop) (r' : β → Hp → V → Prop) [m : ∀ x, Mono (r x)] [m' : ∀ x, Mono (r' x)] (x : α ⊕ β) : Mono (rSum r r' x) :=
  ⟨fun e h => by
    cases x with
    | inl x => exact (m x).mono e h
    | inr x => exact (m' x).mono e h⟩
instance (K : PySem.W.Frag) : EqR K (rSum rI rS) where
  toD x := match x with
    | .inl i => .int i
    | .inr l => .str (SX.S l)
  ok x := match x with
    | .inl _ => True
    | .inr l => ∀ c ∈ l, c < 1114112
  dep := 1
  dp {x} _ _ _ h s := by
    cases x with
    | inl i => cases (show _ = _ from h); exact .int _
    | inr l => cases (show _ = _ from h); exact .str _
  lay {x} h := by
    cases x with
    | inl i => rfl
    | inr l => exact (inferInstance : EqR K rS).lay h
  deep x := by cases x <;> (unfold PyData.depth; omega)
  eqv x y := by
    cases x <;> cases y <;> unfold PyData.eqv
    · simp [beq_iff_eq]
    · simp
    · simp
    · rw [SX.S_beq]
      simp [beq_iff_eq]
section
variable {X : Cx} {σ : L2.St} {G : Hp} {cs : Cells} {a b e : Expr} {pos p : Pos} {i j : Int}
theorem d_inl {α β : Type} {r : α → Hp → V → Prop} {r' : β → Hp → V → Prop} {x : α} (h : D X e σ G cs (r x)) : D X e σ G cs (rSum r r' (.inl x)) := h
theorem d_inr {α β : Type} {r : α → Hp → V → Prop} {r' : β → Hp → V → Prop} {x : β} (h : D X e σ G cs (r' x)) : D X e σ G cs (rSum r r' (.inr x)) := h
theorem Rs.to {α β : Type} {r : α → Hp → V → Prop} {r' : β → Hp → V → Prop} {f : α → β} {G : Hp} (h : ∀ x v, r x G v → r' (f x) G v) : ∀ {xs : List α} {vs : List V}, Rs r G xs vs → Rs r' G (xs.map f) vs
  | _, _, .nil => .nil
  | _, _, .cons q t => .cons (h _ _ q) (Rs.to h t)
/-- a list, each item told otherwise -/
theorem d_lmap {α β : Type} {r : α → Hp → V → Prop} {r' : β → Hp → V → Prop} (f : α → β) {xs : List α} (h : D X e σ G cs (rL X.K r xs)) (q : ∀ x G v, r x G v → r' (f x) G v) : D X e σ G cs (rL X.K r' (xs.map f)) :=
  h.imp fun G v ⟨l, vs, e1, e2, e3⟩ => ⟨l, vs, e1, e2, Rs.to (fun x v => q x G v) e3⟩

/-! ### what may be None, and is not -/
def oGet {α : Type} [Inhabited α] (o : Option α) : α := o.getD default
theorem oS1 {α : Type} {o : Option α} (h : (!o.isNone) = true) : o.isSome = true := by cases o <;> simp_all
theorem oS2 {α : Type} {o : Option α} (h : o.isNone = false) : o.isSome = true := by cases o <;> simp_all
theorem d_unO {α : Type} [Inhabited α] {r : α → Hp → V → Prop} {o : Option α} (h : D X e σ G cs (rO r o)) (hs : o.isSome = true) : D X e σ G cs (r (oGet o)) := by
  cases o with
  | none => cases hs
  | some x => exact h

/-! ### is of bools -/
theorem c_isB {H : Hp} {Q : VK} {i j : Bool} {x y : V} {G1 : Hp} (hx : rB i G1 x) (hy : rB j G1 y) (q : Q (.bl (decide (i = j))) H) : ∃ a b, x = .bl a ∧ y = .bl b ∧ Q (.bl (decide (a = b))) H := ⟨i, j, hx, hy, q⟩
theorem c_nisB {H : Hp} {Q : VK} {i j : Bool} {x y : V} {G1 : Hp} (hx : rB i G1 x) (hy : rB j G1 y) (q : Q (.bl (!decide (i = j))) H) : ∃ a b, x = .bl a ∧ y = .bl b ∧ Q (.bl (!decide (a = b))) H := ⟨i, j, hx, hy, q⟩

theorem d_isNN {jj : Nat} {p' : Pos} (ha : D X a σ G cs (rN ())) : D X (.Compare a [.Is] [.Constant .none jj p'] pos) σ G cs (rB true) :=
  d_cmp op_isN (nomark _) ha d_non fun G1 H x y s d hx hy Q q => ⟨hy, by cases (show x = V.non from hx); exact q⟩
theorem t_isNN {jj : Nat} {p' : Pos} (ha : D X a σ G cs (rN ())) : T X (.Compare a [.Is] [.Constant .none jj p'] pos) σ G cs true :=
  t_cmp op_isN (nomark _) ha d_non fun G1 H x y s d hx hy Q q => ⟨hy, by cases (show x = V.non from hx); exact q⟩
theorem d_notNN {jj : Nat} {p' : Pos} (ha : D X a σ G cs (rN ())) : D X (.Compare a [.IsNot] [.Constant .none jj p'] pos) σ G cs (rB false) :=
  d_cmp op_notN (nomark _) ha d_non fun G1 H x y s d hx hy Q q => ⟨hy, by cases (show x = V.non from hx); exact q⟩
theorem t_notNN {jj : Nat} {p' : Pos} (ha : D X a σ G cs (rN ())) : T X (.Compare a [.IsNot] [.Constant .none jj p'] pos) σ G cs false :=
  t_cmp op_notN (nomark _) ha d_non fun G1 H x y s d hx hy Q q => ⟨hy, by cases (show x = V.non from hx); exact q⟩

/-! ### x in xs -/
theorem inV_S (l : List Nat) : ∀ xs : List (List Nat), inV (.str (SX.S l)) (xs.map fun y => .str (SX.S y)) = decide (l ∈ xs)
  | [] => by simp [inV]
  | y :: xs => by
    have ih := inV_S l xs
    unfold inV at ih ⊢
    rw [List.map_cons, List.any_cons, ih]
    show (SX.S y == SX.S l || _) = _
    rw [SX.S_beq]
    by_cases h : y = l
    · subst h
      simp
    · have h2 : ¬ l = y := fun z => h z.symm
      simp [h, h2]
theorem inV_I (i : Int) : ∀ xs : List Int, inV (.int i) (xs.map V.int) = decide (i ∈ xs)
  | [] => by simp [inV]
  | y :: xs => by
    have ih := inV_I i xs
    unfold inV at ih ⊢
    rw [List.map_cons, List.any_cons, ih]
    show (y == i || _) = _
    by_cases h : y = i
    · subst h
      simp
    · have h2 : ¬ i = y := fun z => h z.symm
      simp [h, h2]
/-- items that `in` may ask -/
class InR {α : Type} [DecidableEq α] (r : α → Hp → V → Prop) where
  f : α → V
  is : ∀ {x G v}, r x G v → v = f x
  fl : ∀ x, flatV (f x) = true
  iv : ∀ (x : α) (xs : List α), inV (f x) (xs.map f) = decide (x ∈ xs)
instance : InR rS where
  f l := .str (SX.S l)
  is h := h
  fl _ := rfl
  iv x xs := (inV_S x xs).trans (decide_eq_decide.mpr Iff.rfl)
instance : InR rI where
  f := .int
  is h := h
  fl _ := rfl
  iv x xs := (inV_I x xs).trans (decide_eq_decide.mpr Iff.rfl)
theorem Rs.eqMap {α : Type} [DecidableEq α] {r : α → Hp → V → Prop} [q : InR r] {G : Hp} : ∀ {xs : List α} {vs : List V}, Rs r G xs vs → vs = xs.map q.f
  | _, _, .nil => rfl
  | _, _, .cons h t => by rw [List.map_cons, q.is h, Rs.eqMap t]
theorem allFlat {α : Type} [DecidableEq α] {r : α → Hp → V → Prop} [q : InR r] (xs : List α) : (xs.map q.f).all flatV = true := by
  rw [List.all_eq_true]
  intro v hv
  obtain ⟨x, _, rfl⟩ := List.mem_map.mp hv
  exact q.fl x
/-- readable as a row of items: a list or a tuple -/
def rRow (K : PySem.W.Frag) (cs : Cells) {α : Type} (r : α → Hp → V → Prop) (xs : List α) : Hp → V → Prop := fun G v => ∃ a vs, v = .ref a ∧ (∀ H, Desc G cs H → SqL K H a vs ∨ SqT K H a vs) ∧ Rs r G xs vs
theorem rRow_l {K : PySem.W.Frag} {cs : Cells} {α : Type} {r : α → Hp → V → Prop} {xs : List α} {G : Hp} {v : V} (h : rdL K cs r xs G v) : rRow K cs r xs G v := by
  obtain ⟨a, vs, e, h1, h2⟩ := h
  refine ⟨a, vs, e, fun H d => .inl ?_, h2⟩
  rcases h1 with h1 | h1
  · exact d.same.seq h1
  · exact SqL.of (d.at_ h1)
theorem rRow_t {K : PySem.W.Frag} {cs : Cells} {α : Type} {r : α → Hp → V → Prop} {xs : List α} {G : Hp} {v : V} (h : rU K r xs G v) : rRow K cs r xs G v := by
  obtain ⟨a, vs, e, h1, h2⟩ := h
  exact ⟨a, vs, e, fun H d => .inr (seqT d.same h1), h2⟩
section
/-- x among xs -/
def inB {α : Type} [DecidableEq α] (x : α) (xs : List α) : Bool := decide (x ∈ xs)
theorem inB_iff {α : Type} [DecidableEq α] {x : α} {xs : List α} : inB x xs = true ↔ x ∈ xs := decide_eq_true_iff
variable {α : Type} [DecidableEq α] {r : α → Hp → V → Prop} [q0 : InR r] [∀ x, Mono (r x)] {x : α} {xs : List α}
theorem d_in (ha : D X a σ G cs (r x)) (hb : D X b σ G cs (rRow X.K cs r xs)) (hm : behindInMarks .In b = false := by rfl) : D X (.Compare a [.In] [b] pos) σ G cs (rB (inB x xs)) :=
  d_cmp op_in_seq hm ha hb fun G1 H u w s d hu hw Q q => by
    obtain ⟨l, vs, rfl, h1, h2⟩ := hw
    rw [h2.eqMap] at h1
    rw [q0.is hu]
    refine ⟨l, _, rfl, h1 H d, q0.fl x, allFlat xs, ?_⟩
    rw [if_neg (by simp), q0.iv]
    exact q
theorem d_nin (ha : D X a σ G cs (r x)) (hb : D X b σ G cs (rRow X.K cs r xs)) (hm : behindInMarks .NotIn b = false := by rfl) : D X (.Compare a [.NotIn] [b] pos) σ G cs (rB (!inB x xs)) :=
  d_cmp op_notIn_seq hm ha hb fun G1 H u w s d hu hw Q q => by
    obtain ⟨l, vs, rfl, h1, h2⟩ := hw
    rw [h2.eqMap] at h1
    rw [q0.is hu]
    refine ⟨l, _, rfl, h1 H d, q0.fl x, allFlat xs, ?_⟩
    rw [if_pos rfl, q0.iv]
    exact q
theorem t_in (ha : D X a σ G cs (r x)) (hb : D X b σ G cs (rRow X.K cs r xs)) (hm : behindInMarks .In b = false := by rfl) : T X (.Compare a [.In] [b] pos) σ G cs (inB x xs) :=
  t_cmp op_in_seq hm ha hb fun G1 H u w s d hu hw Q q => by
    obtain ⟨l, vs, rfl, h1, h2⟩ := hw
    rw [h2.eqMap] at h1
    rw [q0.is hu]
    refine ⟨l, _, rfl, h1 H d, q0.fl x, allFlat xs, ?_⟩
    rw [if_neg (by simp), q0.iv]
    exact q
theorem t_nin (ha : D X a σ G cs (r x)) (hb : D X b σ G cs (rRow X.K cs r xs)) (hm : behindInMarks .NotIn b = false := by rfl) : T X (.Compare a [.NotIn] [b] pos) σ G cs (!inB x xs) :=
  t_cmp op_notIn_seq hm ha hb fun G1 H u w s d hu hw Q q => by
    obtain ⟨l, vs, rfl, h1, h2⟩ := hw
    rw [h2.eqMap] at h1
    rw [q0.is hu]
    refine ⟨l, _, rfl, h1 H d, q0.fl x, allFlat xs, ?_⟩
    rw [if_pos rfl, q0.iv]
    exact q
end

/-! ### isinstance(x, T), T built in -/
class HasTy {α : Type} (K : PySem.W.Frag) (r : α → Hp → V → Prop) (t : outParam String) : Prop where
  ty : ∀ {x G H v cs}, r x G v → Desc G cs H → TyX K H v (.type t)
instance (K : PySem.W.Frag) : HasTy K rI "int" := ⟨fun h _ => by cases h; exact .base (.int _)⟩
instance (K : PySem.W.Frag) : HasTy K rB "bool" := ⟨fun h _ => by cases h; exact .base (.bl _)⟩
instance (K : PySem.W.Frag) : HasTy K rS "str" := ⟨fun h _ => by cases h; exact .base (.str _)⟩
theorem ty_list {K : PySem.W.Frag} {H : Hp} {a : Addr} {vs : List V} (h : SqL K H a vs) : TyX K H (.ref a) (.type "list") := by
  rcases h with (h | ⟨o, h⟩) | ⟨o, _, _, h1, h2, _⟩
  · exact .base (.lst h)
  · exact .base (.frz h)
  · exact .kList h1 h2
theorem ty_tuple {K : PySem.W.Frag} {H : Hp} {a : Addr} {vs : List V} (h : SqT K H a vs) : TyX K H (.ref a) (.type "tuple") := by
  rcases h with (h | ⟨o, h⟩) | ⟨o, _, _, h1, h2, _⟩
  · exact .base (.tup h)
  · exact .fTuple h
  · exact .kTuple h1 h2
instance (K : PySem.W.Frag) {α : Type} (r : α → Hp → V → Prop) : HasTy K (rL K r) "list" := ⟨fun h d => by
  obtain ⟨a, vs, rfl, h1, h2⟩ := h
  exact ty_list (d.same.seq h1)⟩
instance (K : PySem.W.Frag) {α : Type} (r : α → Hp → List V → Prop) : HasTy K (rT K r) "tuple" := ⟨fun h d => by
  obtain ⟨a, vs, rfl, h1, h2⟩ := h
  exact ty_tuple (seqT d.same h1)⟩
theorem d_isi {α : Type} {r : α → Hp → V → Prop} {x : α} {t u : String} {y : Str} {k : Bool} {py : Pos} [h : HasTy X.K r t] [∀ x, Mono (r x)] (hm : X.mg "isinstance" = none) (hmy : X.mg y = none) (ha : D X a σ G cs (r x)) (hk : kitB t u = some k := by decide +kernel)
    (hy : bootBuiltins y = some (.type u) := by decide +kernel) (hg : Gl X "isinstance" := by rfl) (hgy : Gl X y := by rfl) (hny : y ≠ "__name__" := by decide) (hdy : (y == ("__debug__" : Str)) = false := by decide)
    (hst : starEach [a, .Name y py] X.env = (false, eval a X.env) :: starEach [.Name y py] X.env := by rfl) (hst2 : starEach [.Name y py] X.env = (false, eval (.Name y py) X.env) :: starEach [] X.env := by rfl)
    (hpl : (backTo pos (starEach [.Name y py] X.env)).any (·.1) = false := by rfl) : D X (.Call (.Name "isinstance" p) [a, .Name y py] [] pos) σ G cs (rB k) := by
  refine d_callB (Ps := aC (r x) (aC (rV (.ty u)) aN)) call_isi hm (a_cons ha (a_cons (P := rV (.ty u)) ?_ a_nil hst2) hst) (fun G1 H vs s d h1 Q q => ?_) hg (he := hst) (hpl := hpl)
  · exact d_by (pe_bltn hgy hmy hy (v := .ty u) rfl hny hdy) fun G1 H s d Q q => q G1 H _ (Same.refl _) d rfl
  · obtain ⟨v, w, rfl, hv, v2, w2, rfl, hv2, hw⟩ := h1
    cases (show w2 = [] from hw)
    cases (show v2 = V.ty u from hv2)
    exact ⟨_, _, _, _, k, rfl, .ty u, h.ty hv d, kit_ty hk, q G1 H _ (Same.refl _) d rfl⟩

/-! ### slices -/
def cutL {α : Type} (xs : List α) (lo hi : Option Int) : List α := (xs.drop (HT.sIx xs.length 0 lo)).take (HT.sIx xs.length xs.length hi - HT.sIx xs.length 0 lo)
theorem cutL_map {α β : Type} (f : α → β) (xs : List α) (lo hi : Option Int) : cutL (xs.map f) lo hi = (cutL xs lo hi).map f := by
  unfold cutL
  rw [List.length_map, List.map_take, List.map_drop]
theorem cutL_le {α : Type} (xs : List α) (lo hi : Option Int) : (cutL xs lo hi).length ≤ xs.length := by
  unfold cutL
  rw [List.length_take, List.length_drop]
  omega
theorem cutL_up {α : Type} (xs : List α) {n : Int} (h : 0 ≤ n) : cutL xs none (some n) = xs.take n.toNat := by
  unfold cutL
  rw [HT.sIx_none]
  show List.take (HT.sIx xs.length xs.length (some n) - 0) (List.drop 0 xs) = _
  have e : n = (n.toNat : Int) := by omega
  rw [e, HT.sIx_nat, Nat.sub_zero, List.drop_zero]
  show List.take (min n.toNat xs.length) xs = List.take n.toNat xs
  rw [List.take_eq_take_iff]
  omega
theorem cutL_from {α : Type} (xs : List α) {n : Int} (h : 0 ≤ n) : cutL xs (some n) none = xs.drop n.toNat := by
  unfold cutL
  rw [HT.sIx_none]
  have e : n = (n.toNat : Int) := by omega
  rw [e, HT.sIx_nat]
  show List.take (xs.length - min n.toNat xs.length) (List.drop (min n.toNat xs.length) xs) = List.drop n.toNat xs
  by_cases hl : n.toNat ≤ xs.length
  · rw [Nat.min_eq_left hl, List.take_of_length_le (by rw [List.length_drop]; omega)]
  · rw [Nat.min_eq_right (by omega), List.drop_of_length_le (Nat.le_refl _), List.drop_of_length_le (by omega), List.take_nil]
structure wO (X : Cx) (eo : Option Expr) (σ : L2.St) (H : Hp) (Q : Option Int → Hp → Prop) : Prop where
  run : ∀ pins s, Inv X pins σ H s → wpAny (model X.prog X.w) X.A (evalPart eo X.env) (fun u s' => ∃ o H', Inv X pins σ H' s' ∧ IsPart u o ∧ Q o H') X.xe s
/-- a slice's part -/
def DO (X : Cx) (eo : Option Expr) (σ : L2.St) (G : Hp) (cs : Cells) (o : Option Int) : Prop :=
  ∀ G1 H, Same G G1 → Desc G1 cs H → ∀ Q : Option Int → Hp → Prop, (∀ G2 H2, Same G1 G2 → Desc G2 cs H2 → Q o H2) → wO X eo σ H Q
theorem do_none : DO X none σ G cs none := fun G1 H s d Q q => ⟨fun pins s0 Iv => po_none.run pins s0 σ H Q Iv (q G1 H (Same.refl _) d)⟩
theorem do_some (h : D X e σ G cs (rI i)) : DO X (some e) σ G cs (some i) := fun G1 H s d Q q => ⟨fun pins s0 Iv => (po_some (sE X e)).run pins s0 σ H Q Iv (h G1 H s d _ fun G2 H2 v s2 d2 hv => ⟨i, hv, q G2 H2 s2 d2⟩)⟩
theorem sO (eo : Option Expr) : PO X eo (wO X eo) := ⟨fun pins s _ _ _ Iv h => h.run pins s Iv⟩
section
variable {lo hi : Option Expr} {l u : Option Int} {p2 : Pos}
theorem d_slS {z : List Nat} (ha : D X a σ G cs (rS z)) (hl : DO X lo σ G cs l) (hu : DO X hi σ G cs u) (hz : z.length ≤ sizeLine) : D X (.Subscript a (.Slice lo hi none p2) pos) σ G cs (rS (cutL z l u)) :=
  d_by (pe_slice sl_str (sE X a) (sO lo) (sO hi)) fun G1 H s d Q q => ha G1 H s d _ fun G2 H2 v s2 d2 hv => hl G2 H2 (s.trans s2) d2 _ fun G3 H3 s3 d3 => hu G3 H3 ((s.trans s2).trans s3) d3 _ fun G4 H4 s4 d4 => by
    refine ⟨SX.S z, hv, by rw [SX.S_len]; exact hz, ?_⟩
    have e : cutS (SX.S z) l u = SX.S (cutL z l u) := by
      unfold cutS cutL
      rw [SX.S_len]
    rw [e]
    exact q G4 H4 _ ((s2.trans s3).trans s4) d4 rfl
theorem rs_cut {α : Type} {r : α → Hp → V → Prop} {G : Hp} {xs : List α} {vs : List V} (h : Rs r G xs vs) (l u : Option Int) : Rs r G (cutL xs l u) (cutV vs l u) := by
  unfold cutL cutV
  rw [h.length]
  exact (h.drop _).take _
theorem n_slL {α : Type} {r : α → Hp → V → Prop} [∀ x, Mono (r x)] {xs : List α} (ha : D X a σ G cs (rdL X.K cs r xs)) (hl : DO X lo σ G cs l) (hu : DO X hi σ G cs u) : N X (.Subscript a (.Slice lo hi none p2) pos) σ G cs r (cutL xs l u) := fun G1 H s d Q q =>
  uE (pe_slice sl_list (sE X a) (sO lo) (sO hi)) (ha G1 H s d _ fun G2 H2 v s2 d2 hv => hl G2 H2 (s.trans s2) d2 _ fun G3 H3 s3 d3 => hu G3 H3 ((s.trans s2).trans s3) d3 _ fun G4 H4 s4 d4 => by
    obtain ⟨x, vs, e1, h1, h2⟩ := (Mono.mono (s3.trans s4) hv).sq d4
    exact ⟨x, vs, e1, h1, fun p hp => q G4 _ p _ ((s2.trans s3).trans s4) (d4.newCell hp _) (rs_cut h2 l u)⟩)
end
theorem d_upper {z : List Nat} {apos : Pos} (ha : D X a σ G cs (rS z)) (h : z.all (· < 128) = true) (hz : z.length ≤ 5592405) (hbase : attributeBase a "upper" X.env (eval a X.env) = eval a X.env := by rfl) (hline : (apos.endLine == pos.line) = true := by rfl) :
    D X (.Call (.Attribute a "upper" apos) [] [] pos) σ G cs (rS (z.map PyProof.Rows.up1)) :=
  d_by (pe_upper (sE X a) hbase hline) fun G1 H s d Q q => ha G1 H s d _ fun G2 H2 v s2 d2 hv => ⟨⟨SX.S z, hv⟩, SX.S z, hv, rfl, by rw [SX.S_len]; exact hz, by rw [SX.upper_S h]; exact q G2 H2 _ s2 d2 rfl⟩

/-! ### tuples of the module -/
theorem d_ixU {α : Type} {r : α → Hp → V → Prop} [∀ x, Mono (r x)] {xs : List α} {x : α} (ha : D X a σ G cs (rU X.K r xs)) (hb : D X b σ G cs (rI i)) (hx : atI xs i = some x) (hs : PlainIx b := by exact fun _ _ => rfl) : D X (.Subscript a b pos) σ G cs (r x) :=
  d_by (pe_ix ix_tup (sE X a) (sE X b) hs) fun G1 H s d Q q => ha G1 H s d _ fun G2 H2 u s2 d2 hu => hb G2 H2 (s.trans s2) d2 _ fun G3 H3 y s3 d3 hy => by
    obtain ⟨l, vs, e, hl, hr⟩ := Mono.mono s3 hu
    obtain ⟨v, hv, hp⟩ := atI_rs hr hx
    exact ⟨l, vs, i, v, e, hy, seqT d3.same hl, hv, q G3 H3 v (s2.trans s3) d3 hp⟩
/-- a name of the module that tells data -/
def GlobR (mg : Str → Option Value) (x : Str) (P : Hp → V → Prop) : Prop := ∃ v u, mg x = some u ∧ RelV v u ∧ ∀ G, P G v
theorem d_globR {x : Str} {P : Hp → V → Prop} (h : GlobR X.mg x P) (hg : Gl X x := by rfl) (hd : (x == ("__debug__" : Str)) = false := by decide) : D X (.Name x pos) σ G cs P := by
  obtain ⟨v, u, hm, hr, hp⟩ := h
  exact d_by (pe_glob hg hm hr hd) fun G1 H s d Q q => q G1 H v (Same.refl _) d (hp G1)
theorem globT {K : PySem.W.Frag} {mg : Str → Option Value} {x : Str} {α : Type} {r : α → Hp → V → Prop} {xs : List α} {vs : List V} {a : Addr} {dd : Option Addr} {us : List Value} {n : Nat} {sl : Array (Option Value)} (hm : mg x = some (.ref a)) (hk : K.lookup a = some ⟨.type "tuple", dd, .seq us.toArray n, sl⟩)
    (hv : Vals vs us) (hl : us.length ≤ sizeLine) (hr : ∀ G, Rs r G xs vs) : GlobR mg x (rU K r xs) :=
  ⟨.ref a, _, hm, rfl, fun G => ⟨a, vs, rfl, .inr ⟨_, us.toArray, n, hk, rfl, rfl, by rw [List.size_toArray]; exact hl, by simpa using hv⟩, hr G⟩⟩
end
end J

namespace J
/-! the numbers that a law draws of a cell: every law's own mirror of them is this one, by rfl -/
def numStep (c : Int) (z : Int × List Int) (x : Int) : Out Empty (Int × List Int) (Int × List Int) (List Int) :=
  if (decide (0 < z.1)) = true then (letV (z.2 ++ [(z.1 % 10000000000000)]) fun ns => letV (z.1 / 10000000000000) fun r => .nx (r, ns))
  else (letV ((((c * 48271) + (x * 69621)) + 1013) % 2147483647) fun m => letV ((((m * m) + (8191 * x)) + 77) % 2147483629) fun m2 =>
    letV (z.2 ++ [(((((m2 * m2) + m2) % 2147483587) * 4001) + x)]) fun ns => .nx (z.1, ns))
def numsOf (c : Int) (n : Int) : List Int :=
  Out.val (letV 0 fun r => (if (decide (1000000000000000000 ≤ c)) = true then (letV (c / 1000000000000000000) fun r => .nx (r)) else (.nx (r)) : Out Empty (Int) Empty (List Int)).bind fun z =>
    letV ([] : (List Int)) fun ns => (forL (numStep c) (z, ns) (rng 0 n)).bind fun z => .rt z.2)
theorem numsOf_is (c n : Int) : ∃ r s, numsOf c n = s.2 ∧ (forL (numStep c) (r, []) (rng 0 n) : Out Empty _ Empty (List Int)) = .nx s ∧ (∀ (P : Nat → Int × List Int → Prop), (∀ r, P 0 (r, [])) → (∀ k s x, x ∈ rng 0 n → P k s → ∃ s', numStep c s x = .nx s' ∧ P (k + 1) s') → P (rng 0 n).length s) := by
  have key : ∀ r : Int, ∃ s, (forL (numStep c) (r, []) (rng 0 n) : Out Empty _ Empty (List Int)) = .nx s ∧ (∀ (P : Nat → Int × List Int → Prop), (∀ r, P 0 (r, [])) → (∀ k s x, x ∈ rng 0 n → P k s → ∃ s', numStep c s x = .nx s' ∧ P (k + 1) s') → P (rng 0 n).length s) := fun r => by
    obtain ⟨s, e, _⟩ := forL_inv (ε := Empty) (L := Empty) (f := numStep c) (xs := rng 0 n) (s := (r, [])) (n := 0) (fun _ _ => True) trivial fun k s x hx _ => by
      unfold numStep letV
      by_cases hc : 0 < s.1
      · exact ⟨_, by rw [decide_eq_true hc]; rfl, trivial⟩
      · exact ⟨_, by rw [decide_eq_false hc]; rfl, trivial⟩
    refine ⟨s, e, fun P h0 hs => ?_⟩
    obtain ⟨s2, e2, h2⟩ := forL_inv (ε := Empty) (L := Empty) (f := numStep c) (xs := rng 0 n) (s := (r, [])) (n := 0) P (h0 r) hs
    rw [e] at e2
    cases e2
    rw [Nat.zero_add] at h2
    exact h2
  unfold numsOf letV
  by_cases hc : 1000000000000000000 ≤ c
  · rw [decide_eq_true hc]
    obtain ⟨s, e, hl⟩ := key (c / 1000000000000000000)
    refine ⟨_, s, ?_, e, hl⟩
    show Out.val (Out.bind (forL (numStep c) (c / 1000000000000000000, []) (rng 0 n)) fun z => .rt z.2) = _
    rw [e]
    rfl
  · rw [decide_eq_false hc]
    obtain ⟨s, e, hl⟩ := key 0
    refine ⟨_, s, ?_, e, hl⟩
    show Out.val (Out.bind (forL (numStep c) (0, []) (rng 0 n)) fun z => .rt z.2) = _
    rw [e]
    rfl
theorem numsOf_length (c : Int) {n : Int} (h : 0 ≤ n) : (numsOf c n).length = n.toNat := by
  obtain ⟨r, s, e, _, hp⟩ := numsOf_is c n
  rw [e, hp (fun k s => s.2.length = k) (fun _ => rfl) (fun k s x hx hk => by
    unfold numStep letV
    by_cases hc : 0 < s.1
    · exact ⟨_, by rw [decide_eq_true hc]; rfl, by simp [hk]⟩
    · exact ⟨_, by rw [decide_eq_false hc]; rfl, by simp [hk]⟩), rng_length]
  omega
theorem numsOf_bd (c : Int) {n : Int} (h : n ≤ 1000) : ∀ x ∈ numsOf c n, 0 ≤ x ∧ x < 10000000000000 := by
  obtain ⟨r, s, e, _, hp⟩ := numsOf_is c n
  rw [e]
  refine hp (fun _ s => ∀ x ∈ s.2, 0 ≤ x ∧ x < 10000000000000) (fun _ x hx => by simp at hx) (fun k s x hx hk => ?_)
  unfold numStep letV
  have hk0 := rng_mem.mp hx
  by_cases hc : 0 < s.1
  · refine ⟨_, by rw [decide_eq_true hc]; rfl, fun y hy => ?_⟩
    rcases List.mem_append.mp hy with hy | hy
    · exact hk y hy
    · have e := List.mem_singleton.mp hy
      rw [e]
      omega
  · refine ⟨_, by rw [decide_eq_false hc]; rfl, fun y hy => ?_⟩
    rcases List.mem_append.mp hy with hy | hy
    · exact hk y hy
    · have e := List.mem_singleton.mp hy
      rw [e]
      generalize ((c * 48271 + x * 69621 + 1013) % 2147483647 * ((c * 48271 + x * 69621 + 1013) % 2147483647) + 8191 * x + 77) % 2147483629 = m
      generalize m * m + m = q
      omega
/-- what a law may count on of its numbers -/
structure Nums (n : Nat) (xs : List Int) : Prop where
  len : xs.length = n
  mem : ∀ x ∈ xs, 0 ≤ x ∧ x < 10000000000000
theorem nums (c : Int) (n : Nat) (h : n ≤ 1000 := by decide) : Nums n (numsOf c (n : Int)) := ⟨by rw [numsOf_length c (by omega)]; omega, numsOf_bd c (by omega)⟩
theorem Nums.bd {n : Nat} {xs : List Int} (h : Nums n xs) (i : Int) : 0 ≤ ixg xs i ∧ ixg xs i < 10000000000000 := by
  unfold ixg
  cases e : L2.atI xs i with
  | none => exact ⟨by decide, by decide⟩
  | some x =>
    refine h.mem x ?_
    have e2 : ((L2.ixN xs.length i).bind fun j => xs[j]?) = some x := e
    obtain ⟨j, _, hj⟩ := Option.bind_eq_some_iff.mp e2
    exact List.mem_of_getElem? hj
end J

namespace J
open PySem L2
/-- the turns n are enough -/
def Ends {ε S R : Type} (c : S → Bool) (f : S → Out ε S S R) : Nat → S → Prop
  | 0, s => c s = false
  | n + 1, s => c s = true → ∀ s', (f s = .nx s' ∨ f s = .ct s') → Ends c f n s'
theorem whileN_false {ε S L R : Type} {c : S → Bool} {f : S → Out ε S S R} {n : Nat} {s : S} (h : c s = false) : (whileN c f n s : Out ε S L R) = .nx s := by
  cases n with
  | zero => rfl
  | succ n =>
    unfold whileN
    rw [h]
    rfl
theorem whileN_true {ε S L R : Type} {c : S → Bool} {f : S → Out ε S S R} {n : Nat} {s : S} (h : c s = true) : (whileN c f (n + 1) s : Out ε S L R) = (match f s with
    | .nx s' => whileN c f n s'
    | .ct s' => whileN c f n s'
    | .bk s' => .nx s'
    | .rt r => .rt r
    | .er e => .er e) := by
  conv => lhs; unfold whileN
  rw [h]
  rfl
theorem while_out {ε S L R : Type} {c : S → Bool} {f : S → Out ε S S R} {z : S} (hb : ∀ s s', f s ≠ .bk s') : ∀ {n : Nat} {s : S}, Ends c f n s → (whileN c f n s : Out ε S L R) = .nx z → c z = false
  | 0, s, he, h => by
    have e : s = z := Out.nx.inj h
    rw [← e]
    exact he
  | n + 1, s, he, h => by
    cases hc : c s with
    | false =>
      rw [whileN_false hc] at h
      have e : s = z := Out.nx.inj h
      rw [← e]
      exact hc
    | true =>
      rw [whileN_true hc] at h
      cases hm : f s with
      | nx s' =>
        rw [hm] at h
        exact while_out hb (he hc s' (.inl hm)) h
      | ct s' =>
        rw [hm] at h
        exact while_out hb (he hc s' (.inr hm)) h
      | bk s' => exact absurd hm (hb s s')
      | rt r =>
        rw [hm] at h
        cases h
      | er e =>
        rw [hm] at h
        cases h
theorem while_run {ε S L R : Type} {c : S → Bool} {f : S → Out ε S S R} (I : S → Prop) (hs : ∀ s, I s → c s = true → ∃ s', f s = .nx s' ∧ I s') : ∀ {n : Nat} {s : S}, Ends c f n s → I s → ∃ z, (whileN c f n s : Out ε S L R) = .nx z ∧ I z ∧ c z = false
  | 0, s, he, hi => ⟨s, rfl, hi, he⟩
  | n + 1, s, he, hi => by
    cases hc : c s with
    | false => exact ⟨s, whileN_false hc, hi, hc⟩
    | true =>
      obtain ⟨s', h1, h2⟩ := hs s hi hc
      obtain ⟨z, h3, h4⟩ := while_run (L := L) I hs (he hc s' (.inl h1)) h2
      exact ⟨z, by rw [whileN_true hc, h1]; exact h3, h4⟩
theorem ends_by {ε S R : Type} {c : S → Bool} {f : S → Out ε S S R} (I : S → Prop) (μ : S → Nat) (hs : ∀ s, I s → c s = true → 0 < μ s ∧ ∀ s', (f s = .nx s' ∨ f s = .ct s') → I s' ∧ μ s' < μ s) : ∀ {n : Nat} {s : S}, I s → μ s ≤ n → Ends c f n s
  | 0, s, hi, hm => by
    show c s = false
    cases hc : c s with
    | false => rfl
    | true =>
      have := (hs s hi hc).1
      omega
  | n + 1, s, hi, hm => fun hc s' h => by
    obtain ⟨h1, h2⟩ := (hs s hi hc).2 s' h
    exact ends_by I μ hs h1 (by omega)
section
variable {ε S L R S1 : Type} {X : Cx} {W : ε → L2.St → Hp → Prop} {σ : L2.St} {G : Hp} {cs : Cells} {Φ : Po ε S L R} {rest body : List Stmt} {c : Expr} {pos : Pos}
theorem b_while {cond : S1 → Bool} {f : S1 → Out ε S1 S1 R} {g : S1 → Out ε S L R} {n : Nat} {s0 : S1} (N : S1 → L2.St → Hp → Cells → Prop) (hp : PassesOwn (model X.prog X.w) X.A X.env X.xe)
    (h0 : ∀ G1, Same G G1 → N s0 σ G1 cs) (hc : ∀ s σ1 G1 cs1, Same G G1 → N s σ1 G1 cs1 → T X c σ1 G1 cs1 (cond s))
    (hb : ∀ s σ1 G0 G1 cs1, Same G G0 → N s σ1 G0 cs1 → Same G0 G1 → cond s = true → B X W body σ1 G1 cs1 { nx := N, lp := N, rt := Φ.rt, er := Φ.er } (f s))
    (he : Ends cond f n s0)
    (hr : ∀ s σ1 G0 G1 cs1, Same G G0 → N s σ1 G0 cs1 → Same G0 G1 → (whileN cond f n s0 : Out ε S1 L R) = .nx s → B X W rest σ1 G1 cs1 Φ (g s)) : B X W (.While c body [] pos :: rest) σ G cs Φ ((whileN cond f n s0).bind g) := by
  refine b_cons (ps_while hp (sT X c) (sSs X body)) fun H d E w => ?_
  refine ⟨fun k σ1 H1 => ∃ s G1 cs1, Same G G1 ∧ Desc G1 cs1 H1 ∧ N s σ1 G1 cs1 ∧ Ends cond f k s ∧ (whileN cond f k s : Out ε S1 L R) = whileN cond f n s0, ⟨n, s0, G, cs, Same.refl _, d, h0 G (Same.refl _), he, rfl⟩, ?_⟩
  rintro k σ1 H1 ⟨s, G1, cs1, s1, d1, hN, en, eq⟩
  refine hc s σ1 G1 cs1 s1 hN G1 H1 (Same.refl _) d1 _ fun G2 H2 s2 d2 => ?_
  have sG : Same G G2 := s1.trans s2
  cases hk : cond s with
  | false =>
    rw [whileN_false hk] at eq
    rw [if_neg Bool.false_ne_true]
    rw [← eq] at w
    exact hr s σ1 G1 G2 cs1 s1 hN s2 eq.symm H2 d2 E (Wish.up (show Wish W G Φ E (g s) from w) sG)
  | true =>
    rw [if_pos rfl]
    cases k with
    | zero =>
      have : cond s = false := en
      rw [hk] at this
      cases this
    | succ k =>
      rw [whileN_true hk] at eq
      refine ⟨fun σ' H' => ∃ m', m' < k + 1 ∧ ∃ s G1 cs1, Same G G1 ∧ Desc G1 cs1 H' ∧ N s σ' G1 cs1 ∧ Ends cond f m' s ∧ (whileN cond f m' s : Out ε S1 L R) = whileN cond f n s0, fun σ' H' h => h, ?_⟩
      refine hb s σ1 G1 G2 cs1 s1 hN s2 hk H2 d2 _ ?_
      cases hm : f s with
      | nx s' => exact fun σ4 G4 cs4 H4 s4 d4 p4 => ⟨k, Nat.lt_succ_self k, s', G4, cs4, sG.trans s4, d4, p4, en hk s' (.inl hm), by rw [hm] at eq; exact eq⟩
      | ct s' => exact fun σ4 G4 cs4 H4 s4 d4 p4 => ⟨k, Nat.lt_succ_self k, s', G4, cs4, sG.trans s4, d4, p4, en hk s' (.inr hm), by rw [hm] at eq; exact eq⟩
      | bk s' =>
        rw [hm] at eq
        rw [← eq] at w
        exact fun σ4 G4 cs4 H4 s4 d4 p4 => hr s' σ4 G4 G4 cs4 (sG.trans s4) p4 (Same.refl _) eq.symm H4 d4 E (Wish.up (show Wish W G Φ E (g s') from w) (sG.trans s4))
      | rt r =>
        rw [hm] at eq
        rw [← eq] at w
        exact fun v4 G4 cs4 H4 s4 d4 p4 => w v4 G4 cs4 H4 (sG.trans s4) d4 p4
      | er e =>
        rw [hm] at eq
        rw [← eq] at w
        exact fun σ4 G4 cs4 H4 s4 d4 p4 => w σ4 G4 cs4 H4 (sG.trans s4) d4 p4
end
/-! ### tuples of one kind of items -/
class HomT {α : Type} {β : outParam Type} (r : α → Hp → List V → Prop) (q : outParam (β → Hp → V → Prop)) where
  toL : α → List β
  rs : ∀ {x G vs}, r x G vs → Rs q G (toL x) vs
instance {β : Type} (q : β → Hp → V → Prop) : HomT (c0 q) q where
  toL x := [x]
  rs := fun ⟨_, e, h⟩ => by
    rw [e]
    exact .cons h .nil
instance {α β : Type} (q : β → Hp → V → Prop) (r : α → Hp → List V → Prop) [h : HomT r q] : HomT (cc q r) q where
  toL x := x.1 :: h.toL x.2
  rs := fun ⟨_, _, e, h1, h2⟩ => by
    rw [e]
    exact .cons h1 (h.rs h2)
class LenT {α : Type} (r : α → Hp → List V → Prop) (n : outParam Nat) : Prop where
  len : ∀ {x G vs}, r x G vs → vs.length = n
instance {β : Type} (q : β → Hp → V → Prop) : LenT (c0 q) 1 := ⟨fun ⟨_, e, _⟩ => by rw [e]; rfl⟩
instance {α β : Type} (q : β → Hp → V → Prop) (r : α → Hp → List V → Prop) {n : Nat} [h : LenT r n] : LenT (cc q r) (n + 1) := ⟨fun ⟨_, _, e, _, h2⟩ => by rw [e, List.length_cons, h.len h2]⟩
section
variable {X : Cx} {σ : L2.St} {G : Hp} {cs : Cells} {a : Expr} {pos p : Pos}
theorem d_homT {α β : Type} {r : α → Hp → List V → Prop} {q : β → Hp → V → Prop} [h : HomT r q] {x : α} (ha : D X a σ G cs (rT X.K r x)) : D X a σ G cs (rU X.K q (h.toL x)) := ha.imp fun G v ⟨l, vs, e, hl, hr⟩ => ⟨l, vs, e, hl, h.rs hr⟩
theorem d_lenT {α : Type} {r : α → Hp → List V → Prop} {n : Nat} [h : LenT r n] [∀ x, MonoA (r x)] {y : α} {x : Str} (hm : X.mg x = none) (ha : D X a σ G cs (rT X.K r y)) (hg : Gl X x := by rfl) (hv : bootBuiltins x = some (.builtin "len") := by first | exact PySem.boot_len | decide +kernel) (hn : x ≠ "__name__" := by decide) (hd : (x == ("__debug__" : Str)) = false := by decide)
    (he : starEach [a] X.env = (false, eval a X.env) :: starEach [] X.env := by rfl) (hpl : (backTo pos (starEach [] X.env)).any (·.1) = false := by rfl) : D X (.Call (.Name x p) [a] [] pos) σ G cs (rI (n : Int)) :=
  d_callB call_len hm (a_cons ha a_nil he) (fun G1 H vs s d hvs Q q => by
    obtain ⟨v, ws, e1, h1, h2⟩ := hvs
    cases h2
    obtain ⟨l, us, e, hl, hr⟩ := h1
    subst e
    exact ⟨_, n, e1, .inr ⟨us, seqT d.same hl, (h.len hr).symm⟩, q G1 H _ (Same.refl _) d rfl⟩) hg hv hn hd he hpl
end
end J

namespace J
open PySem L2 PyProof.Rows
section
variable {X : Cx} {σ : L2.St} {G : Hp} {cs : Cells} {a b e : Expr} {pos p : Pos}
theorem d_intB {x : Str} {k : Bool} (hm : X.mg x = none) (ha : D X a σ G cs (rB k)) (hg : Gl X x := by rfl) (hv : bootBuiltins x = some (.type "int") := by decide +kernel) (hn : x ≠ "__name__" := by decide) (hd : (x == ("__debug__" : Str)) = false := by decide)
    (he : starEach [a] X.env = (false, eval a X.env) :: starEach [] X.env := by rfl) (hpl : (backTo pos (starEach [] X.env)).any (·.1) = false := by rfl) : D X (.Call (.Name x p) [a] [] pos) σ G cs (rI (if k then 1 else 0)) :=
  d_callTy call_int1 hm (a_cons ha a_nil he) (fun G1 H vs s d hvs Q q => by
    obtain ⟨v, ws, e1, h1, h2⟩ := hvs
    cases h2
    cases h1
    exact .inr ⟨k, e1, q G1 H _ (Same.refl _) d rfl⟩) hg hv hn hd he hpl
/-! ### isinstance of one of two kinds -/
def kSum {α β : Type} (k k' : Bool) : α ⊕ β → Bool
  | .inl _ => k
  | .inr _ => k'
theorem d_isiS {α β : Type} {r : α → Hp → V → Prop} {r' : β → Hp → V → Prop} {x : α ⊕ β} {t t' u : String} {y : Str} {k k' : Bool} {py : Pos} [h : HasTy X.K r t] [h' : HasTy X.K r' t'] [∀ x, Mono (r x)] [∀ x, Mono (r' x)] (hm : X.mg "isinstance" = none) (hmy : X.mg y = none) (ha : D X a σ G cs (rSum r r' x)) (hk : kitB t u = some k := by decide +kernel) (hk' : kitB t' u = some k' := by decide +kernel)
    (hy : bootBuiltins y = some (.type u) := by decide +kernel) (hg : Gl X "isinstance" := by rfl) (hgy : Gl X y := by rfl) (hny : y ≠ "__name__" := by decide) (hdy : (y == ("__debug__" : Str)) = false := by decide)
    (hst : starEach [a, .Name y py] X.env = (false, eval a X.env) :: starEach [.Name y py] X.env := by rfl) (hst2 : starEach [.Name y py] X.env = (false, eval (.Name y py) X.env) :: starEach [] X.env := by rfl)
    (hpl : (backTo pos (starEach [.Name y py] X.env)).any (·.1) = false := by rfl) : D X (.Call (.Name "isinstance" p) [a, .Name y py] [] pos) σ G cs (rB (kSum k k' x)) := by
  cases x with
  | inl x => exact d_isi (r := r) (x := x) hm hmy ha hk hy hg hgy hny hdy hst hst2 hpl
  | inr x => exact d_isi (r := r') (x := x) hm hmy ha hk' hy hg hgy hny hdy hst hst2 hpl
/-! ### two kinds that are never equal -/
class NeR {α β : Type} (K : PySem.W.Frag) (r : α → Hp → V → Prop) (r' : β → Hp → V → Prop) [q : EqR K r] [q' : EqR K r'] : Prop where
  ne : ∀ x y, PyData.eqv (q.toD x) (q'.toD y) = false ∧ PyData.eqv (q'.toD y) (q.toD x) = false
instance (K : PySem.W.Frag) : NeR K rB rS := ⟨fun x y => by constructor <;> (show PyData.eqv _ _ = false; unfold PyData.eqv; rfl)⟩
instance (K : PySem.W.Frag) {α : Type} (r : α → Hp → V → Prop) [EqR K r] : NeR K rB (rL K r) := ⟨fun x y => by constructor <;> (show PyData.eqv _ _ = false; unfold PyData.eqv; rfl)⟩
instance (K : PySem.W.Frag) {α : Type} (r : α → Hp → V → Prop) [EqR K r] : NeR K rI (rL K r) := ⟨fun x y => by constructor <;> (show PyData.eqv _ _ = false; unfold PyData.eqv; rfl)⟩
instance (K : PySem.W.Frag) {α : Type} (r : α → Hp → V → Prop) [EqR K r] : NeR K rS (rL K r) := ⟨fun x y => by constructor <;> (show PyData.eqv _ _ = false; unfold PyData.eqv; rfl)⟩
instance (K : PySem.W.Frag) {α β : Type} (r : α → Hp → V → Prop) (r' : β → Hp → V → Prop) [q : EqR K r] [q' : EqR K r'] [n : NeR K r r'] : EqR K (rSum r r') where
  toD x := match x with
    | .inl i => q.toD i
    | .inr l => q'.toD l
  ok x := match x with
    | .inl i => q.ok i
    | .inr l => q'.ok l
  dep := max q.dep q'.dep
  dp {x} _ _ _ h s := by
    cases x with
    | inl i => exact q.dp h s
    | inr l => exact q'.dp h s
  lay {x} h := by
    cases x with
    | inl i => exact q.lay h
    | inr l => exact q'.lay h
  deep x := by
    cases x with
    | inl i => exact Nat.le_trans (q.deep i) (Nat.le_max_left _ _)
    | inr l => exact Nat.le_trans (q'.deep l) (Nat.le_max_right _ _)
  eqv x y := by
    cases x with
    | inl x =>
      cases y with
      | inl y => exact (q.eqv x y).trans ⟨fun h => by rw [h], fun h => by cases h; rfl⟩
      | inr y => exact ⟨fun h => (by rw [(n.ne x y).1] at h; cases h), fun h => nomatch h⟩
    | inr x =>
      cases y with
      | inl y => exact ⟨fun h => (by rw [(n.ne y x).2] at h; cases h), fun h => nomatch h⟩
      | inr y => exact (q'.eqv x y).trans ⟨fun h => by rw [h], fun h => by cases h; rfl⟩
/-! ### order of data -/
def rCmpD (K : PySem.W.Frag) (f : PyData → PyData → Bool) : R2 := fun x y H Q => ∃ d e, Dp K H x d ∧ Dp K H y e ∧ PySem.W.alike d e = true ∧ d ≠ .none ∧ d.depth ≤ 64 ∧ Q (.bl (f d e)) H
theorem op_ltD (hu : X.A.units + 64 < cLine) : OpR X (compareOp .Lt) (rCmpD X.K fun d e => PySem.W.dataLt d e) := by
  intro pins s σ H x y v u Q I rx ry h
  obtain ⟨d, e, hd, he, ha, hn, hz, q⟩ := h
  obtain ⟨as, r1⟩ := Dp.reads I d x v hd rx
  obtain ⟨bs, r2⟩ := Dp.reads I e y u he ry
  exact PySem.W.lt_data r1 r2 ha hn (by omega) ⟨.bl _, H, I, rfl, q⟩
theorem op_gtD (hu : X.A.units + 64 < cLine) : OpR X (compareOp .Gt) (rCmpD X.K fun d e => PySem.W.dataLt e d) := by
  intro pins s σ H x y v u Q I rx ry h
  obtain ⟨d, e, hd, he, ha, hn, hz, q⟩ := h
  obtain ⟨as, r1⟩ := Dp.reads I d x v hd rx
  obtain ⟨bs, r2⟩ := Dp.reads I e y u he ry
  exact PySem.W.gt_data r1 r2 ha hn (by omega) ⟨.bl _, H, I, rfl, q⟩
theorem op_leD (hu : X.A.units + 64 < cLine) : OpR X (compareOp .LtE) (rCmpD X.K fun d e => !PySem.W.dataLt e d) := by
  intro pins s σ H x y v u Q I rx ry h
  obtain ⟨d, e, hd, he, ha, hn, hz, q⟩ := h
  obtain ⟨as, r1⟩ := Dp.reads I d x v hd rx
  obtain ⟨bs, r2⟩ := Dp.reads I e y u he ry
  exact PySem.W.le_data r1 r2 ha hn (by omega) ⟨.bl _, H, I, rfl, q⟩
theorem op_geD (hu : X.A.units + 64 < cLine) : OpR X (compareOp .GtE) (rCmpD X.K fun d e => !PySem.W.dataLt d e) := by
  intro pins s σ H x y v u Q I rx ry h
  obtain ⟨d, e, hd, he, ha, hn, hz, q⟩ := h
  obtain ⟨as, r1⟩ := Dp.reads I d x v hd rx
  obtain ⟨bs, r2⟩ := Dp.reads I e y u he ry
  exact PySem.W.ge_data r1 r2 ha hn (by omega) ⟨.bl _, H, I, rfl, q⟩
end
theorem rm64 {k : Nat} {A : Around} (hr : Room k A) : A.units + 64 < cLine := Nat.lt_of_le_of_lt (by omega) hr.un
/-- order of plain data: any two of a kind are alike -/
class OrdR {α : Type} (K : PySem.W.Frag) (r : α → Hp → V → Prop) where
  toD : α → PyData
  dep : Nat
  dp : ∀ {x G H v}, r x G v → Same G H → Dp K H v (toD x)
  alike : ∀ x y, PySem.W.alike (toD x) (toD y) = true
  nn : ∀ x, toD x ≠ .none
  deep : ∀ x, (toD x).depth ≤ dep
instance (K : PySem.W.Frag) : OrdR K rI where
  toD := .int
  dep := 1
  dp h _ := by cases h; exact .int _
  alike _ _ := by unfold PySem.W.alike; rfl
  nn _ h := nomatch h
  deep x := by unfold PyData.depth; omega
/-- of lists of whole numbers: the first one that differs, or the shorter one -/
def ltI (xs ys : List Int) : Bool := PySem.W.dataLt (.list (xs.map .int)) (.list (ys.map .int))
theorem alikeInts : ∀ xs ys : List Int, PySem.W.alikeAll (xs.map .int) (ys.map .int) = true
  | [], ys => by rw [List.map_nil]; unfold PySem.W.alikeAll; rfl
  | x :: xs, [] => by rw [List.map_nil, List.map_cons]; unfold PySem.W.alikeAll; rfl
  | x :: xs, y :: ys => by
    rw [List.map_cons, List.map_cons]
    unfold PySem.W.alikeAll PySem.W.alike
    rw [alikeInts xs ys]
    rfl
section
variable {X : Cx} {σ : L2.St} {G : Hp} {cs : Cells} {a b e : Expr} {pos p : Pos} {xs ys : List Int} {G1 H : Hp} {x y : V} {Q : VK}
theorem c_ints {f : PyData → PyData → Bool} (hx : rL X.K rI xs G1 x) (hy : rL X.K rI ys G1 y) (s : Same G1 H) (q : Q (.bl (f (.list (xs.map .int)) (.list (ys.map .int)))) H) : rCmpD X.K f x y H Q := by
  have d1 := (inferInstance : EqR X.K (rL X.K rI)).dp hx s
  have d2 := (inferInstance : EqR X.K (rL X.K rI)).dp hy s
  refine ⟨.list (xs.map .int), .list (ys.map .int), d1, d2, ?_, fun z => (by cases z), ?_, q⟩
  · unfold PySem.W.alike
    exact alikeInts xs ys
  · have := (inferInstance : EqR X.K (rL X.K rI)).deep xs
    exact Nat.le_trans this (by exact Nat.le_of_ble_eq_true rfl)
/-- a list all of whose items are of the first kind -/
def unL {α β : Type} [Inhabited α] (x : α ⊕ β) : α := match x with
  | .inl y => y
  | .inr _ => default
def isL {α β : Type} (x : α ⊕ β) : Bool := match x with
  | .inl _ => true
  | .inr _ => false
theorem rs_unL {α β : Type} [Inhabited α] {r : α → Hp → V → Prop} {r' : β → Hp → V → Prop} : ∀ {xs : List (α ⊕ β)} {vs : List V}, xs.all isL = true → Rs (rSum r r') G xs vs → Rs r G (xs.map unL) vs
  | _, _, _, .nil => .nil
  | x :: _, _, ha, .cons h t => by
    rw [List.all_cons, Bool.and_eq_true] at ha
    cases x with
    | inl x => exact .cons h (rs_unL ha.2 t)
    | inr x => cases ha.1
theorem d_unL {α β : Type} [Inhabited α] {r : α → Hp → V → Prop} {r' : β → Hp → V → Prop} {xs : List (α ⊕ β)} (ha : D X a σ G cs (rL X.K (rSum r r') xs)) (h : xs.all isL = true) : D X a σ G cs (rL X.K r (xs.map unL)) :=
  ha.imp fun G v ⟨l, vs, e, hl, hr⟩ => ⟨l, vs, e, hl, rs_unL h hr⟩
def unR {α β : Type} [Inhabited β] (x : α ⊕ β) : β := match x with
  | .inl _ => default
  | .inr y => y
def isR {α β : Type} (x : α ⊕ β) : Bool := match x with
  | .inl _ => false
  | .inr _ => true
theorem d_unl {α β : Type} [Inhabited α] {r : α → Hp → V → Prop} {r' : β → Hp → V → Prop} {x : α ⊕ β} (ha : D X a σ G cs (rSum r r' x)) (h : isL x = true) : D X a σ G cs (r (unL x)) := by
  cases x with
  | inl x => exact ha
  | inr x => cases h
theorem d_unr {α β : Type} [Inhabited β] {r : α → Hp → V → Prop} {r' : β → Hp → V → Prop} {x : α ⊕ β} (ha : D X a σ G cs (rSum r r' x)) (h : isR x = true) : D X a σ G cs (r' (unR x)) := by
  cases x with
  | inl x => cases h
  | inr x => exact ha
/-! ### slices of tuples: the first n places -/
def Tk (R : Hp → List V → Prop) (n m : Nat) (P : Hp → List V → Prop) : Prop := ∀ G vs, R G vs → vs.length = m ∧ P G (vs.take n)
theorem tk_1 {α β : Type} {r : α → Hp → V → Prop} {r' : β → Hp → List V → Prop} {m : Nat} [h : LenT r' m] {x : α × β} : Tk (cc r r' x) 1 (m + 1) (c0 r x.1) := fun G vs ⟨v, ws, e, h1, h2⟩ => by
  rw [e]
  exact ⟨by rw [List.length_cons, h.len h2], v, rfl, h1⟩
theorem tk_c {α β γ : Type} {r : α → Hp → V → Prop} {r' : β → Hp → List V → Prop} {r2 : γ → Hp → List V → Prop} {n m : Nat} {x : α × β} {y : γ} (h : Tk (r' x.2) n m (r2 y)) : Tk (cc r r' x) (n + 1) (m + 1) (cc r r2 (x.1, y)) := fun G vs ⟨v, ws, e, h1, h2⟩ => by
  obtain ⟨k1, k2⟩ := h G ws h2
  rw [e]
  exact ⟨by rw [List.length_cons, k1], v, ws.take n, rfl, h1, k2⟩
theorem d_slT {α γ : Type} {r : α → Hp → List V → Prop} {r2 : γ → Hp → List V → Prop} [∀ x, MonoA (r x)] [∀ x, MonoA (r2 x)] {x : α} {y : γ} {n m : Nat} {hi : Option Expr} {p2 : Pos} (ha : D X a σ G cs (rT X.K r x)) (hu : DO X hi σ G cs (some (n : Int))) (ht : Tk (r x) n m (r2 y)) (hn : n < m := by decide) : D X (.Subscript a (.Slice none hi none p2) pos) σ G cs (rT X.K r2 y) :=
  d_by (pe_slice sl_tup (sE X a) (sO none) (sO hi)) fun G1 H s d Q q => ha G1 H s d _ fun G2 H2 v s2 d2 hv => do_none (X := X) (σ := σ) (cs := cs) G2 H2 (s.trans s2) d2 _ fun G3 H3 s3 d3 => hu G3 H3 ((s.trans s2).trans s3) d3 _ fun G4 H4 s4 d4 => by
    obtain ⟨l, vs, e, hl, hr⟩ := Mono.mono (s3.trans s4) hv
    obtain ⟨k1, k2⟩ := ht G4 vs hr
    have e0 : HT.sIx vs.length 0 none = 0 := HT.sIx_none _ _
    have e1 : HT.sIx vs.length vs.length (some (n : Int)) = n := by rw [HT.sIx_nat]; omega
    refine ⟨l, vs, e, seqT d4.same hl, by rw [e0, e1]; omega, fun p hp => ?_⟩
    have ec : cutV vs none (some (n : Int)) = vs.take n := by
      unfold cutV
      rw [e0, e1]
      rfl
    rw [ec]
    have sf : Same G4 (upd G4 p (.tup (vs.take n))) := Same.fresh d4.same hp _
    exact q _ _ _ (((s2.trans s3).trans s4).trans sf) (d4.new hp _) ⟨p, vs.take n, rfl, SqT.of upd_same, MonoA.mono sf k2⟩
end
section
variable {n : Nat} {adr : Fin n → Addr} {S L R : Type} {X : Cx} {Wx : WX} {σ : L2.St} {G : Hp} {cs : Cells} {rest : List Stmt} {e tg : Expr} {pos p : Pos} {Φ : Po (Fin n) S L R} {O : Type} {P : O → Hp → V → Prop} {m : Except (Fin n) O}
/-- a, b = f(..) that may raise -/
theorem b_asgE {g : O → Out (Fin n) S L R} {Sx : O → Hp → L2.St → L2.St → Prop} (he : DE X adr Wx e σ G cs P m) (ht : Tg X tg P Sx) (kr : ∀ k, m = .error k → ∀ G1, Same G G1 → Φ.er k σ G1 cs)
    (k : ∀ o, m = .ok o → ∀ σ' G1, Same G G1 → Sx o G1 σ σ' → B X (wE2 adr Wx) rest σ' G1 cs Φ (g o))
    (hs : swapsWithSole [tg] e pos.line X.env = pure false := by rfl) (hw : swappedStores [tg] e X.env = pure none := by rfl) (h1 : (assignEach [tg] X.env).map (·.2) = [assign tg X.env] := by rfl) : B X (wE2 adr Wx) (.Assign [tg] e pos :: rest) σ G cs Φ (callE m g) := by
  obtain ⟨gt, hg, h2⟩ := ht
  refine b_cons (ps_asg (sE X e) hg hs hw (h1 := h1)) fun H d E w => he G H (Same.refl _) d _ ?_
  cases hm : m with
  | ok o =>
    rw [hm] at w
    exact fun G2 H2 v s2 d2 hv => h2 o v G2 cs H2 σ hv d2 _ fun σ' hS => k o hm σ' G2 s2 hS H2 d2 E (Wish.up (m := g o) w s2)
  | error c =>
    rw [hm] at w
    exact fun G2 H2 s2 d2 => w σ G2 cs H2 s2 d2 (kr c hm G2 s2)
end
section
variable {n : Nat} {adr : Fin n → Addr} {X : Cx} {Wx : WX} {σ : L2.St} {G : Hp} {cs : Cells} {a b : Expr} {rest : List Expr} {pos : Pos} {O : Type} {m : Except (Fin n) O}
theorem de_callQ {I O : Type} {pre : I → Hp → List V → Prop} {r : I → O → Hp → V → Prop} {m : I → Except (Fin n) O} {P : O → Hp → V → Prop} {e : Expr} {es : List Expr} {p : Pos} {k j a : Nat} {x : Str} {Ps : Hp → List V → Prop} (i : I) (F : Fn0 X.prog X.w X.K X.mg X.base (L2.CX X.prog X.w) k x a (SpE (cE adr) pre r m)) (tk : Takes X Wx) (hr : Room j X.A) (hk : k ≤ j)
    (ha : A X (e :: es) σ G cs Ps) (hp : ∀ G1 vs, Same G G1 → Ps G1 vs → pre i G1 vs) (hP : ∀ o G v, r i o G v → P o G v) {mm : Except (Fin n) O} (hmm : m i = mm := by rfl) (hg : Gl X x := by rfl) (hd : (x == ("__debug__" : Str)) = false := by decide)
    (he : starEach (e :: es) X.env = (false, eval e X.env) :: starEach es X.env := by exact star_plain rfl) (hpl : (backTo pos (starEach es X.env)).any (·.1) = false := by rfl) : DE X adr Wx (.Call (.Name x p) (e :: es) [] pos) σ G cs P mm := by
  subst hmm
  exact (de_call i F tk hr hk ha hp hg hd he hpl).imp hP
/-- a call that may raise, ahead in a comparison, in an and -/
theorem de_cmp {op : CmpOp} {r : R2} {Pa : O → Hp → V → Prop} {Pb : Hp → V → Prop} {k : O → Bool} [∀ o, Mono (Pa o)] (ho : OpR X (compareOp op) r) (hm : behindInMarks op b = false) (ha : DE X adr Wx a σ G cs Pa m) (hb : D X b σ G cs Pb)
    (hr : ∀ o G1 H x y, Same G G1 → Desc G1 cs H → Pa o G1 x → Pb G1 y → ∀ Q : VK, Q (.bl (k o)) H → r x y H Q) : DE X adr Wx (.Compare a [op] [b] pos) σ G cs (fun o => rB (k o)) m := fun G1 H s d Q q =>
  uE (pe_cmpR ho (sE X a) (sE X b) hm) (ha G1 H s d _ (by
    cases hk : m with
    | ok o =>
      rw [hk] at q
      exact fun G2 H2 x s2 d2 hx => hb G2 H2 (s.trans s2) d2 _ fun G3 H3 y s3 d3 hy => hr o G3 H3 x y ((s.trans s2).trans s3) d3 (Mono.mono s3 hx) hy Q (q G3 H3 _ (s2.trans s3) d3 rfl)
    | error c =>
      rw [hk] at q
      exact q))
theorem de_and {k k' : O → Bool} (h : DE X adr Wx a σ G cs (fun o => rB (k o)) m) (h' : ∀ o, k o = true → D X (.BoolOp .And (b :: rest) pos) σ G cs (rB (k' o))) : DE X adr Wx (.BoolOp .And (a :: b :: rest) pos) σ G cs (fun o => rB (k o && k' o)) m := fun G1 H s d Q q =>
  uE (pe_and (sE X a) (sE X _)) (h G1 H s d _ (by
    cases hk : m with
    | ok o =>
      rw [hk] at q
      refine fun G2 H2 v s2 d2 hv => ⟨k o, hv, ?_⟩
      cases hko : k o with
      | false => exact iteF (q G2 H2 _ s2 d2 (by show _ = V.bl (k o && k' o); rw [hko]; rfl))
      | true => exact iteT (h' o hko G2 H2 (s.trans s2) d2 Q fun G3 H3 w s3 d3 hw => q G3 H3 w (s2.trans s3) d3 (by show _ = V.bl (k o && k' o); rw [hko]; exact hw))
    | error c =>
      rw [hk] at q
      exact q))
end
section
variable {ε S L R : Type} {X : Cx} {W : ε → L2.St → Hp → Prop} {σ : L2.St} {G : Hp} {cs : Cells} {Φ : Po ε S L R} {m : Out ε S L R} {rest : List Stmt} {e o i : Expr} {P : Hp → V → Prop} {pos p : Pos}
/-- xs[i] = e, xs the cell at k -/
theorem b_put (k : Nat) {l : Addr} {vs : List V} {z : Int} {j : Nat} (hk : cs[k]? = some (l, .lst vs)) (he : D X e σ G cs P) (ho : D X o σ G cs (rV (.ref l))) (hi : D X i σ G cs (rI z)) (hj : ixN vs.length z = some j)
    (q : ∀ v G1, Same G G1 → P G1 v → B X W rest σ G1 (cs.set k (l, .lst (vs.set j v))) Φ m) [Mono P]
    (ha : ∀ v, assign (.Subscript o i p) X.env v = (do
      let ov ← holding [v] (eval o X.env)
      let iv ← holding [v, ov] (eval i X.env)
      standAt p
      holding [v, ov, iv] (setItem ov iv v)
      release [v, ov, iv] []) := by intro _; rfl)
    (hs : swapsWithSole [.Subscript o i p] e pos.line X.env = pure false := by rfl) (hw : swappedStores [.Subscript o i p] e X.env = pure none := by rfl) (h1 : (assignEach [.Subscript o i p] X.env).map (·.2) = [assign (.Subscript o i p) X.env] := by rfl) :
    B X W (.Assign [.Subscript o i p] e pos :: rest) σ G cs Φ m :=
  b_cons (ps_asg (sE X e) (pg_sub (sE X o) (sE X i) set_list ha) hs hw (h1 := h1)) fun H d E w => he G H (Same.refl _) d _ fun G2 H2 v s2 d2 hv =>
    ho G2 H2 s2 d2 _ fun G3 H3 u s3 d3 hu => hi G3 H3 (s2.trans s3) d3 _ fun G4 H4 y s4 d4 hy => by
      have eu : u = .ref l := hu
      have ey : y = .int z := hy
      subst eu ey
      exact ⟨l, vs, z, j, rfl, rfl, d4.at_ (List.mem_of_getElem? hk), hj, q v G4 ((s2.trans s3).trans s4) (Mono.mono (s3.trans s4) hv) _ (d4.write hk _) E (w.up ((s2.trans s3).trans s4))⟩
end
/-- xs with its place i changed -/
def putL {α : Type} (xs : List α) (i : Int) (x : α) : List α := xs.set ((ixN xs.length i).getD 0) x
theorem putL_len {α : Type} (xs : List α) (i : Int) (x : α) : (putL xs i x).length = xs.length := by
  unfold putL
  rw [List.length_set]
theorem ixN_ok {n : Nat} {i : Int} (h : -(n : Int) ≤ i ∧ i < (n : Int)) : ixN n i = some ((ixN n i).getD 0) := by
  unfold ixN
  by_cases h0 : 0 ≤ i
  · rw [if_pos h0, if_pos h.2]
    rfl
  · rw [if_neg h0, if_pos h.1]
    rfl
theorem Rs.put {α : Type} {r : α → Hp → V → Prop} {G : Hp} {xs : List α} {vs : List V} {x : α} {v : V} (hx : r x G v) (h : Rs r G xs vs) (i : Int) : Rs r G (putL xs i x) (vs.set ((ixN vs.length i).getD 0) v) := by
  unfold putL
  rw [h.length]
  exact Rs.set hx _ h
end J

namespace J
open PySem L2 PyProof.Rows
/-- a text's signs -/
def tlS (x : Str) : List Nat := x.cps.toList
theorem S_tlS (x : Str) : SX.S (tlS x) = x := SX.S_tl x
def zfL (z : List Nat) (n : Int) : List Nat := tlS (Txt.zfill (SX.S z) n)
def ljL (z : List Nat) (n : Int) (w : List Nat) : List Nat := tlS (Txt.ljustF (SX.S z) n ((SX.S w).cps.getD 0 0))
def digB (z : List Nat) : Bool := Txt.isdigit (SX.S z)
def findL (z w : List Nat) : Int := Txt.find (SX.S z) (SX.S w)
def partL (z w : List Nat) : List Nat × List Nat × List Nat := (tlS (Txt.partition (SX.S z) (SX.S w)).1, tlS (Txt.partition (SX.S z) (SX.S w)).2.1, tlS (Txt.partition (SX.S z) (SX.S w)).2.2)
def splL (z w : List Nat) : List (List Nat) := (Txt.split (SX.S z) (SX.S w)).map tlS
def joiL (z : List Nat) (ws : List (List Nat)) : List Nat := tlS (Txt.join (SX.S z) (ws.map SX.S))
def numT (z : List Nat) : Int := (PySem.intText? (SX.S z)).getD 0
/-- a number that is not negative, written -/
def decL (i : Int) : List Nat := TL.numL i.toNat
theorem rs_str {G : Hp} {xs : List (List Nat)} {vs : List V} (h : Rs rS G xs vs) : vs = (xs.map SX.S).map V.str := by
  rw [List.map_map]
  exact h.map fun _ _ e => e
theorem rs_tlS {G : Hp} (ys : List Str) : Rs rS G (ys.map tlS) (ys.map V.str) := by
  induction ys with
  | nil => exact .nil
  | cons y ys ih => exact .cons (show V.str y = V.str (SX.S (tlS y)) by rw [S_tlS]) ih
section
variable {X : Cx} {σ : L2.St} {G : Hp} {cs : Cells} {o a b e : Expr} {es : List Expr} {pos p : Pos} {z w : List Nat} {n : Int} {apos : Pos}
theorem d_zfill (ho : D X o σ G cs (rS z)) (he : D X e σ G cs (rI n)) (hp : PadOk n = true) (hs : starEach [e] X.env = [(false, eval e X.env)] := by rfl) (hbase : attributeBase o "zfill" X.env (eval o X.env) = eval o X.env := by rfl) (hline : (apos.endLine == pos.line) = true := by rfl) :
    D X (.Call (.Attribute o "zfill" apos) [e] [] pos) σ G cs (rS (zfL z n)) :=
  d_by (pe_m1 PySem.F.slot_str_zfill PySem.F.type_str_zfill mt_zfill (sE X o) (sE X e) hs hbase hline) fun G1 H s d Q q => ho G1 H s d _ fun G2 H2 u s2 d2 hu => ⟨⟨_, hu⟩, he G2 H2 (s.trans s2) d2 _ fun G3 H3 v s3 d3 hv => by
    refine ⟨SX.S z, n, hu, by rw [show v = .int n from hv], hp, q G3 H3 _ (s2.trans s3) d3 ?_⟩
    show _ = V.str (SX.S (zfL z n))
    unfold zfL
    rw [S_tlS]⟩
theorem d_isdigit (ho : D X o σ G cs (rS z)) (hbase : attributeBase o "isdigit" X.env (eval o X.env) = eval o X.env := by rfl) (hline : (apos.endLine == pos.line) = true := by rfl) : D X (.Call (.Attribute o "isdigit" apos) [] [] pos) σ G cs (rB (digB z)) :=
  d_by (pe_m0 PySem.F.slot_str_isdigit PySem.F.type_str_isdigit mt_isdigit (sE X o) hbase hline) fun G1 H s d Q q => ho G1 H s d _ fun G2 H2 u s2 d2 hu => ⟨⟨_, hu⟩, SX.S z, hu, rfl, trivial, q G2 H2 _ s2 d2 rfl⟩
theorem d_find (ho : D X o σ G cs (rS z)) (he : D X e σ G cs (rS w)) (hs : starEach [e] X.env = [(false, eval e X.env)] := by rfl) (hbase : attributeBase o "find" X.env (eval o X.env) = eval o X.env := by rfl) (hline : (apos.endLine == pos.line) = true := by rfl) :
    D X (.Call (.Attribute o "find" apos) [e] [] pos) σ G cs (rI (findL z w)) :=
  d_by (pe_m1 PySem.F.slot_str_find PySem.F.type_str_find mt_find (sE X o) (sE X e) hs hbase hline) fun G1 H s d Q q => ho G1 H s d _ fun G2 H2 u s2 d2 hu => ⟨⟨_, hu⟩, he G2 H2 (s.trans s2) d2 _ fun G3 H3 v s3 d3 hv =>
    ⟨SX.S z, SX.S w, hu, by rw [show v = .str (SX.S w) from hv], q G3 H3 _ (s2.trans s3) d3 rfl⟩⟩
theorem d_part (ho : D X o σ G cs (rS z)) (he : D X e σ G cs (rS w)) (hw : (w.length == 0) = false) (hz : z.length ≤ sizeLine) (hs : starEach [e] X.env = [(false, eval e X.env)] := by rfl) (hbase : attributeBase o "partition" X.env (eval o X.env) = eval o X.env := by rfl) (hline : (apos.endLine == pos.line) = true := by rfl) :
    D X (.Call (.Attribute o "partition" apos) [e] [] pos) σ G cs (rT X.K (cc rS (cc rS (c0 rS))) (partL z w)) :=
  d_by (pe_partition (sE X o) (sE X e) hs hbase hline) fun G1 H s d Q q => ho G1 H s d _ fun G2 H2 u s2 d2 hu => ⟨⟨_, hu⟩, he G2 H2 (s.trans s2) d2 _ fun G3 H3 v s3 d3 hv => by
    refine ⟨SX.S z, SX.S w, hu, by rw [show v = .str (SX.S w) from hv], by rw [SX.S_len]; exact hw, by rw [SX.S_len]; exact hz, fun l hl => ?_⟩
    have sf : Same G3 (upd G3 l (.tup [.str (Txt.partition (SX.S z) (SX.S w)).1, .str (Txt.partition (SX.S z) (SX.S w)).2.1, .str (Txt.partition (SX.S z) (SX.S w)).2.2])) := Same.fresh d3.same hl _
    refine q _ _ _ ((s2.trans s3).trans sf) (d3.new hl _) ⟨l, _, rfl, SqT.of upd_same, _, _, rfl, ?_, _, _, rfl, ?_, _, rfl, ?_⟩
    · show _ = V.str (SX.S (partL z w).1)
      unfold partL
      rw [S_tlS]
    · show _ = V.str (SX.S (partL z w).2.1)
      unfold partL
      rw [S_tlS]
    · show _ = V.str (SX.S (partL z w).2.2)
      unfold partL
      rw [S_tlS]⟩
theorem n_split (ho : D X o σ G cs (rS z)) (he : D X e σ G cs (rS w)) (hw : (w.length == 0) = false) (hz : z.length + 2 ≤ sizeLine) (hs : starEach [e] X.env = [(false, eval e X.env)] := by rfl) (hbase : attributeBase o "split" X.env (eval o X.env) = eval o X.env := by rfl) (hline : (apos.endLine == pos.line) = true := by rfl) :
    N X (.Call (.Attribute o "split" apos) [e] [] pos) σ G cs rS (splL z w) := fun G1 H s d Q q =>
  uE (pe_split (sE X o) (sE X e) hs hbase hline) (ho G1 H s d _ fun G2 H2 u s2 d2 hu => ⟨⟨_, hu⟩, he G2 H2 (s.trans s2) d2 _ fun G3 H3 v s3 d3 hv =>
    ⟨SX.S z, SX.S w, hu, by rw [show v = .str (SX.S w) from hv], by rw [SX.S_len]; exact hw, by rw [SX.S_len]; exact hz, fun l hl => q G3 _ l _ (s2.trans s3) (d3.newCell hl _) (rs_tlS _)⟩⟩)
theorem d_join {ws : List (List Nat)} (ho : D X o σ G cs (rS z)) (he : D X e σ G cs (rdL X.K cs rS ws)) (hz : (ws.map List.length).sum + ws.length * z.length ≤ 16777216) (hs : starEach [e] X.env = [(false, eval e X.env)] := by rfl) (hbase : attributeBase o "join" X.env (eval o X.env) = eval o X.env := by rfl) (hline : (apos.endLine == pos.line) = true := by rfl) :
    D X (.Call (.Attribute o "join" apos) [e] [] pos) σ G cs (rS (joiL z ws)) :=
  d_by (pe_join (sE X o) (sE X e) hs hbase hline) fun G1 H s d Q q => ho G1 H s d _ fun G2 H2 u s2 d2 hu => ⟨⟨_, hu⟩, he G2 H2 (s.trans s2) d2 _ fun G3 H3 v s3 d3 hv => by
    obtain ⟨l, vs, e1, hl, hr⟩ := hv.sq d3
    have ev := rs_str hr
    subst ev
    refine ⟨SX.S z, l, ws.map SX.S, hu, by rw [e1], .inl hl, ?_, q G3 H3 _ (s2.trans s3) d3 ?_⟩
    · rw [SX.lens, List.length_map, SX.S_len]
      exact hz
    · show _ = V.str (SX.S (joiL z ws))
      unfold joiL
      rw [S_tlS]⟩
theorem d_strI {x : Str} (hm : X.mg x = none) (ha : D X a σ G cs (rI n)) (h0 : 0 ≤ n) (hb : n < 2 ^ 1000) (hg : Gl X x := by rfl) (hv : bootBuiltins x = some (.type "str") := by decide +kernel) (hn : x ≠ "__name__" := by decide) (hd : (x == ("__debug__" : Str)) = false := by decide)
    (he : starEach [a] X.env = (false, eval a X.env) :: starEach [] X.env := by rfl) (hpl : (backTo pos (starEach [] X.env)).any (·.1) = false := by rfl) : D X (.Call (.Name x p) [a] [] pos) σ G cs (rS (decL n)) :=
  d_callTy call_str_int hm (a_cons ha a_nil he) (fun G1 H vs s d hvs Q q => by
    obtain ⟨v, ws, e1, h1, h2⟩ := hvs
    cases h2
    cases h1
    refine ⟨n, e1, ?_, q G1 H _ (Same.refl _) d ?_⟩
    · by_cases z : n.natAbs = 0
      · rw [z]
        decide
      · exact Nat.lt_trans ((Nat.log2_lt z).mpr (show n.natAbs < 2 ^ 1000 by omega)) (by decide)
    · show _ = V.str (SX.S (decL n))
      unfold decL
      obtain ⟨k, rfl⟩ := Int.eq_ofNat_of_zero_le h0
      exact congrArg V.str (SX.num_S k)) hg hv hn hd he hpl
theorem d_intS {x : Str} (hm : X.mg x = none) (ha : D X a σ G cs (rS z)) (h0 : (PySem.intText? (SX.S z)).isSome = true) (hb : z.length ≤ 640) (hg : Gl X x := by rfl) (hv : bootBuiltins x = some (.type "int") := by decide +kernel) (hn : x ≠ "__name__" := by decide) (hd : (x == ("__debug__" : Str)) = false := by decide)
    (he : starEach [a] X.env = (false, eval a X.env) :: starEach [] X.env := by rfl) (hpl : (backTo pos (starEach [] X.env)).any (·.1) = false := by rfl) : D X (.Call (.Name x p) [a] [] pos) σ G cs (rI (numT z)) :=
  d_callTy call_int_str hm (a_cons ha a_nil he) (fun G1 H vs s d hvs Q q => by
    obtain ⟨v, ws, e1, h1, h2⟩ := hvs
    cases h2
    cases h1
    refine ⟨SX.S z, numT z, e1, ?_, by rw [SX.S_len]; exact hb, q G1 H _ (Same.refl _) d rfl⟩
    unfold numT
    cases hc : PySem.intText? (SX.S z) with
    | none => rw [hc] at h0; cases h0
    | some k => rfl) hg hv hn hd he hpl
theorem d_ord {x : Str} {c : Nat} (hm : X.mg x = none) (ha : D X a σ G cs (rS [c])) (hg : Gl X x := by rfl) (hv : bootBuiltins x = some (.builtin "ord") := by decide +kernel) (hn : x ≠ "__name__" := by decide) (hd : (x == ("__debug__" : Str)) = false := by decide)
    (he : starEach [a] X.env = (false, eval a X.env) :: starEach [] X.env := by rfl) (hpl : (backTo pos (starEach [] X.env)).any (·.1) = false := by rfl) : D X (.Call (.Name x p) [a] [] pos) σ G cs (rI (c : Int)) :=
  d_callB call_ord hm (a_cons ha a_nil he) (fun G1 H vs s d hvs Q q => by
    obtain ⟨v, ws, e1, h1, h2⟩ := hvs
    cases h2
    cases h1
    exact ⟨SX.S [c], e1, rfl, q G1 H _ (Same.refl _) d rfl⟩) hg hv hn hd he hpl
/-! ### texts in texts -/
def inT (z w : List Nat) : Bool := !(Builtin.Str.occurrences (SX.S w) (SX.S z) 0 (SX.S w).length 1).isEmpty
theorem inT_one (c : Nat) (w : List Nat) : inT [c] w = decide (c ∈ w) := SX.in_one w c
theorem d_inT (ha : D X a σ G cs (rS z)) (hb : D X b σ G cs (rS w)) (hm : behindInMarks .In b = false := by rfl) : D X (.Compare a [.In] [b] pos) σ G cs (rB (inT z w)) :=
  d_cmp op_in_str hm ha hb fun G1 H u v s d hu hv Q q => ⟨SX.S z, SX.S w, hu, hv, q⟩
theorem d_ninT (ha : D X a σ G cs (rS z)) (hb : D X b σ G cs (rS w)) (hm : behindInMarks .NotIn b = false := by rfl) : D X (.Compare a [.NotIn] [b] pos) σ G cs (rB (!inT z w)) :=
  d_cmp op_notIn_str hm ha hb fun G1 H u v s d hu hv Q q => ⟨SX.S z, SX.S w, hu, hv, q⟩
theorem t_inT (ha : D X a σ G cs (rS z)) (hb : D X b σ G cs (rS w)) (hm : behindInMarks .In b = false := by rfl) : T X (.Compare a [.In] [b] pos) σ G cs (inT z w) :=
  t_cmp op_in_str hm ha hb fun G1 H u v s d hu hv Q q => ⟨SX.S z, SX.S w, hu, hv, q⟩
theorem t_ninT (ha : D X a σ G cs (rS z)) (hb : D X b σ G cs (rS w)) (hm : behindInMarks .NotIn b = false := by rfl) : T X (.Compare a [.NotIn] [b] pos) σ G cs (!inT z w) :=
  t_cmp op_notIn_str hm ha hb fun G1 H u v s d hu hv Q q => ⟨SX.S z, SX.S w, hu, hv, q⟩
/-! ### order of texts -/
theorem c_leS {H : Hp} {Q : VK} {x y : V} {G1 : Hp} (hx : rS z G1 x) (hy : rS w G1 y) (q : Q (.bl (!decide (w < z))) H) : ∃ i j, x = .str i ∧ y = .str j ∧ Q (.bl (!decide (j.cps.toList < i.cps.toList))) H := ⟨SX.S z, SX.S w, hx, hy, q⟩
/-! ### text times number -/
def repS (z : List Nat) (n : Int) : List Nat := (List.replicate n.toNat z).flatten
theorem foldl_cps : ∀ (k : Nat) (z : List Nat) (acc : Array Nat), ((List.replicate k z.toArray).foldl (· ++ ·) acc) = acc ++ ((List.replicate k z).flatten).toArray
  | 0, z, acc => by simp
  | k + 1, z, acc => by
    rw [List.replicate_succ, List.foldl_cons, foldl_cps k z, List.replicate_succ, List.flatten_cons]
    simp [Array.append_assoc]
theorem repS_len (z : List Nat) (n : Int) : (repS z n).length = n.toNat * z.length := by
  unfold repS
  rw [List.length_flatten, List.map_replicate, List.sum_replicate_nat]
theorem op_repS : OpR X (binaryOp .Mult) (fun x y H Q => ∃ (z : List Nat) (n : Int), x = .str (SX.S z) ∧ y = .int n ∧ -(2 ^ 31) < n ∧ n < 2 ^ 31 ∧ n.toNat * z.length ≤ 16777216 ∧ Q (.str (SX.S (repS z n))) H) := by
  intro pins s σ H x y v u Q I rx ry h
  obtain ⟨z, n, rfl, rfl, h1, h2, h3, q⟩ := h
  obtain ⟨t, rfl⟩ := rx
  obtain ⟨t', rfl⟩ := ry
  have el := SX.S_len z
  have es : ¬ n < 1 → (⟨(List.replicate n.toNat (SX.S z).cps).foldl (· ++ ·) #[]⟩ : Str) = SX.S (repS z n) := fun _ => by
    have e := foldl_cps n.toNat z #[]
    show (⟨(List.replicate n.toNat z.toArray).foldl (· ++ ·) #[]⟩ : Str) = ⟨(repS z n).toArray⟩
    rw [e]
    simp [repS]
  have hl : (SX.S (repS z n)).length ≤ sizeLine := by
    rw [SX.S_len, repS_len, sizeLine_eq]
    exact h3
  refine PySem.P.mul_str (by rw [decide_eq_false (by omega), decide_eq_false (by omega)]; rfl) (fun a _ => ?_) (fun a _ => ?_) ?_
  · rw [el]
    have hz : (z.length : Int) ≤ 16777216 := by
      have : z.length ≤ n.toNat * z.length := Nat.le_mul_of_pos_left _ (by omega)
      omega
    have hd : (4294967296 : Int) ≤ (2 ^ 63 - 1) / n := (Int.le_ediv_iff_mul_le (by omega)).mpr (by omega)
    omega
  · unfold Builtin.Str.tooLong
    rw [el]
    have := sizeLine_eq
    rw [Nat.mul_comm]
    simp
    omega
  · by_cases a : n < 1
    · rw [if_pos a]
      have e : repS z n = [] := by
        unfold repS
        rw [show n.toNat = 0 by omega]
        rfl
      rw [e] at q
      exact ⟨by decide, .str (SX.S []), H, I.tok _, ⟨_, rfl⟩, q⟩
    · rw [if_neg a]
      by_cases b : (n == 1 || (SX.S z).length == 0) = true
      · rw [if_pos b]
        have e : repS z n = z := by
          unfold repS
          rw [Bool.or_eq_true, beq_iff_eq, beq_iff_eq, el] at b
          rcases b with b | b
          · rw [b]
            simp
          · have e0 : z = [] := List.eq_nil_of_length_eq_zero b
            rw [e0]
            simp
        rw [e] at q
        exact ⟨.str (SX.S z), H, I, ⟨_, rfl⟩, q⟩
      · rw [if_neg b]
        rw [es a]
        exact ⟨hl, .str (SX.S (repS z n)), H, I.tok _, ⟨_, rfl⟩, q⟩
theorem d_repS (ha : D X a σ G cs (rS z)) (hb : D X b σ G cs (rI n)) (h1 : -(2 ^ 31) < n ∧ n < 2 ^ 31) (h3 : n.toNat * z.length ≤ 16777216) : D X (.BinOp a .Mult b pos) σ G cs (rS (repS z n)) :=
  d_bin op_repS ha hb fun G1 H u v s d hu hv Q q => ⟨z, n, hu, hv, h1.1, h1.2, h3, q G1 H _ (Same.refl _) d rfl⟩
theorem rs_rep {α : Type} {r : α → Hp → V → Prop} {xs : List α} {vs : List V} (h : Rs r G xs vs) : ∀ k : Nat, Rs r G (List.replicate k xs).flatten (List.replicate k vs).flatten
  | 0 => .nil
  | k + 1 => by
    rw [List.replicate_succ, List.replicate_succ, List.flatten_cons, List.flatten_cons]
    exact Rs.append (rs_rep h k) h
theorem n_rep {α : Type} {r : α → Hp → V → Prop} [∀ x, Mono (r x)] {xs : List α} (ha : N X a σ G cs r xs) (hb : D X b σ G cs (rI n)) (h1 : -(2 ^ 31) < n ∧ n < 2 ^ 31) (h3 : xs.length * n.toNat ≤ 16777216) : N X (.BinOp a .Mult b pos) σ G cs r (List.replicate n.toNat xs).flatten := fun G1 H s d Q q =>
  uE (pe_op op_rep (sE X a) (sE X b)) (ha G1 H s d _ fun G2 H2 l vs s2 d2 hr => by
    obtain ⟨f1, f2⟩ := d2.freeze
    refine hb _ H2 (s.trans (s2.trans f1)) f2 _ fun G3 H3 v s3 d3 hv => ?_
    refine ⟨l, n, vs, rfl, hv, d3.same _ _ (s3 _ _ upd_same), by omega, by omega, by rw [← hr.length]; exact sl_small h3, fun p hp => ?_⟩
    exact q G3 _ p _ ((s2.trans f1).trans s3) (d3.newCell hp _) (rs_rep (hr.mono (f1.trans s3)) _))
theorem mt_ljF : MtR X "str.ljust" (fun x xs H Q => ∃ (z : Str) (n : Int) (w : Str), x = .str z ∧ xs = [.int n, .str w] ∧ PadOk n = true ∧ w.length = 1 ∧ Q (.str (Txt.ljustF z n (w.cps.getD 0 0))) H) := by
  intro pins s σ H x xs v us Q I rx rs h
  obtain ⟨z, n, w, rfl, rfl, h1, h2, q⟩ := h
  obtain ⟨t, rfl⟩ := rx
  cases rs with
  | cons r1 rs =>
    cases rs with
    | cons r2 rs =>
      cases rs
      obtain ⟨u1, rfl⟩ := r1
      obtain ⟨u2, rfl⟩ := r2
      exact PyProof.Rows.ljust_fill h1 h2 fun t' k => ⟨.str (Txt.ljustF z n (w.cps.getD 0 0)), H, I.tok k, ⟨_, rfl⟩, q⟩
theorem d_ljust {cpos : Pos} (ho : D X o σ G cs (rS z)) (ha : D X a σ G cs (rI n)) (hb : D X b σ G cs (rS w)) (hp : PadOk n = true) (hw : w.length = 1) (hbase : attributeBase o "ljust" X.env (eval o X.env) = eval o X.env := by rfl)
    (hfew : ((backTo cpos (starEach [a, b] X.env)).all (fun x => !x.1) && (backToKw cpos (keywordEach [] X.env)).all (fun x => x.1.isSome)
      && decide ([a, b].length + ([] : List Keyword).length + (if ([] : List Keyword).isEmpty then 0 else 1) < 30)) = true := by rfl)
    (hline : (apos.endLine == cpos.line) = true := by rfl) (hs : starEach [a, b] X.env = (false, eval a X.env) :: starEach [b] X.env := by rfl) (hs2 : starEach [b] X.env = (false, eval b X.env) :: starEach [] X.env := by rfl) (hplain : (backTo cpos (starEach [b] X.env)).any (·.1) = false := by rfl) :
    D X (.Call (.Attribute o "ljust" apos) [a, b] [] cpos) σ G cs (rS (ljL z n w)) :=
  d_by (pe_bm PySem.F.plainAttrs_str PySem.F.slot_str_ljust PySem.F.type_str_ljust mt_ljF (sE X o) (sA X [a, b]) hbase hfew hline hs hplain) fun G1 H s d Q q => ho G1 H s d _ fun G2 H2 u s2 d2 hu => ⟨by rw [show u = .str (SX.S z) from hu]; rfl, a_cons ha (a_cons hb a_nil hs2) hs G2 H2 (s.trans s2) d2 _ fun G3 H3 vs s3 d3 hv => by
    obtain ⟨v1, ws, rfl, hv1, v2, ws2, rfl, hv2, h3⟩ := hv
    cases h3
    refine ⟨SX.S z, n, SX.S w, hu, by rw [show v1 = .int n from hv1, show v2 = .str (SX.S w) from hv2], hp, by rw [SX.S_len]; exact hw, q G3 H3 _ (s2.trans s3) d3 ?_⟩
    show _ = V.str (SX.S (ljL z n w))
    unfold ljL
    rw [S_tlS]⟩
theorem d_all {bs : List Bool} {x : Str} (hc : X.calm = true) (hm : X.mg x = none) (ha : D X a σ G cs (rdL X.K cs rB bs)) (hg : Gl X x := by rfl) (hv : bootBuiltins x = some (.builtin "all") := by decide +kernel) (hn : x ≠ "__name__" := by decide) (hd : (x == ("__debug__" : Str)) = false := by decide)
    (he : starEach [a] X.env = (false, eval a X.env) :: starEach [] X.env := by rfl) (hpl : (backTo pos (starEach [] X.env)).any (·.1) = false := by rfl) : D X (.Call (.Name x p) [a] [] pos) σ G cs (rB (bs.all id)) :=
  d_callB (cr_all hc) hm (a_cons ha a_nil he) (fun G1 H vs s d hvs Q q => by
    obtain ⟨v, ws, e1, h1, h2⟩ := hvs
    cases h2
    obtain ⟨l, us, e, hl, hr⟩ := h1.sq d
    subst e
    have hu := rs_bl hr
    subst hu
    exact ⟨l, bs, e1, hl, q G1 H _ (Same.refl _) d rfl⟩) hg hv hn hd he hpl
theorem d_any {bs : List Bool} {x : Str} (hc : X.calm = true) (hm : X.mg x = none) (ha : D X a σ G cs (rdL X.K cs rB bs)) (hg : Gl X x := by rfl) (hv : bootBuiltins x = some (.builtin "any") := by decide +kernel) (hn : x ≠ "__name__" := by decide) (hd : (x == ("__debug__" : Str)) = false := by decide)
    (he : starEach [a] X.env = (false, eval a X.env) :: starEach [] X.env := by rfl) (hpl : (backTo pos (starEach [] X.env)).any (·.1) = false := by rfl) : D X (.Call (.Name x p) [a] [] pos) σ G cs (rB (bs.any id)) :=
  d_callB (cr_any hc) hm (a_cons ha a_nil he) (fun G1 H vs s d hvs Q q => by
    obtain ⟨v, ws, e1, h1, h2⟩ := hvs
    cases h2
    obtain ⟨l, us, e, hl, hr⟩ := h1.sq d
    subst e
    have hu := rs_bl hr
    subst hu
    exact ⟨l, bs, e1, hl, q G1 H _ (Same.refl _) d rfl⟩) hg hv hn hd he hpl
end
end J

namespace J
open PySem L2 PyProof.Rows NumText
theorem rng_at {a b x : Int} {pre post : List Int} (h : rng a b = pre ++ x :: post) : x = a + (pre.length : Int) := by
  have e : (rng a b)[pre.length]? = some x := by rw [h]; simp
  have l : pre.length < (b - a).toNat := by
    have := congrArg List.length h
    rw [rng_length, List.length_append, List.length_cons] at this
    omega
  rw [rng_get l] at e
  exact (Option.some.inj e).symm
theorem isDig : ∀ c : Nat, c < 128 → Unicode.isDigit c = (decide (48 ≤ c) && decide (c ≤ 57)) := by decide +kernel
theorem digB_is {z : List Nat} (h : ∀ c ∈ z, c < 128) : digB z = (decide (z ≠ []) && z.all fun c => decide (48 ≤ c) && decide (c ≤ 57)) := by
  unfold digB Txt.isdigit
  rw [SX.S_len]
  have e : (SX.S z).cps.all Unicode.isDigit = z.all Unicode.isDigit := by
    show z.toArray.all _ = _
    simp
  rw [e]
  have e2 : z.all Unicode.isDigit = z.all fun c => decide (48 ≤ c) && decide (c ≤ 57) := by
    rw [Bool.eq_iff_iff, List.all_eq_true, List.all_eq_true]
    exact ⟨fun q c hc => by rw [← isDig c (h c hc)]; exact q c hc, fun q c hc => by rw [isDig c (h c hc)]; exact q c hc⟩
  rw [e2]
  cases z with
  | nil => rfl
  | cons c z => simp
theorem digB_of {z : List Nat} (h : AllDigits z) (hn : z ≠ []) : digB z = true := by
  rw [digB_is fun c hc => by have := h c hc; omega, Bool.and_eq_true]
  exact ⟨by simpa using hn, List.all_eq_true.mpr fun c hc => by have := h c hc; simp; omega⟩
theorem digits_of {z : List Nat} (ha : ∀ c ∈ z, c < 128) (h : digB z = true) : AllDigits z ∧ z ≠ [] := by
  rw [digB_is ha, Bool.and_eq_true] at h
  refine ⟨fun c hc => ?_, by simpa using h.1⟩
  have := List.all_eq_true.mp h.2 c hc
  simp at this
  omega
theorem part_at {p q : List Nat} {c : Nat} (h : c ∉ p) : partL (p ++ c :: q) [c] = (p, [c], q) := by
  have e := SX.partition_some (a := p ++ c :: q) (b := [c]) (by simp) (SX.par_head (sep := []) q h)
  unfold partL
  rw [e]
  rfl
theorem part_no {p : List Nat} {c : Nat} (h : c ∉ p) : partL p [c] = (p, [], []) := by
  unfold partL
  rw [SX.partition_none (by simp) (SX.par_head_none (sep := []) h)]
  rfl
theorem lj_is {z : List Nat} {n : Int} {c : Nat} : ljL z n [c] = z ++ List.replicate (n.toNat - z.length) c := by
  unfold ljL Txt.ljustF
  rw [SX.S_len]
  split
  · rw [show n.toNat - z.length = 0 by omega]
    simp [tlS, SX.S]
  · show tlS (Builtin.Str.padded _ _ _ _) = _
    unfold Builtin.Str.padded
    simp [tlS, SX.S]
/-- k digits -/
def pad : Nat → Nat → List Nat
  | 0, _ => []
  | k + 1, r => pad k (r / 10) ++ [48 + r % 10]
theorem pad_len : ∀ k r, (pad k r).length = k
  | 0, _ => rfl
  | k + 1, r => by
    unfold pad
    rw [List.length_append, pad_len k]
    rfl
theorem pad_dig : ∀ k r, AllDigits (pad k r)
  | 0, _ => fun c hc => nomatch hc
  | k + 1, r => fun c hc => by
    unfold pad at hc
    rcases List.mem_append.mp hc with hc | hc
    · exact pad_dig k _ c hc
    · rw [List.mem_singleton.mp hc]
      omega
theorem val_snoc (l : List Nat) (d : Nat) : digitsVal (l ++ [48 + d]) = digitsVal l * 10 + d := by
  rw [digitsVal_snoc]
  omega
theorem pad_val (l : List Nat) : ∀ k r, r < 10 ^ k → digitsVal (l ++ pad k r) = digitsVal l * 10 ^ k + r
  | 0, r, h => by
    unfold pad
    rw [List.append_nil]
    simp at h
    omega
  | k + 1, r, h => by
    unfold pad
    rw [← List.append_assoc, val_snoc, pad_val l k (r / 10) (by rw [Nat.pow_succ] at h; omega), Nat.pow_succ, Nat.add_mul, Nat.mul_assoc]
    omega
theorem num_pad : ∀ k n, 10 ^ k ≤ n → TL.numL n = TL.numL (n / 10 ^ k) ++ pad k (n % 10 ^ k)
  | 0, n, h => by
    unfold pad
    rw [Nat.pow_zero, Nat.div_one, List.append_nil]
  | k + 1, n, h => by
    have hp : 0 < 10 ^ k := Nat.pow_pos (by decide)
    have h10 : 10 ≤ n := by
      rw [Nat.pow_succ] at h
      have : 1 * 10 ≤ 10 ^ k * 10 := Nat.mul_le_mul_right 10 hp
      omega
    have hk : 10 ^ k ≤ n / 10 := by
      rw [Nat.pow_succ] at h
      omega
    rw [TL.numL_step h10, num_pad k (n / 10) hk, show pad (k + 1) (n % 10 ^ (k + 1)) = pad k (n % 10 ^ (k + 1) / 10) ++ [48 + n % 10 ^ (k + 1) % 10] from rfl]
    rw [List.append_assoc, Nat.pow_succ, Nat.div_div_eq_div_mul, Nat.mul_comm 10 (10 ^ k)]
    have e1 : n % (10 ^ k * 10) / 10 = n / 10 % 10 ^ k := by
      rw [Nat.mul_comm (10 ^ k) 10, Nat.mod_mul_right_div_self]
    have e2 : n % (10 ^ k * 10) % 10 = n % 10 := Nat.mod_mul_left_mod n (10 ^ k) 10
    rw [e1, e2]
/-- zeros ahead -/
theorem pad_small : ∀ k n, n < 10 ^ k → List.replicate (k - (TL.numL n).length) 48 ++ TL.numL n = (if k = 0 then TL.numL n else pad k n)
  | 0, n, _ => by simp
  | 1, n, h => by
    rw [TL.numL_lt (by simpa using h)]
    unfold pad pad
    simp at h ⊢
    omega
  | k + 2, n, h => by
    rw [if_neg (by omega)]
    by_cases c : n < 10
    · have q := pad_small (k + 1) 0 (Nat.pow_pos (by decide))
      rw [if_neg (by omega), TL.numL_lt (by decide : 0 < 10)] at q
      rw [TL.numL_lt c]
      show List.replicate (k + 2 - 1) 48 ++ [48 + n] = pad (k + 1) (n / 10) ++ [48 + n % 10]
      rw [Nat.div_eq_of_lt c, Nat.mod_eq_of_lt c, ← q]
      show _ = (List.replicate (k + 1 - 1) 48 ++ [48]) ++ [48 + n]
      rw [show k + 2 - 1 = (k + 1 - 1) + 1 by omega, List.replicate_succ']
    · have q := pad_small (k + 1) (n / 10) (by rw [Nat.pow_succ] at h; omega)
      rw [if_neg (by omega)] at q
      rw [TL.numL_step (by omega), List.length_append]
      show _ = pad (k + 1) (n / 10) ++ [48 + n % 10]
      rw [← q, ← List.append_assoc]
      show List.replicate (k + 2 - ((TL.numL (n / 10)).length + 1)) 48 ++ _ ++ _ = _
      rw [show k + 2 - ((TL.numL (n / 10)).length + 1) = k + 1 - (TL.numL (n / 10)).length by omega]
theorem zf_is {n : Nat} {k : Int} : zfL (TL.numL n) k = List.replicate (k.toNat - (TL.numL n).length) 48 ++ TL.numL n := by
  unfold zfL Txt.zfill
  rw [SX.S_len]
  split
  · rw [show k.toNat - (TL.numL n).length = 0 by omega]
    simp [tlS, SX.S]
  · unfold zfilled
    have hn := TL.numL_ne n
    have hd := TL.numL_digits n
    cases hc : TL.numL n with
    | nil => exact absurd hc hn
    | cons c l =>
      rw [hc] at hd
      have h0 := hd c List.mem_cons_self
      have e : (SX.S (c :: l)).cps[0]? = some c := by simp [SX.S]
      rw [e]
      split
      · rename_i q
        have := Option.some.inj q
        omega
      · rename_i q
        have := Option.some.inj q
        omega
      · unfold Builtin.Str.padded
        simp [tlS, SX.S]
theorem int_dig {z : List Nat} (h : AllDigits z) (hn : z ≠ []) (hl : z.length ≤ 640) : PySem.intText? (SX.S z) = some ((digitsVal z : Nat) : Int) :=
  SX.int_S (List.all_eq_true.mpr fun c hc => by have := h c hc; simp; omega) hn (by omega)
theorem numT_dig {z : List Nat} (h : AllDigits z) (hn : z ≠ []) (hl : z.length ≤ 640) : numT z = ((digitsVal z : Nat) : Int) := by
  unfold numT
  rw [int_dig h hn hl]
  rfl
theorem decL_len {n : Int} (h0 : 0 ≤ n) (h : n < 10000000000000) : (decL n).length ≤ 13 := TL.numL_len (by decide) (by omega)
theorem decL_dig (n : Int) : AllDigits (decL n) := TL.numL_digits _
theorem zf_len {n D : Int} (h0 : 0 ≤ n) (h : n < 10000000000000) (hD : D ≤ 3) : (zfL (decL n) D).length ≤ 16 := by
  have l := decL_len h0 h
  unfold decL at *
  rw [zf_is, List.length_append, List.length_replicate]
  omega
theorem lj_len (z : List Nat) (n : Int) (c : Nat) : (ljL z n [c]).length ≤ z.length + n.toNat := by
  rw [lj_is, List.length_append, List.length_replicate]
  omega
theorem pad_ok {i : Int} (h : 0 ≤ i ∧ i ≤ 1000) : PadOk i = true := by
  unfold PadOk fitsSsize Builtin.Str.tooLong
  have := sizeLine_eq
  simp
  omega
theorem cutL_mem {α : Type} {xs : List α} {l u : Option Int} {x : α} (h : x ∈ cutL xs l u) : x ∈ xs := List.mem_of_mem_drop (List.mem_of_mem_take h)
theorem part_or (z : List Nat) (c : Nat) : (c ∉ z ∧ partL z [c] = (z, [], [])) ∨ ∃ p q, z = p ++ c :: q ∧ c ∉ p ∧ partL z [c] = (p, [c], q) := by
  by_cases h : c ∈ z
  · right
    obtain ⟨p, q, e, hp⟩ : ∃ p q, z = p ++ c :: q ∧ c ∉ p := by
      induction z with
      | nil => cases h
      | cons a z ih =>
        by_cases ha : a = c
        · exact ⟨[], z, by rw [ha]; rfl, by simp⟩
        · rcases List.mem_cons.mp h with e | h
          · exact absurd e.symm ha
          · obtain ⟨p, q, e, hp⟩ := ih h
            exact ⟨a :: p, q, by rw [e]; rfl, fun m => by
              rcases List.mem_cons.mp m with e | m
              · exact ha e.symm
              · exact hp m⟩
    exact ⟨p, q, e, hp, by rw [e]; exact part_at hp⟩
  · exact .inl ⟨h, part_no h⟩
theorem part_le (z : List Nat) (c : Nat) : ((partL z [c]).1.length ≤ z.length ∧ ∀ x ∈ (partL z [c]).1, x ∈ z) ∧ (partL z [c]).2.2.length ≤ z.length ∧ ∀ x ∈ (partL z [c]).2.2, x ∈ z := by
  rcases part_or z c with ⟨_, e⟩ | ⟨p, q, ez, _, e⟩
  · rw [e]
    exact ⟨⟨Nat.le_refl _, fun _ h => h⟩, Nat.zero_le _, fun _ h => nomatch h⟩
  · rw [e, ez]
    refine ⟨⟨?_, fun x h => List.mem_append_left _ h⟩, ?_, fun x h => List.mem_append_right _ (List.mem_cons_of_mem _ h)⟩ <;> simp
    omega
theorem all_cat {P : Nat → Prop} {a b : List Nat} (h : ∀ c ∈ a, P c) (k : ∀ c ∈ b, P c) : ∀ c ∈ a ++ b, P c := fun c hc => (List.mem_append.mp hc).elim (h c) (k c)
theorem dig_asc {z : List Nat} (h : AllDigits z) : ∀ c ∈ z, c < 128 := fun c hc => by
  have := h c hc
  omega
end J

/-! what an expression does that may change cells: k tells what is known of the value, the frozen part and the cells behind it -/
namespace J
open PySem L2 PyProof.Rows
def EC (X : Cx) (e : Expr) (σ : L2.St) (G : Hp) (cs : Cells) (k : V → Hp → Cells → Prop) : Prop :=
  ∀ G1 H, Same G G1 → Desc G1 cs H → ∀ Q : VK, (∀ G2 H2 cs2 v, Same G1 G2 → Desc G2 cs2 H2 → k v G2 cs2 → Q v H2) → wE X e σ H Q
def TC (X : Cx) (e : Expr) (σ : L2.St) (G : Hp) (cs : Cells) (k : Bool → Hp → Cells → Prop) : Prop :=
  ∀ G1 H, Same G G1 → Desc G1 cs H → ∀ Q : Bool → Hp → Prop, (∀ G2 H2 cs2 b, Same G1 G2 → Desc G2 cs2 H2 → k b G2 cs2 → Q b H2) → wT X e σ H Q
def WC (X : Cx) (e : Expr) (σ : L2.St) (G : Hp) (cs : Cells) (k : Bool → Hp → Cells → Prop) : Prop :=
  ∀ G1 H, Same G G1 → Desc G1 cs H → ∀ Q : Bool → Hp → Prop, (∀ G2 H2 cs2 b, Same G1 G2 → Desc G2 cs2 H2 → k b G2 cs2 → Q b H2) → wW X e σ H Q
def AC (X : Cx) (es : List Expr) (σ : L2.St) (G : Hp) (cs : Cells) (k : List V → Hp → Cells → Prop) : Prop :=
  ∀ G1 H, Same G G1 → Desc G1 cs H → ∀ Q : List V → Hp → Prop, (∀ G2 H2 cs2 vs, Same G1 G2 → Desc G2 cs2 H2 → k vs G2 cs2 → Q vs H2) → wA X es σ H Q
/-- an operator's reading -/
def RC (r : R2) (x y : V) (G : Hp) (cs : Cells) (k : V → Hp → Cells → Prop) : Prop :=
  ∀ G1 H, Same G G1 → Desc G1 cs H → ∀ Q : VK, (∀ G2 H2 cs2 v, Same G1 G2 → Desc G2 cs2 H2 → k v G2 cs2 → Q v H2) → r x y H Q
section
variable {X : Cx} {σ : L2.St} {G : Hp} {cs cs' : Cells} {e a b c : Expr} {es : List Expr} {pos p : Pos} {P : Hp → V → Prop} {k : V → Hp → Cells → Prop} {kb : Bool → Hp → Cells → Prop} {ka : List V → Hp → Cells → Prop}
theorem EC.perm (p : cs.Perm cs') (h : EC X e σ G cs' k) : EC X e σ G cs k := fun G1 H s d Q q => h G1 H s (d.perm p) Q q
theorem ec_D (h : D X e σ G cs P) (c : ∀ v G1, Same G G1 → P G1 v → k v G1 cs) : EC X e σ G cs k := fun G1 H s d Q q => h G1 H s d Q fun G2 H2 v s2 d2 hv => q G2 H2 cs v s2 d2 (c v G2 (s.trans s2) hv)
theorem ec_N {α : Type} {r : α → Hp → V → Prop} {xs : List α} (h : N X e σ G cs r xs) (c : ∀ l vs G1, Same G G1 → Rs r G1 xs vs → k (.ref l) G1 ((l, .lst vs) :: cs)) : EC X e σ G cs k := fun G1 H s d Q q =>
  h G1 H s d Q fun G2 H2 l vs s2 d2 hr => q G2 H2 _ _ s2 d2 (c l vs G2 (s.trans s2) hr)
theorem tc_T {v : Bool} (h : T X e σ G cs v) (c : ∀ G1, Same G G1 → kb v G1 cs) : TC X e σ G cs kb := fun G1 H s d Q q => h G1 H s d Q fun G2 H2 s2 d2 => q G2 H2 cs v s2 d2 (c G2 (s.trans s2))
theorem tc_k {kb' : Bool → Hp → Cells → Prop} (h : TC X e σ G cs kb') (c : ∀ b G1 cs1, Same G G1 → kb' b G1 cs1 → ∃ cs2, cs1.Perm cs2 ∧ kb b G1 cs2) : TC X e σ G cs kb := fun G1 H s d Q q => h G1 H s d Q fun G2 H2 cs2 b s2 d2 hk => by
  obtain ⟨cs3, pm, h3⟩ := c b G2 cs2 (s.trans s2) hk
  exact q G2 H2 cs3 b s2 (d2.perm pm) h3
theorem ec_k {k' : V → Hp → Cells → Prop} (h : EC X e σ G cs k') (c : ∀ v G1 cs1, Same G G1 → k' v G1 cs1 → ∃ cs2, cs1.Perm cs2 ∧ k v G1 cs2) : EC X e σ G cs k := fun G1 H s d Q q => h G1 H s d Q fun G2 H2 cs2 v s2 d2 hk => by
  obtain ⟨cs3, pm, h3⟩ := c v G2 cs2 (s.trans s2) hk
  exact q G2 H2 cs3 v s2 (d2.perm pm) h3
theorem tc_E (h : EC X e σ G cs fun v G1 cs1 => ∃ z, v = .bl z ∧ kb z G1 cs1) (he : ∀ whole, isTrue e X.env whole = (do let v ← whole; standAt e.pos; holding [v] (truthy v)) := by intro _; rfl) : TC X e σ G cs kb := fun G1 H s d Q q =>
  uT (pt_val (sE X e) he) (h G1 H s d _ fun G2 H2 cs2 v s2 d2 ⟨z, e1, hk⟩ => ⟨z, e1, q G2 H2 cs2 z s2 d2 hk⟩)
theorem tc_not (h : TC X a σ G cs fun z G1 cs1 => kb (!z) G1 cs1) : TC X (.UnaryOp .Not a pos) σ G cs kb := fun G1 H s d Q q => uT (pt_not (sT X a)) (h G1 H s d _ fun G2 H2 cs2 z s2 d2 hk => q G2 H2 cs2 (!z) s2 d2 hk)
theorem tc_w (h : WC X e σ G cs kb) : TC X e σ G cs kb := fun G1 H s d Q q => uT (PW.pt (sW X e)) (h G1 H s d Q q)
theorem wc_and1 (h : TC X a σ G cs kb) : WC X (.BoolOp .And [a] pos) σ G cs kb := fun G1 H s d Q q => uW (pw_and1 (sT X a)) (h G1 H s d Q q)
theorem wc_or1 (h : TC X a σ G cs kb) : WC X (.BoolOp .Or [a] pos) σ G cs kb := fun G1 H s d Q q => uW (pw_or1 (sT X a)) (h G1 H s d Q q)
theorem wc_and {rest : List Expr} (h : TC X a σ G cs fun z G1 cs1 => (z = true → WC X (.BoolOp .And (b :: rest) pos) σ G1 cs1 kb) ∧ (z = false → kb false G1 cs1)) : WC X (.BoolOp .And (a :: b :: rest) pos) σ G cs kb := fun G1 H s d Q q =>
  uW (pw_and (sT X a) (sW X _)) (h G1 H s d _ fun G2 H2 cs2 z s2 d2 hk => by
    cases z with
    | false => exact iteF (q G2 H2 cs2 false s2 d2 (hk.2 rfl))
    | true => exact iteT (hk.1 rfl G2 H2 (Same.refl _) d2 Q fun G3 H3 cs3 w s3 d3 hw => q G3 H3 cs3 w (s2.trans s3) d3 hw))
theorem wc_or {rest : List Expr} (h : TC X a σ G cs fun z G1 cs1 => (z = false → WC X (.BoolOp .Or (b :: rest) pos) σ G1 cs1 kb) ∧ (z = true → kb true G1 cs1)) : WC X (.BoolOp .Or (a :: b :: rest) pos) σ G cs kb := fun G1 H s d Q q =>
  uW (pw_or (sT X a) (sW X _)) (h G1 H s d _ fun G2 H2 cs2 z s2 d2 hk => by
    cases z with
    | true => exact iteT (q G2 H2 cs2 true s2 d2 (hk.2 rfl))
    | false => exact iteF (hk.1 rfl G2 H2 (Same.refl _) d2 Q fun G3 H3 cs3 w s3 d3 hw => q G3 H3 cs3 w (s2.trans s3) d3 hw))
theorem ec_bin {op : Operator} {r : R2} (ho : OpR X (binaryOp op) r) (h : EC X a σ G cs fun x G1 cs1 => EC X b σ G1 cs1 fun y G2 cs2 => RC r x y G2 cs2 k) : EC X (.BinOp a op b pos) σ G cs k := fun G1 H s d Q q =>
  uE (pe_op ho (sE X a) (sE X b)) (h G1 H s d _ fun G2 H2 cs2 x s2 d2 hx => hx G2 H2 (Same.refl _) d2 _ fun G3 H3 cs3 y s3 d3 hy => hy G3 H3 (Same.refl _) d3 Q fun G4 H4 cs4 v s4 d4 hv => q G4 H4 cs4 v ((s2.trans s3).trans s4) d4 hv)
theorem ec_cmp {op : CmpOp} {r : R2} (ho : OpR X (compareOp op) r) (hm : behindInMarks op b = false) (h : EC X a σ G cs fun x G1 cs1 => EC X b σ G1 cs1 fun y G2 cs2 => RC r x y G2 cs2 k) : EC X (.Compare a [op] [b] pos) σ G cs k := fun G1 H s d Q q =>
  uE (pe_cmpR ho (sE X a) (sE X b) hm) (h G1 H s d _ fun G2 H2 cs2 x s2 d2 hx => hx G2 H2 (Same.refl _) d2 _ fun G3 H3 cs3 y s3 d3 hy => hy G3 H3 (Same.refl _) d3 Q fun G4 H4 cs4 v s4 d4 hv => q G4 H4 cs4 v ((s2.trans s3).trans s4) d4 hv)
theorem tc_cmp {op : CmpOp} {r : R2} (ho : OpR X (compareOp op) r) (hm : behindInMarks op b = false) (h : EC X a σ G cs fun x G1 cs1 => EC X b σ G1 cs1 fun y G2 cs2 => RC r x y G2 cs2 fun v G3 cs3 => ∃ z, v = .bl z ∧ kb z G3 cs3) : TC X (.Compare a [op] [b] pos) σ G cs kb := fun G1 H s d Q q =>
  uT (pt_cmpR ho (sE X a) (sE X b) hm) (h G1 H s d _ fun G2 H2 cs2 x s2 d2 hx => hx G2 H2 (Same.refl _) d2 _ fun G3 H3 cs3 y s3 d3 hy => hy G3 H3 (Same.refl _) d3 _ fun G4 H4 cs4 v s4 d4 ⟨z, e1, hk⟩ => ⟨z, e1, q G4 H4 cs4 z ((s2.trans s3).trans s4) d4 hk⟩)
theorem ec_ix {r : R2} (hr : IxR X r) (h : EC X a σ G cs fun x G1 cs1 => EC X b σ G1 cs1 fun y G2 cs2 => RC r x y G2 cs2 k) (hs : PlainIx b := by exact fun _ _ => rfl) : EC X (.Subscript a b pos) σ G cs k := fun G1 H s d Q q =>
  uE (pe_ix hr (sE X a) (sE X b) hs) (h G1 H s d _ fun G2 H2 cs2 x s2 d2 hx => hx G2 H2 (Same.refl _) d2 _ fun G3 H3 cs3 y s3 d3 hy => hy G3 H3 (Same.refl _) d3 Q fun G4 H4 cs4 v s4 d4 hv => q G4 H4 cs4 v ((s2.trans s3).trans s4) d4 hv)
theorem ac_nil (h : ka [] G cs) (mono : ∀ G1, Same G G1 → ka [] G cs → ka [] G1 cs := by intro _ _ h; exact h) : AC X [] σ G cs ka := fun G1 H s d Q q => uA pa_nil (q G1 H cs [] (Same.refl _) d (mono G1 s h))
theorem ac_nil' (h : ∀ G1, Same G G1 → ka [] G1 cs) : AC X [] σ G cs ka := fun G1 H s d Q q => uA pa_nil (q G1 H cs [] (Same.refl _) d (h G1 s))
theorem ac_cons (h : EC X e σ G cs fun v G1 cs1 => AC X es σ G1 cs1 fun vs G2 cs2 => ka (v :: vs) G2 cs2) (hst : starEach (e :: es) X.env = (false, eval e X.env) :: starEach es X.env := by exact star_plain rfl) : AC X (e :: es) σ G cs ka := fun G1 H s d Q q =>
  uA (pa_cons (sE X e) (sA X es) hst) (h G1 H s d _ fun G2 H2 cs2 v s2 d2 hv => hv G2 H2 (Same.refl _) d2 _ fun G3 H3 cs3 ws s3 d3 hw => q G3 H3 cs3 _ (s2.trans s3) d3 hw)
/-- all arguments plain -/
theorem ac_A {Ps : Hp → List V → Prop} (h : A X es σ G cs Ps) (c : ∀ vs G1, Same G G1 → Ps G1 vs → ka vs G1 cs) : AC X es σ G cs ka := fun G1 H s d Q q => h G1 H s d Q fun G2 H2 vs s2 d2 hv => q G2 H2 cs vs s2 d2 (c vs G2 (s.trans s2) hv)
theorem ec_tup {kk : Nat} (h : AC X es σ G cs fun vs G1 cs1 => vs.length ≤ 16777216 ∧ ∀ l G2, Same G1 G2 → SqT X.K G2 l vs → k (.ref l) G2 cs1) : EC X (.Tuple es kk pos) σ G cs k := fun G1 H s d Q q =>
  uE (pe_tup (sA X es)) (h G1 H s d _ fun G2 H2 cs2 vs s2 d2 hv => ⟨sl_small hv.1, fun l hl => by
    have sf : Same G2 (upd G2 l (.tup vs)) := Same.fresh d2.same hl _
    exact q _ _ cs2 _ (s2.trans sf) (d2.new hl _) (hv.2 l _ sf (SqT.of upd_same))⟩)
theorem ec_lst (h : AC X es σ G cs fun vs G1 cs1 => vs.length ≤ 16777216 ∧ ∀ l G2, Same G1 G2 → SqL X.K G2 l vs → k (.ref l) G2 cs1) : EC X (.List es pos) σ G cs k := fun G1 H s d Q q =>
  uE (pe_lst (sA X es)) (h G1 H s d _ fun G2 H2 cs2 vs s2 d2 hv => ⟨sl_small hv.1, fun l hl => by
    have sf : Same G2 (upd G2 l (.lst vs)) := Same.fresh d2.same hl _
    exact q _ _ cs2 _ (s2.trans sf) (d2.new hl _) (hv.2 l _ sf (SqL.of upd_same))⟩)
theorem ec_lstN (h : AC X es σ G cs fun vs G1 cs1 => vs.length ≤ 16777216 ∧ ∀ l, k (.ref l) G1 ((l, .lst vs) :: cs1)) : EC X (.List es pos) σ G cs k := fun G1 H s d Q q =>
  uE (pe_lst (sA X es)) (h G1 H s d _ fun G2 H2 cs2 vs s2 d2 hv => ⟨sl_small hv.1, fun l hl => q _ _ _ _ s2 (d2.newCell hl _) (hv.2 l)⟩)
/-! operators, by what is known of the operands -/
section
variable {i j : Int} {x y : V} {z w : List Nat}
theorem rc_int {f : Int → Int → V} (hx : rI i G x) (hy : rI j G y) (c : ∀ G1, Same G G1 → k (f i j) G1 cs) : RC (rI0 f) x y G cs k := fun G1 H s d Q q => ⟨i, j, hx, hy, q G1 H cs _ (Same.refl _) d (c G1 s)⟩
theorem rc_intC {C : Int → Int → Prop} {f : Int → Int → V} (hx : rI i G x) (hy : rI j G y) (h : C i j) (c : ∀ G1, Same G G1 → k (f i j) G1 cs) : RC (L2.rI C f) x y G cs k := fun G1 H s d Q q => ⟨i, j, hx, hy, h, q G1 H cs _ (Same.refl _) d (c G1 s)⟩
theorem rc_eqI (hx : rI i G x) (hy : rI j G y) (c : ∀ G1, Same G G1 → k (.bl (decide (i = j))) G1 cs) : RC rEq x y G cs k := fun G1 H s d Q q => c_eqI (G1 := G) hx hy (q G1 H cs _ (Same.refl _) d (c G1 s))
theorem rc_neI (hx : rI i G x) (hy : rI j G y) (c : ∀ G1, Same G G1 → k (.bl (!decide (i = j))) G1 cs) : RC rNe x y G cs k := fun G1 H s d Q q => c_neI (G1 := G) hx hy (q G1 H cs _ (Same.refl _) d (c G1 s))
theorem rc_eqS (hx : rS z G x) (hy : rS w G y) (c : ∀ G1, Same G G1 → k (.bl (decide (z = w))) G1 cs) : RC rEq x y G cs k := fun G1 H s d Q q => c_eqS (G1 := G) hx hy (q G1 H cs _ (Same.refl _) d (c G1 s))
theorem rc_neS (hx : rS z G x) (hy : rS w G y) (c : ∀ G1, Same G G1 → k (.bl (!decide (z = w))) G1 cs) : RC rNe x y G cs k := fun G1 H s d Q q => c_neS (G1 := G) hx hy (q G1 H cs _ (Same.refl _) d (c G1 s))
theorem rc_cat (hx : rS z G x) (hy : rS w G y) (h : z.length + w.length ≤ sizeLine) (c : ∀ G1, Same G G1 → k (.str (SX.S (z ++ w))) G1 cs) : RC (fun x y H Q => ∃ i j, x = .str i ∧ y = .str j ∧ i.length + j.length ≤ sizeLine ∧ Q (.str (i ++ j)) H) x y G cs k := fun G1 H s d Q q =>
  ⟨SX.S z, SX.S w, hx, hy, by rw [SX.S_len, SX.S_len]; exact h, by rw [SX.S_cat]; exact q G1 H cs _ (Same.refl _) d (c G1 s)⟩
theorem rc_ixS {n : Nat} (hx : rS z G x) (hy : rI i G y) (hl : z.length ≤ sizeLine) (h : atI z i = some n) (c : ∀ G1, Same G G1 → k (.str (SX.S [n])) G1 cs) : RC rIxS x y G cs k := fun G1 H s d Q q =>
  ⟨SX.S z, i, n, hx, hy, by rw [SX.S_len]; exact hl, h, q G1 H cs _ (Same.refl _) d (c G1 s)⟩
theorem rc_ixL {α : Type} {r : α → Hp → V → Prop} [∀ x, Mono (r x)] {xs : List α} {u : α} (hx : rdL X.K cs r xs G x) (hy : rI i G y) (h : atI xs i = some u) (c : ∀ v G1, Same G G1 → r u G1 v → k v G1 cs) : RC (rIxL X.K) x y G cs k := fun G1 H s d Q q => by
  obtain ⟨l, vs, e, hl, hr⟩ := (Mono.mono s hx).sq d
  obtain ⟨v, hv, hp⟩ := atI_rs hr h
  exact ⟨l, vs, i, v, e, hy, hl, hv, q G1 H cs v (Same.refl _) d (c v G1 s hp)⟩
theorem rc_ixT {α : Type} {r : α → Hp → List V → Prop} [∀ x, MonoA (r x)] {u : α} {n : Nat} (hx : rT X.K r u G x) (hy : rI (n : Int) G y) (hat : At (r u) n P) (c : ∀ v G1, Same G G1 → P G1 v → k v G1 cs) : RC (rIxT X.K) x y G cs k := fun G1 H s d Q q => by
  obtain ⟨l, vs, e, hl, hr⟩ := Mono.mono s hx
  obtain ⟨v, hv, hp⟩ := hat G1 vs hr
  exact ⟨l, vs, (n : Int), v, e, hy, seqT d.same hl, atI_nat hv, q G1 H cs v (Same.refl _) d (c v G1 s hp)⟩
theorem rc_eqD {K : PySem.W.Frag} {α : Type} {r : α → Hp → V → Prop} {u v : α} [DecidableEq α] [∀ z, Mono (r z)] [q : EqR K r] (hK : X.K = K) (hx : r u G x) (hy : r v G y) (h1 : q.ok u) (h2 : q.ok v) (hd : q.dep ≤ 64) (c : ∀ G1, Same G G1 → k (.bl (decide (u = v))) G1 cs) : RC (rEqD X.K) x y G cs k := by
  subst hK
  exact fun G1 H s d Q qq => ⟨_, _, q.dp (Mono.mono s hx) d.same, q.dp (Mono.mono s hy) d.same, shp h1 hd, shp h2 hd, by rw [eqv_dec]; exact qq G1 H cs _ (Same.refl _) d (c G1 s)⟩
theorem rc_neD {K : PySem.W.Frag} {α : Type} {r : α → Hp → V → Prop} {u v : α} [DecidableEq α] [∀ z, Mono (r z)] [q : EqR K r] (hK : X.K = K) (hx : r u G x) (hy : r v G y) (h1 : q.ok u) (h2 : q.ok v) (hd : q.dep ≤ 64) (c : ∀ G1, Same G G1 → k (.bl (!decide (u = v))) G1 cs) : RC (rNeD X.K) x y G cs k := by
  subst hK
  exact fun G1 H s d Q qq => ⟨_, _, q.dp (Mono.mono s hx) d.same, q.dp (Mono.mono s hy) d.same, shp h1 hd, shp h2 hd, by rw [eqv_dec]; exact qq G1 H cs _ (Same.refl _) d (c G1 s)⟩
end
end
/-! ### defs that change what they are given -/
/-- i what is given, pre how it lies and which cells mc are its own, post what is behind: the value, the cells -/
def SpM {I O : Type} (pre : I → Hp → Cells → List V → Prop) (post : I → List V → O → Hp → Cells → V → Prop) (m : I → O) : Sp := fun vs H Q _ => ∃ (i : I) (G : Hp) (mc cs : Cells), Desc G (mc ++ cs) H ∧ pre i G mc vs ∧ ∀ v G2 mc2 H2, Same G G2 → Desc G2 (mc2 ++ cs) H2 → post i vs (m i) G2 mc2 v → Q v H2
/-- .. and may raise: an error comes with what is given as it is then -/
def SpME {n : Nat} {I O S : Type} (adr : Fin n → Addr) (pre : I → Hp → Cells → List V → Prop) (post : I → List V → O → Hp → Cells → V → Prop) (perr : I → List V → S → Hp → Cells → Prop) (m : I → Except (Fin n × S) O) : Sp := fun vs H Q E => ∃ (i : I) (G : Hp) (mc cs : Cells), Desc G (mc ++ cs) H ∧ pre i G mc vs ∧
  (match m i with
    | .ok o => ∀ v G2 mc2 H2, Same G G2 → Desc G2 (mc2 ++ cs) H2 → post i vs o G2 mc2 v → Q v H2
    | .error (k, s) => ∀ G2 mc2 H2, Same G G2 → Desc G2 (mc2 ++ cs) H2 → perr i vs s G2 mc2 → E (.ref (adr k)) none H2)
/-- what is wanted at the end of such a def -/
def PoM {ε O : Type} (cs : Cells) (post : O → Hp → Cells → V → Prop) (perr : ε → Hp → Cells → Prop) : Po ε O Empty O :=
  { nx := fun o _ G2 cs2 => ∃ loc mc2, cs2.Perm (loc ++ (mc2 ++ cs)) ∧ post o G2 mc2 .non, lp := fun l => l.elim, rt := fun o G2 cs2 v => ∃ loc mc2, cs2.Perm (loc ++ (mc2 ++ cs)) ∧ post o G2 mc2 v, er := fun k _ G2 cs2 => ∃ loc mc2, cs2.Perm (loc ++ (mc2 ++ cs)) ∧ perr k G2 mc2 }
def Out.valM {R : Type} (m : Out Empty R Empty R) : R := match m with
  | .nx r => r
  | .bk l => l.elim
  | .ct l => l.elim
  | .rt r => r
  | .er e => e.elim
def Out.resM {ε R : Type} (m : Out ε R Empty R) : Except ε R := match m with
  | .nx r => .ok r
  | .bk l => l.elim
  | .ct l => l.elim
  | .rt r => .ok r
  | .er e => .error e
@[simp] theorem valM_rt {R : Type} (r : R) : (Out.rt r : Out Empty R Empty R).valM = r := rfl
@[simp] theorem valM_nx {R : Type} (r : R) : (Out.nx r : Out Empty R Empty R).valM = r := rfl
@[simp] theorem resM_rt {ε R : Type} (r : R) : (Out.rt r : Out ε R Empty R).resM = .ok r := rfl
@[simp] theorem resM_nx {ε R : Type} (r : R) : (Out.nx r : Out ε R Empty R).resM = .ok r := rfl
@[simp] theorem resM_er {ε R : Type} (k : ε) : (Out.er k : Out ε R Empty R).resM = .error k := rfl
section
variable {P : Program} {w : World} {K : PySem.W.Frag} {mg : Str → Option Value} {base : Heap}
theorem fn_mkM {I O : Type} {x : Str} {st : Stmt} {f : Addr} {fd : FuncData} {N ps : List Str} {k : Nat} {pre : I → Hp → Cells → List V → Prop} {post : I → List V → O → Hp → Cells → V → Prop} (F : Fun K x x st f fd) (S : FnScope N ps (defScope st)) (b : Binds K fd ps []) (hmg : mg x = some (.ref f))
    (body : I → Out Empty O Empty O) (len : ∀ i G mc vs, pre i G mc vs → vs.length = ps.length)
    (h : ∀ (cdv : Value) (A : Around) (outer : List Env) (s : Shared) (H : Hp) (E : XK) (i : I) (G : Hp) (mc cs : Cells) (vs : List V), Room k (A.deeper (envOfC x (defScope st) s.heap.objs.size f cdv)) → pre i G mc vs →
      B (cxOf CX0 P w K mg base N x (defScope st) f cdv A outer s H E).nox (fun e _ _ => e.elim) (defBody st) (start N vs) G (mc ++ cs) (PoM cs (post i vs) (fun e _ _ => e.elim)) (body i)) :
    Fn0 P w K mg base CX0 (k + 1) x ps.length (SpM pre post fun i => (body i).valM) := by
  refine ⟨f, fd, ps, F.ok S (fun vs H Q E hs => ?_) (fun cdv A outer s H vs Q E hr hs => ?_), hmg, F.kp, b, rfl⟩
  · obtain ⟨i, G, mc, cs, _, hp, _⟩ := hs
    exact len i G mc vs hp
  · obtain ⟨i, G, mc, cs, d, hp, q⟩ := hs
    refine ⟨_, sSs _ (defBody st), h cdv A outer s H E i G mc cs vs hr hp H d _ ?_⟩
    cases hb : body i with
    | nx u =>
      rintro σ2 G2 cs2 H2 s2 d2 ⟨loc, mc2, pm, hr2⟩
      refine q _ G2 mc2 H2 s2 (d2.perm pm).drop ?_
      dsimp only
      rw [hb]
      exact hr2
    | bk l => exact l.elim
    | ct l => exact l.elim
    | rt o =>
      rintro v G2 cs2 H2 s2 d2 ⟨loc, mc2, pm, hr2⟩
      refine q _ G2 mc2 H2 s2 (d2.perm pm).drop ?_
      dsimp only
      rw [hb]
      exact hr2
    | er e => exact e.elim
theorem fn_mkME {n : Nat} {I O S : Type} {adr : Fin n → Addr} {x : Str} {st : Stmt} {f : Addr} {fd : FuncData} {N ps : List Str} {k : Nat} {pre : I → Hp → Cells → List V → Prop} {post : I → List V → O → Hp → Cells → V → Prop} {perr : I → List V → S → Hp → Cells → Prop} (F : Fun K x x st f fd) (Sc : FnScope N ps (defScope st)) (b : Binds K fd ps []) (hmg : mg x = some (.ref f))
    (body : I → Out (Fin n × S) O Empty O) (len : ∀ i G mc vs, pre i G mc vs → vs.length = ps.length)
    (h : ∀ (cdv : Value) (A : Around) (outer : List Env) (s : Shared) (H : Hp) (E : XK) (i : I) (G : Hp) (mc cs : Cells) (vs : List V), Room k (A.deeper (envOfC x (defScope st) s.heap.objs.size f cdv)) → pre i G mc vs →
      B (cxOf (L2.CX P w) P w K mg base N x (defScope st) f cdv A outer s H E) (fun e _ H => E (.ref (adr e.1)) none H) (defBody st) (start N vs) G (mc ++ cs) (PoM cs (post i vs) (fun e => perr i vs e.2)) (body i)) :
    Fn0 P w K mg base (L2.CX P w) (k + 1) x ps.length (SpME adr pre post perr fun i => (body i).resM) := by
  refine ⟨f, fd, ps, F.okX Sc (fun vs H Q E hs => ?_) (fun cdv A outer s H vs Q E hr hs => ?_), hmg, F.kp, b, rfl⟩
  · obtain ⟨i, G, mc, cs, _, hp, _⟩ := hs
    exact len i G mc vs hp
  · obtain ⟨i, G, mc, cs, d, hp, q⟩ := hs
    refine ⟨_, sSs _ (defBody st), h cdv A outer s H E i G mc cs vs hr hp H d _ ?_⟩
    dsimp only at q
    cases hb : body i with
    | nx u =>
      rw [hb] at q
      rintro σ2 G2 cs2 H2 s2 d2 ⟨loc, mc2, pm, hr2⟩
      exact q _ G2 mc2 H2 s2 (d2.perm pm).drop hr2
    | bk l => exact l.elim
    | ct l => exact l.elim
    | rt o =>
      rw [hb] at q
      rintro v G2 cs2 H2 s2 d2 ⟨loc, mc2, pm, hr2⟩
      exact q _ G2 mc2 H2 s2 (d2.perm pm).drop hr2
    | er e =>
      rw [hb] at q
      rintro σ2 G2 cs2 H2 s2 d2 ⟨loc, mc2, pm, hr2⟩
      exact q G2 mc2 H2 s2 (d2.perm pm).drop hr2
end
section
variable {X : Cx} {σ : L2.St} {G : Hp} {cs : Cells} {e : Expr} {es : List Expr} {pos p : Pos} {k : V → Hp → Cells → Prop}
theorem ec_callM {I O : Type} {pre : I → Hp → Cells → List V → Prop} {post : I → List V → O → Hp → Cells → V → Prop} {m : I → O} {j l n : Nat} {x : Str} (F : Fn0 X.prog X.w X.K X.mg X.base CX0 j x n (SpM pre post m)) (hr : Room l X.A) (hk : j ≤ l)
    (ha : AC X (e :: es) σ G cs fun vs G1 cs1 => ∃ i mc rest, cs1.Perm (mc ++ rest) ∧ pre i G1 mc vs ∧ ∀ v G2 mc2, Same G1 G2 → post i vs (m i) G2 mc2 v → ∃ cs2, (mc2 ++ rest).Perm cs2 ∧ k v G2 cs2) (hg : Gl X x := by rfl) (hd : (x == ("__debug__" : Str)) = false := by decide)
    (he : starEach (e :: es) X.env = (false, eval e X.env) :: starEach es X.env := by exact star_plain rfl) (hpl : (backTo pos (starEach es X.env)).any (·.1) = false := by rfl) : EC X (.Call (.Name x p) (e :: es) [] pos) σ G cs k := by
  obtain ⟨f, fd, ps, F, hm, kp, b, _⟩ := F.ex
  intro G1 H s d Q q
  refine uE (pe_call F (hr.mono hk) hg hm kp b .nil pass0 (sA X _) (hdb := hd) (he := he) (hpl := hpl)) (ha G1 H s d _ fun G2 H2 cs2 vs s2 d2 hvs => ?_)
  obtain ⟨i, mc, rest, pm, hp, hq⟩ := hvs
  refine ⟨i, G2, mc, rest, d2.perm pm, ?_, fun v G3 mc2 H3 s3 d3 hv => ?_⟩
  · rw [List.append_nil]
    exact hp
  · rw [List.append_nil] at hv
    obtain ⟨cs3, pm3, hk3⟩ := hq v G3 mc2 s3 hv
    exact q G3 H3 cs3 v (s2.trans s3) (d3.perm pm3) hk3
/-- a def that changes nothing, its arguments may -/
theorem ec_callP {I O : Type} {pre : I → Hp → List V → Prop} {r : I → O → Hp → V → Prop} {m : I → O} {j l n : Nat} {x : Str} (F : Fn0 X.prog X.w X.K X.mg X.base CX0 j x n (SpP pre r m)) (hr : Room l X.A) (hk : j ≤ l)
    (ha : AC X (e :: es) σ G cs fun vs G1 cs1 => ∃ i, pre i G1 vs ∧ ∀ v G2, Same G1 G2 → r i (m i) G2 v → k v G2 cs1) (hg : Gl X x := by rfl) (hd : (x == ("__debug__" : Str)) = false := by decide)
    (he : starEach (e :: es) X.env = (false, eval e X.env) :: starEach es X.env := by exact star_plain rfl) (hpl : (backTo pos (starEach es X.env)).any (·.1) = false := by rfl) : EC X (.Call (.Name x p) (e :: es) [] pos) σ G cs k := by
  obtain ⟨f, fd, ps, F, hm, kp, b, _⟩ := F.ex
  intro G1 H s d Q q
  refine uE (pe_call F (hr.mono hk) hg hm kp b .nil pass0 (sA X _) (hdb := hd) (he := he) (hpl := hpl)) (ha G1 H s d _ fun G2 H2 cs2 vs s2 d2 hvs => ?_)
  obtain ⟨i, hp, hq⟩ := hvs
  refine ⟨i, G2, cs2, d2, ?_, fun v G3 H3 s3 d3 hv => q G3 H3 _ v (s2.trans s3) d3 (hq v G3 s3 hv)⟩
  rw [List.append_nil]
  exact hp
/-- what a builtin's reading wants -/
def RA (r : List V → Hp → VK → Prop) (vs : List V) (G : Hp) (cs : Cells) (k : V → Hp → Cells → Prop) : Prop :=
  ∀ G1 H, Same G G1 → Desc G1 cs H → ∀ Q : VK, (∀ G2 H2 cs2 v, Same G1 G2 → Desc G2 cs2 H2 → k v G2 cs2 → Q v H2) → r vs H Q
theorem ec_B {x : Str} {id : String} {r : List V → Hp → VK → Prop} (hc : CallR X (.builtin id) r) (hm : X.mg x = none) (ha : AC X (e :: es) σ G cs fun vs G1 cs1 => RA r vs G1 cs1 k)
    (hg : Gl X x := by rfl) (hv : bootBuiltins x = some (.builtin id) := by decide +kernel) (hn : x ≠ "__name__" := by decide) (hd : (x == ("__debug__" : Str)) = false := by decide)
    (he : starEach (e :: es) X.env = (false, eval e X.env) :: starEach es X.env := by exact star_plain rfl) (hpl : (backTo pos (starEach es X.env)).any (·.1) = false := by rfl) : EC X (.Call (.Name x p) (e :: es) [] pos) σ G cs k := fun G1 H s d Q q =>
  uE (pe_callB hc hg hm hv (sA X _) (hn := hn) (hdb := hd) (he := he) (hpl := hpl)) (ha G1 H s d _ fun G2 H2 cs2 vs s2 d2 hv => hv G2 H2 (Same.refl _) d2 Q fun G3 H3 cs3 v s3 d3 h3 => q G3 H3 cs3 v (s2.trans s3) d3 h3)
theorem ec_Ty {x : Str} {id : String} {r : List V → Hp → VK → Prop} (hc : CallR X (.type id) r) (hm : X.mg x = none) (ha : AC X (e :: es) σ G cs fun vs G1 cs1 => RA r vs G1 cs1 k)
    (hg : Gl X x := by rfl) (hv : bootBuiltins x = some (.type id) := by decide +kernel) (hn : x ≠ "__name__" := by decide) (hd : (x == ("__debug__" : Str)) = false := by decide)
    (he : starEach (e :: es) X.env = (false, eval e X.env) :: starEach es X.env := by exact star_plain rfl) (hpl : (backTo pos (starEach es X.env)).any (·.1) = false := by rfl) : EC X (.Call (.Name x p) (e :: es) [] pos) σ G cs k := fun G1 H s d Q q =>
  uE (pe_callTy hc hg hm hv (sA X _) (hn := hn) (hdb := hd) (he := he) (hpl := hpl)) (ha G1 H s d _ fun G2 H2 cs2 vs s2 d2 hv => hv G2 H2 (Same.refl _) d2 Q fun G3 H3 cs3 v s3 d3 h3 => q G3 H3 cs3 v (s2.trans s3) d3 h3)
/-- a list that is given to be changed -/
def mL {α : Type} (r : α → Hp → V → Prop) (xs : List α) (v : V) : Hp → Cells → Prop := fun G mc => ∃ a us, v = .ref a ∧ mc = [(a, .lst us)] ∧ Rs r G xs us
/-- the cell at k ahead of the others -/
theorem perm_to {cs : Cells} {k : Nat} {c : Addr × HO} {ds : Cells} (h : cs[k]? = some c) (p : (cs.eraseIdx k).Perm ds) : cs.Perm (c :: ds) := (perm_at h).trans (p.cons c)
end
section
variable {ε S L R : Type} {X : Cx} {W : ε → L2.St → Hp → Prop} {σ : L2.St} {G : Hp} {cs cs' : Cells} {Φ : Po ε S L R} {m : Out ε S L R} {rest body : List Stmt} {e c o i : Expr} {pos p : Pos}
theorem b_perm (p : cs.Perm cs') (h : B X W rest σ G cs' Φ m) : B X W rest σ G cs Φ m := fun H d E w => h H (d.perm p) E w
theorem b_setC (i : Nat) {x : Str} (hN : X.N.Nodup) (he : EC X e σ G cs fun v G1 cs1 => Same G G1 → B X W rest (σ.set i (some v)) G1 cs1 Φ m) (hi : X.N[i]? = some x := by rfl) (hx : Loc X.env.scope x := by first | exact Or.inl rfl | exact Or.inr rfl)
    (hs : swapsWith e (some (.Name x p)) pos.line X.env = pure false := by rfl) (hf : X.fn x = true ∨ X.env.scope.names.lookup x = some .local := by first | exact .inl rfl | exact .inr rfl) : B X W (.Assign [.Name x p] e pos :: rest) σ G cs Φ m :=
  b_cons (ps_set hN hi hx (sE X e) hs hf) fun H d E w => he G H (Same.refl _) d _ fun G2 H2 cs2 v s2 d2 hv => hv s2 H2 d2 E (w.up s2)
theorem b_exprC (he : EC X e σ G cs fun v G1 cs1 => Same G G1 → B X W rest σ G1 cs1 Φ m) (hs : swapsWith e none pos.line X.env = pure false := by rfl) : B X W (.Expr e pos :: rest) σ G cs Φ m :=
  b_cons (ps_expr (sE X e) hs) fun H d E w => he G H (Same.refl _) d _ fun G2 H2 cs2 v s2 d2 hv => hv s2 H2 d2 E (w.up s2)
theorem b_retC {r : R} (he : EC X e σ G cs fun v G1 cs1 => Same G G1 → Φ.rt r G1 cs1 v) : B X W (.Return (some e) pos :: rest) σ G cs Φ (.rt r) :=
  b_cons (ps_ret (sE X e)) fun H d E w => he G H (Same.refl _) d _ fun G2 H2 cs2 v s2 d2 hv => w v G2 cs2 H2 s2 d2 (hv s2)
theorem b_asgC {α : Type} {tg : Expr} {r : α → Hp → V → Prop} {Sx : α → Hp → L2.St → L2.St → Prop} (ht : Tg X tg r Sx) (he : EC X e σ G cs fun v G1 cs1 => ∃ x, r x G1 v ∧ ∀ σ', Sx x G1 σ σ' → Same G G1 → B X W rest σ' G1 cs1 Φ m)
    (hs : swapsWithSole [tg] e pos.line X.env = pure false := by rfl) (hw : swappedStores [tg] e X.env = pure none := by rfl) (h1 : (assignEach [tg] X.env).map (·.2) = [assign tg X.env] := by rfl) : B X W (.Assign [tg] e pos :: rest) σ G cs Φ m := by
  obtain ⟨g, hg, h2⟩ := ht
  exact b_cons (ps_asg (sE X e) hg hs hw (h1 := h1)) fun H d E w => he G H (Same.refl _) d _ fun G2 H2 cs2 v s2 d2 ⟨x, hx, hv⟩ => h2 x v G2 cs2 H2 σ hx d2 _ fun σ' hS => hv σ' hS s2 H2 d2 E (w.up s2)
/-- ifs whose test may change cells; Nx tells the cells behind the test -/
theorem b_ifxC {a : List Stmt} {k : Bool} {ma mr : Out ε S L R} (Nx : Hp → Cells → Prop) (hc : TC X c σ G cs fun z G1 cs1 => z = k ∧ Nx G1 cs1)
    (ha : k = true → ∀ G1 cs1, Same G G1 → Nx G1 cs1 → B X W a σ G1 cs1 { nx := fun _ _ _ _ => False, lp := Φ.lp, rt := Φ.rt, er := Φ.er } ma)
    (hr : k = false → ∀ G1 cs1, Same G G1 → Nx G1 cs1 → B X W rest σ G1 cs1 Φ mr) : B X W (.If c a [] pos :: rest) σ G cs Φ (if k = true then ma else mr) :=
  b_cons (ps_if (sT X c) (sSs X a) pss_nil) fun H d E w => hc G H (Same.refl _) d _ fun G2 H2 cs2 z s2 d2 ⟨ez, hn⟩ => by
    subst ez
    cases z with
    | true =>
      have w' : Wish W G Φ E ma := w
      refine iteT (ha rfl G2 cs2 s2 hn H2 d2 _ ?_)
      cases ma with
      | nx s => exact fun σ3 G3 cs3 H3 s3 d3 p => p.elim
      | bk l => exact fun σ3 G3 cs3 H3 s3 d3 p => w' σ3 G3 cs3 H3 (s2.trans s3) d3 p
      | ct l => exact fun σ3 G3 cs3 H3 s3 d3 p => w' σ3 G3 cs3 H3 (s2.trans s3) d3 p
      | rt r => exact fun v G3 cs3 H3 s3 d3 p => w' v G3 cs3 H3 (s2.trans s3) d3 p
      | er x => exact fun σ3 G3 cs3 H3 s3 d3 p => w' σ3 G3 cs3 H3 (s2.trans s3) d3 p
    | false => exact iteF (hr rfl G2 cs2 s2 hn H2 d2 E (Wish.up (show Wish W G Φ E mr from w) s2))
theorem b_iflC {a b : List Stmt} {k : Bool} {ma mb : Out ε S L R} (Nx : Hp → Cells → Prop) (hc : TC X c σ G cs fun z G1 cs1 => z = k ∧ Nx G1 cs1)
    (ha : k = true → ∀ G1 cs1, Same G G1 → Nx G1 cs1 → B X W a σ G1 cs1 Φ ma) (hb : k = false → ∀ G1 cs1, Same G G1 → Nx G1 cs1 → B X W b σ G1 cs1 Φ mb) : B X W [.If c a b pos] σ G cs Φ (if k = true then ma else mb) := fun H d E w =>
  uSs (pss_one (ps_if (sT X c) (sSs X a) (sSs X b))) (hc G H (Same.refl _) d _ fun G2 H2 cs2 z s2 d2 ⟨ez, hn⟩ => by
    subst ez
    cases z with
    | true => exact iteT (ha rfl G2 cs2 s2 hn H2 d2 E (Wish.up (show Wish W G Φ E ma from w) s2))
    | false => exact iteF (hb rfl G2 cs2 s2 hn H2 d2 E (Wish.up (show Wish W G Φ E mb from w) s2)))
theorem b_ifC {S' : Type} {a b : List Stmt} {k : Bool} (Nx : Hp → Cells → Prop) (Mid : S' → L2.St → Hp → Cells → Prop) {ma mb : Out ε S' L R} {g : S' → Out ε S L R} (hc : TC X c σ G cs fun z G1 cs1 => z = k ∧ Nx G1 cs1)
    (ha : k = true → ∀ G1 cs1, Same G G1 → Nx G1 cs1 → B X W a σ G1 cs1 { nx := Mid, lp := Φ.lp, rt := Φ.rt, er := Φ.er } ma) (hb : k = false → ∀ G1 cs1, Same G G1 → Nx G1 cs1 → B X W b σ G1 cs1 { nx := Mid, lp := Φ.lp, rt := Φ.rt, er := Φ.er } mb)
    (hr : ∀ s σ2 G2 cs2, Same G G2 → Mid s σ2 G2 cs2 → (if k = true then ma else mb) = .nx s → B X W rest σ2 G2 cs2 Φ (g s)) : B X W (.If c a b pos :: rest) σ G cs Φ ((if k = true then ma else mb).bind g) :=
  b_cons (ps_if (sT X c) (sSs X a) (sSs X b)) fun H d E w => hc G H (Same.refl _) d _ fun G2 H2 cs2 z s2 d2 ⟨ez, hn⟩ => by
    subst ez
    have go : ∀ {sts : List Stmt} {mm : Out ε S' L R}, B X W sts σ G2 cs2 { nx := Mid, lp := Φ.lp, rt := Φ.rt, er := Φ.er } mm → Wish W G Φ E (mm.bind g) → (∀ s σ2 G3 cs2, Same G G3 → Mid s σ2 G3 cs2 → mm = .nx s → B X W rest σ2 G3 cs2 Φ (g s)) → wSs X sts { E with nx := wSs X rest E } σ H2 := fun {sts mm} hB w hr => by
      refine hB H2 d2 _ ?_
      cases mm with
      | nx s => exact fun σ3 G3 cs3 H3 s3 d3 p => hr s σ3 G3 cs3 (s2.trans s3) p rfl H3 d3 E (Wish.up (G := G) (show Wish W G Φ E (g s) from w) (s2.trans s3))
      | bk l => exact fun σ3 G3 cs3 H3 s3 d3 p => w σ3 G3 cs3 H3 (s2.trans s3) d3 p
      | ct l => exact fun σ3 G3 cs3 H3 s3 d3 p => w σ3 G3 cs3 H3 (s2.trans s3) d3 p
      | rt r => exact fun v G3 cs3 H3 s3 d3 p => w v G3 cs3 H3 (s2.trans s3) d3 p
      | er x => exact fun σ3 G3 cs3 H3 s3 d3 p => w σ3 G3 cs3 H3 (s2.trans s3) d3 p
    cases z with
    | true => exact iteT (go (ha rfl G2 cs2 s2 hn) w hr)
    | false => exact iteF (go (hb rfl G2 cs2 s2 hn) w hr)
end
/-! ### statements with what changes cells within -/
section
variable {ε S L R : Type} {X : Cx} {W : ε → L2.St → Hp → Prop} {σ : L2.St} {G : Hp} {cs cs' : Cells} {Φ : Po ε S L R} {m : Out ε S L R} {rest body : List Stmt} {e c o i : Expr} {pos p : Pos}
/-- xs.append(e) -/
theorem b_appC {l : Addr} {apos cpos : Pos} (ho : D X o σ G cs (rV (.ref l))) (hl : ∃ us, (l, HO.lst us) ∈ cs) (he : EC X e σ G cs fun v G1 cs1 => ∃ k vs, cs1[k]? = some (l, .lst vs) ∧ vs.length < sizeLine ∧ (Same G G1 → B X W rest σ G1 (cs1.set k (l, .lst (vs ++ [v]))) Φ m))
    (hs : swapsWith (.Call (.Attribute o "append" apos) [e] [] cpos) none pos.line X.env = pure false := by rfl)
    (hbase : attributeBase o "append" X.env (eval o X.env) = eval o X.env := by rfl)
    (hfew : ((backTo cpos (starEach [e] X.env)).all (fun x => !x.1) && (backToKw cpos (keywordEach [] X.env)).all (fun x => x.1.isSome) && decide ([e].length + ([] : List Keyword).length + (if ([] : List Keyword).isEmpty then 0 else 1) < 30)) = true := by rfl)
    (hline : (apos.endLine == cpos.line) = true := by rfl) (hst : starEach [e] X.env = (false, eval e X.env) :: starEach [] X.env := by rfl) (hplain : (backTo cpos (starEach [] X.env)).any (·.1) = false := by rfl) :
    B X W (.Expr (.Call (.Attribute o "append" apos) [e] [] cpos) pos :: rest) σ G cs Φ m :=
  b_cons (ps_expr (pe_bm PySem.F.plainAttrs_list PySem.F.slot_list_append PySem.F.type_list_append mt_append (sE X o) (pa_cons (sE X e) pa_nil hst) hbase hfew hline hst hplain) hs) fun H d E w =>
    ho G H (Same.refl _) d _ fun G2 H2 u s2 d2 hu => by
      have eu : u = .ref l := hu
      subst eu
      obtain ⟨us, hm⟩ := hl
      refine ⟨.inl ⟨rfl, us, SqL.of (d2.at_ hm)⟩, he G2 H2 s2 d2 _ fun G3 H3 cs3 v s3 d3 hv => ?_⟩
      obtain ⟨k, vs, hk, hz, q⟩ := hv
      exact ⟨l, vs, v, rfl, rfl, d3.at_ (List.mem_of_getElem? hk), hz, q (s2.trans s3) _ (d3.write hk _) E (w.up (s2.trans s3))⟩
/-- xs[i] = e -/
theorem b_putC {l : Addr} (he : EC X e σ G cs fun v G1 cs1 => D X o σ G1 cs1 (rV (.ref l)) ∧ EC X i σ G1 cs1 fun y G2 cs2 => ∃ k vs z j, y = .int z ∧ cs2[k]? = some (l, .lst vs) ∧ ixN vs.length z = some j ∧ (Same G G2 → B X W rest σ G2 (cs2.set k (l, .lst (vs.set j v))) Φ m))
    (ha : ∀ v, assign (.Subscript o i p) X.env v = (do
      let ov ← holding [v] (eval o X.env)
      let iv ← holding [v, ov] (eval i X.env)
      standAt p
      holding [v, ov, iv] (setItem ov iv v)
      release [v, ov, iv] []) := by intro _; rfl)
    (hs : swapsWithSole [.Subscript o i p] e pos.line X.env = pure false := by rfl) (hw : swappedStores [.Subscript o i p] e X.env = pure none := by rfl) (h1 : (assignEach [.Subscript o i p] X.env).map (·.2) = [assign (.Subscript o i p) X.env] := by rfl) :
    B X W (.Assign [.Subscript o i p] e pos :: rest) σ G cs Φ m :=
  b_cons (ps_asg (sE X e) (pg_sub (sE X o) (sE X i) set_list ha) hs hw (h1 := h1)) fun H d E w => he G H (Same.refl _) d _ fun G2 H2 cs2 v s2 d2 hv =>
    hv.1 G2 H2 (Same.refl _) d2 _ fun G3 H3 u s3 d3 hu => hv.2 G3 H3 s3 d3 _ fun G4 H4 cs4 y s4 d4 hy => by
      obtain ⟨k, vs, z, j, ey, hk, hj, q⟩ := hy
      have eu : u = .ref l := hu
      subst eu ey
      exact ⟨l, vs, z, j, rfl, rfl, d4.at_ (List.mem_of_getElem? hk), hj, q ((s2.trans s3).trans s4) _ (d4.write hk _) E (w.up ((s2.trans s3).trans s4))⟩
/-- what stands behind the making of a walk -/
def Lb {α : Type} (X : Cx) (W : ε → L2.St → Hp → Prop) (tg : Expr) (body rest : List Stmt) (σ : L2.St) (G : Hp) (cs : Cells) (Φ : Po ε S L R) (m : Out ε S L R) (xs : List α) (Pi : α → Hp → V → Prop) (C : Cells → Prop) (g : TG) : Prop :=
  ∀ J H E, Desc G cs H → WalkD J xs G C Pi → Wish W G Φ E m → ∃ Wv : Nat → Nat → L2.St → Hp → Prop, (∃ n, Wv 0 n σ H) ∧ ∀ i n σ1 H1, Wv i n σ1 H1 →
    (J.stop i H1 ∧ wSs X rest E σ1 H1) ∨ (J.go i H1 ∧ ∃ N : L2.St → Hp → Prop, (∀ σ' H', N σ' H' → ∃ n', n' < n ∧ Wv (i + 1) n' σ' H') ∧ ∀ x H', J.yld i H1 x H' → g x σ1 H' fun σ2 H2 => wSs X body { E with nx := N, ct := N, bk := wSs X rest E } σ2 H2)
def IC {α : Type} (X : Cx) (tg iter : Expr) (σ : L2.St) (G : Hp) (cs : Cells) (C : Cells → Prop) (xs : List α) (P : α → Hp → V → Prop) (k : Hp → Cells → Prop) : Prop :=
  ∃ wi, PI X tg iter wi ∧ ∀ G1 H, Same G G1 → Desc G1 cs H → ∀ Rr : It → Hp → Prop, (∀ J G2 H2 cs2, Same G1 G2 → Desc G2 cs2 H2 → WalkD J xs G2 C P → k G2 cs2 → Rr J H2) → wi σ H Rr
theorem ic_rng1 {k : Hp → Cells → Prop} {tg a : Expr} {xs : List Int} (hm : X.mg "range" = none) (ha : EC X a σ G cs fun v G1 cs1 => ∃ j, v = .int j ∧ -(2 ^ 62) ≤ j ∧ j < 2 ^ 62 ∧ xs = rng 0 j ∧ k G1 cs1) (hg : Gl X "range" := by rfl) (hs : starEach [a] X.env = [(false, eval a X.env)] := by rfl) (hst : starEach [a] X.env = (false, eval a X.env) :: starEach [] X.env := by rfl) :
    IC X tg (.Call (.Name "range" p) [a] [] pos) σ G cs (fun _ => True) xs rI k :=
  ⟨_, pi_range1 hg hm (sA X [a]) hs, fun G1 H s d Rr kk => uA (pa_cons (sE X a) pa_nil hst) (ha G1 H s d _ fun G2 H2 cs2 v s2 d2 hv => by
    obtain ⟨j, e1, h1, h2, ex, hk⟩ := hv
    subst e1 ex
    refine ⟨j, rfl, h1, h2, kk _ G2 H2 cs2 s2 d2 ?_ hk⟩
    have q := wd_rng (G := G2) (lo := 0) (hi := j) (C := fun _ => True)
    rw [Int.sub_zero] at q
    exact q)⟩
theorem b_forC {α : Type} {tg iter : Expr} {C : Cells → Prop} {xs : List α} {Pi : α → Hp → V → Prop} {Sx : α → Hp → L2.St → L2.St → Prop} (ht : Tg X tg Pi Sx) (hcalm : X.calm = true) (hp : PassesOwn (model X.prog X.w) X.A X.env X.xe)
    (hi : ∀ g, PG X tg g → (∀ x v G cs H σ, Pi x G v → Desc G cs H → ∀ Q : L2.St → Hp → Prop, (∀ σ', Sx x G σ σ' → Q σ' H) → g v σ H Q) → IC X tg iter σ G cs C xs Pi fun G1 cs1 => Same G G1 → Lb X W tg body rest σ G1 cs1 Φ m xs Pi C g)
    (hs : ∀ x, foldedSetIterable iter X.env x = pure x := by intro _; rfl) : B X W (.For tg iter body [] pos :: rest) σ G cs Φ m := by
  obtain ⟨gt, hpg, hgt⟩ := ht
  obtain ⟨wi, hpi, hw⟩ := hi gt hpg hgt
  refine b_cons (ps_for hp hcalm hpi hpg (sSs X body) hs) fun H d E w => ?_
  exact hw G H (Same.refl _) d _ fun J G2 H2 cs2 s2 d2 wk hk => hk s2 J H2 E d2 wk (w.up s2)
theorem lb_core {α S1 : Type} {tg : Expr} {C : Cells → Prop} {xs : List α} {Pi : α → Hp → V → Prop} {Sx : α → Hp → L2.St → L2.St → Prop} {s0 : S1} {f : S1 → α → Out ε S1 S1 R} {g : S1 → Out ε S L R} {gt : TG}
    (N : Nat → S1 → L2.St → Hp → Cells → Prop) (hgt : ∀ x v G cs H σ, Pi x G v → Desc G cs H → ∀ Q : L2.St → Hp → Prop, (∀ σ', Sx x G σ σ' → Q σ' H) → gt v σ H Q)
    (h0 : ∀ G1, Same G G1 → N 0 s0 σ G1 cs) (hC : ∀ n s σ1 G1 cs1, N n s σ1 G1 cs1 → C cs1)
    (hb : ∀ pre x post s σ1 G0 G1 cs1 σ2, xs = pre ++ x :: post → Reach f s0 pre s → Same G G0 → N pre.length s σ1 G0 cs1 → Same G0 G1 → Sx x G1 σ1 σ2 →
      B X W body σ2 G1 cs1 { nx := N (pre.length + 1), lp := N (pre.length + 1), rt := Φ.rt, er := Φ.er } (f s x))
    (hr : ∀ n s σ1 G1 cs1, n ≤ xs.length → Same G G1 → N n s σ1 G1 cs1 → (forL f s0 xs : Out ε S1 L R) = .nx s → B X W rest σ1 G1 cs1 Φ (g s)) : Lb X W tg body rest σ G cs Φ ((forL f s0 xs).bind g) xs Pi C gt := by
  intro J H2 E d2 wk w
  let Pv : Nat → L2.St → Hp → Prop := fun i σ1 H1 => ∃ s G1 cs1, i ≤ xs.length ∧ Reach f s0 (xs.take i) s ∧ Same G G1 ∧ Desc G1 cs1 H1 ∧ N i s σ1 G1 cs1
  refine ⟨fun i n σ1 H1 => n = xs.length - i ∧ Pv i σ1 H1, ⟨xs.length, rfl, s0, G, cs, Nat.zero_le _, .nil, Same.refl _, d2, h0 G (Same.refl _)⟩, ?_⟩
  rintro i n σ1 H1 ⟨rfl, s, G1, cs1, hi, hre, s1, d1, hN⟩
  have w0 : Wish W G Φ E ((forL f s (xs.drop i)).bind g) := by
    have q := forL_reach (L := L) hre (xs.drop i)
    rw [List.take_append_drop] at q
    rw [← q]
    exact w
  by_cases hlt : i < xs.length
  · refine .inr ⟨wk.goes i G1 H1 cs1 hlt s1 (hC _ _ _ _ _ hN) d1, Pv (i + 1), fun σ' H' p' => ⟨_, by omega, rfl, p'⟩, fun v H3 y => ?_⟩
    have hx : xs[i]? = some xs[i] := by simp [hlt]
    obtain ⟨G3, s3, d3, pv⟩ := wk.yields i xs[i] G1 H1 cs1 v H3 hx s1 (hC _ _ _ _ _ hN) d1 y
    refine hgt xs[i] v G3 cs1 H3 σ1 pv d3 _ fun σ' hS => ?_
    have ed : xs = xs.take i ++ xs[i] :: xs.drop (i + 1) := by
      rw [← List.drop_eq_getElem_cons hlt, List.take_append_drop]
    have et : xs.take (i + 1) = xs.take i ++ [xs[i]] := by simp
    have el : (xs.take i).length = i := by rw [List.length_take]; omega
    have hb' := hb (xs.take i) xs[i] (xs.drop (i + 1)) s σ1 G1 G3 cs1 σ' ed hre s1 (by rw [el]; exact hN) s3 hS
    rw [el] at hb'
    refine hb' H3 d3 _ ?_
    have w1 : Wish W G Φ E ((forL f s (xs[i] :: xs.drop (i + 1))).bind g) := by
      rw [List.drop_eq_getElem_cons hlt] at w0
      exact w0
    rw [forL_cons] at w1
    have sG : Same G G3 := s1.trans s3
    cases hm : f s xs[i] with
    | nx s' => exact fun σ4 G4 cs4 H4 s4 d4 p4 => ⟨s', G4, cs4, hlt, by rw [et]; exact .nx hre hm, sG.trans s4, d4, p4⟩
    | ct s' => exact fun σ4 G4 cs4 H4 s4 d4 p4 => ⟨s', G4, cs4, hlt, by rw [et]; exact .ct hre hm, sG.trans s4, d4, p4⟩
    | bk s' =>
      rw [hm] at w1
      refine fun σ4 G4 cs4 H4 s4 d4 p4 => hr (i + 1) s' σ4 G4 cs4 hlt (sG.trans s4) p4 ?_ H4 d4 E (Wish.up (show Wish W G Φ E (g s') from w1) (sG.trans s4))
      rw [ed, forL_reach hre, forL_cons, hm]
    | rt r =>
      rw [hm] at w1
      exact fun v4 G4 cs4 H4 s4 d4 p4 => w1 v4 G4 cs4 H4 (sG.trans s4) d4 p4
    | er k =>
      rw [hm] at w1
      exact fun σ4 G4 cs4 H4 s4 d4 p4 => w1 σ4 G4 cs4 H4 (sG.trans s4) d4 p4
  · have e : i = xs.length := by omega
    subst e
    rw [List.drop_length] at w0
    rw [List.take_length] at hre
    refine .inl ⟨wk.stops G1 H1 cs1 s1 (hC _ _ _ _ _ hN) d1, hr _ s σ1 G1 cs1 (Nat.le_refl _) s1 hN ?_ H1 d1 E (Wish.up (show Wish W G Φ E (g s) from w0) s1)⟩
    have q := forL_reach (L := L) hre ([] : List α)
    rw [List.append_nil] at q
    exact q
end
/-- the values of a comprehension whose element changes things -/
def mapS {α β S : Type} (f : S → α → β × S) : S → List α → List β × S
  | s, [] => ([], s)
  | s, x :: xs => ((f s x).1 :: (mapS f (f s x).2 xs).1, (mapS f (f s x).2 xs).2)
theorem mapS_snoc {α β S : Type} (f : S → α → β × S) (s : S) (xs : List α) (x : α) : mapS f s (xs ++ [x]) = ((mapS f s xs).1 ++ [(f (mapS f s xs).2 x).1], (f (mapS f s xs).2 x).2) := by
  induction xs generalizing s with
  | nil => rfl
  | cons y ys ih =>
    show mapS f s (y :: (ys ++ [x])) = _
    simp only [mapS, ih, List.cons_append]
theorem mapS_length {α β S : Type} (f : S → α → β × S) (s : S) (xs : List α) : (mapS f s xs).1.length = xs.length := by
  induction xs generalizing s with
  | nil => rfl
  | cons y ys ih => simp only [mapS, List.length_cons, ih]
/-- what holds of the states all along, and of the values -/
theorem mapS_inv {α β S : Type} {f : S → α → β × S} (Is : S → Prop) (Iv : β → Prop) {xs : List α} (h : ∀ s x, x ∈ xs → Is s → Is (f s x).2 ∧ Iv (f s x).1) : ∀ {s : S}, Is s → Is (mapS f s xs).2 ∧ ∀ y ∈ (mapS f s xs).1, Iv y := by
  induction xs with
  | nil => exact fun hs => ⟨hs, by simp [mapS]⟩
  | cons a as ih =>
    intro s hs
    have h1 := h s a List.mem_cons_self hs
    have h2 := ih (fun s x hx => h s x (List.mem_cons_of_mem _ hx)) h1.1
    refine ⟨h2.1, fun y hy => ?_⟩
    rcases List.mem_cons.mp hy with e | hy
    · rw [e]; exact h1.2
    · exact h2.2 y hy
section
variable {X : Cx} {σ : L2.St} {G : Hp} {cs : Cells} {elt tg iter : Expr} {pos : Pos} {scope : Scope} {own : List (Str × Nat)} {α β S : Type} {xs : List α} {Pi : α → Hp → V → Prop} {r : β → Hp → V → Prop} {f : S → α → β × S} {s0 : S}
/-- [elt for tg in iter], elt changes cells: Nc tells the cells by the state -/
theorem ec_lc {Sx : α → Hp → L2.St → L2.St → Prop} {C : Cells → Prop} {k : V → Hp → Cells → Prop} (Nc : S → Hp → Cells → Prop) (hcalm : X.calm = true) (hN : X.N.Nodup) (ok : BlkOk X.N X.env.scope scope own) (hi : I X tg iter σ G cs C xs Pi) (ht : TgB X scope tg Pi Sx)
    (h0 : ∀ G1, Same G G1 → Nc s0 G1 cs) (hC : ∀ s G1 cs1 l us, Nc s G1 cs1 → C ((l, .lst us) :: cs1)) (hwipe : ∀ x G1 σ', Sx x G1 (wipe σ (own.map (·.2))) σ' → wipe σ' (own.map (·.2)) = wipe σ (own.map (·.2))) [∀ y, Mono (r y)]
    (he : ∀ pre x post, xs = pre ++ x :: post → ∀ s, s = (mapS f s0 pre).2 → ∀ G0 G1 cs1 σ' c, Same G G0 → Nc s G0 cs1 → Same G0 G1 → Sx x G1 (wipe σ (own.map (·.2))) σ' → ∀ s' H0 C cl fp, EC (X.blk s' H0 scope (compEnvC scope cl C X.env) fp) elt σ' G1 (c :: cs1) fun v G2 cs2 => ∃ cs3, cs2.Perm (c :: cs3) ∧ r (f s x).1 G2 v ∧ Nc (f s x).2 G2 cs3)
    (hsz : xs.length ≤ 16777215) (hk : ∀ l us G1 cs1, Same G G1 → Rs r G1 (mapS f s0 xs).1 us → Nc (mapS f s0 xs).2 G1 cs1 → k (.ref l) G1 ((l, .lst us) :: cs1))
    (hs : ∀ x, foldedSetIterable iter X.env x = pure x := by intro _; rfl) : EC X (.ListComp elt [⟨tg, iter, [], 0⟩] scope pos) σ G cs k := by
  obtain ⟨wi, hpi, hw⟩ := hi
  obtain ⟨g, hpg, hgt⟩ := ht
  intro G1 H s d Q q
  refine uE (pe_lc (te := teB X scope elt) hcalm hN hpi ok hpg (fun _ _ _ _ _ => pts_nil) (fun s H0 C cl fp => ⟨fun pins s1 σ H Q I h => (h s H0 C cl fp).run pins s1 I⟩) hs) ?_
  refine hw G1 H s d _ fun J G2 H2 s2 d2 wk => fun l hl => ?_
  let Pv : Nat → Hp → Prop := fun i H1 => ∃ G3 us cs3, i ≤ xs.length ∧ Same G2 G3 ∧ Desc G3 ((l, .lst us) :: cs3) H1 ∧ Rs r G3 (mapS f s0 (xs.take i)).1 us ∧ Nc (mapS f s0 (xs.take i)).2 G3 cs3
  refine ⟨fun i n H1 => n = xs.length - i ∧ Pv i H1, ⟨xs.length, rfl, G2, [], cs, Nat.zero_le _, Same.refl _, d2.newCell hl _, .nil, h0 G2 (s.trans s2)⟩, ?_⟩
  rintro i n H1 ⟨rfl, G3, us, cs3, hi, s3, d3, hr, hn⟩
  by_cases hlt : i < xs.length
  · refine .inr ⟨wk.goes i G3 H1 _ hlt s3 (hC _ _ _ _ _ hn) d3, Pv (i + 1), fun H' p' => ⟨_, by omega, rfl, p'⟩, fun v H3 y => ?_⟩
    have hx : xs[i]? = some xs[i] := by simp [hlt]
    have hm : xs[i] ∈ xs := List.getElem_mem hlt
    obtain ⟨G4, s4, d4, pv⟩ := wk.yields i xs[i] G3 H1 _ v H3 hx s3 (hC _ _ _ _ _ hn) d3 y
    have et : xs.take (i + 1) = xs.take i ++ [xs[i]] := by simp
    refine hgt xs[i] v G4 _ H3 _ pv d4 _ fun σ' hS => ⟨hwipe _ _ _ hS, ?_⟩
    have ed : xs = xs.take i ++ xs[i] :: xs.drop (i + 1) := by
      rw [← List.drop_eq_getElem_cons hlt, List.take_append_drop]
    refine iteT (B := Pv (i + 1) H3) fun s5 H0 C5 cl fp => he (xs.take i) xs[i] (xs.drop (i + 1)) ed _ rfl G3 G4 cs3 σ' (l, .lst us) ((s.trans s2).trans s3) hn s4 hS s5 H0 C5 cl fp G4 H3 (Same.refl _) d4 _ fun G5 H5 cs5 w s5 d5 ⟨cs6, pm, hw, hn5⟩ => ?_
    have d6 := d5.perm pm
    refine ⟨us, d6.at_ List.mem_cons_self, ?_, G5, us ++ [w], cs6, hlt, (s3.trans s4).trans s5, d6.write (k := 0) rfl _, ?_, ?_⟩
    · rw [← hr.length, mapS_length, List.length_take, sizeLine_eq]
      omega
    · rw [et, mapS_snoc]
      exact Rs.snoc hw (hr.mono (s4.trans s5))
    · rw [et, mapS_snoc]
      exact hn5
  · have e : i = xs.length := by omega
    subst e
    rw [List.take_length] at hr hn
    exact .inl ⟨wk.stops G3 H1 _ s3 (hC _ _ _ _ _ hn) d3, q G3 H1 _ _ (s2.trans s3) d3 (hk l us G3 cs3 ((s.trans s2).trans s3) hr hn)⟩
end
end J

/-! a variable that holds one of two defs; list(range(..)), in range(..), list.remove of ints -/
namespace J
open PySem L2 PyProof.Rows
open L2H (RoomH)
/-- one of two defs, told by a Bool -/
def rFn (mg : Str → Option Value) (x y : Str) (b : Bool) : Hp → V → Prop := fun _ v => ∃ f, mg (if b = true then y else x) = some (.ref f) ∧ v = .ref f
instance (mg : Str → Option Value) (x y : Str) (b : Bool) : Mono (rFn mg x y b) := ⟨fun _ h => h⟩
section
variable {X : Cx} {σ : L2.St} {G : Hp} {cs : Cells} {e a b o : Expr} {es : List Expr} {pos p : Pos}
theorem d_fn {x y z : Str} {c : Bool} {k n : Nat} {sp : Sp} (F : Fn0 X.prog X.w X.K X.mg X.base CX0 k z n sp) (hz : (if c = true then y else x) = z) (hg : Gl X z := by rfl) (hd : (z == ("__debug__" : Str)) = false := by decide) : D X (.Name z pos) σ G cs (rFn X.mg x y c) := by
  obtain ⟨f, fd, ps, F, hm, kp, b, _⟩ := F.ex
  exact d_glob (v := .ref f) hg ⟨.ref f, hm, rfl⟩ ⟨f, by rw [hz]; exact hm, rfl⟩ hd
theorem d_callF {I O : Type} {pre : I → Hp → List V → Prop} {r : I → O → Hp → V → Prop} {m : I → O} {k j n s : Nat} {x y : Str} {Ps : Hp → List V → Prop} {P : Hp → V → Prop} {f : Addr} (i : I) (F : Fn0 X.prog X.w X.K X.mg X.base CX0 k x n (SpP pre r m)) (hm0 : X.mg x = some (.ref f)) (hs : σ[s]? = some (some (.ref f))) (hr : Room j X.A) (hk : k ≤ j)
    (ha : A X (e :: es) σ G cs Ps) (hp : ∀ G1 vs, Same G G1 → Ps G1 vs → pre i G1 vs) (hP : ∀ G v, r i (m i) G v → P G v) (hN : X.N[s]? = some y := by rfl) (hv : Vis X.env.scope y := by first | exact Or.inl rfl | exact Or.inr (Or.inl rfl) | exact Or.inr (Or.inr rfl))
    (hdb : (y == ("__debug__" : Str)) = false := by decide) (hcd : (y == ("__classdict__" : Str)) = false := by decide)
    (he : starEach (e :: es) X.env = (false, eval e X.env) :: starEach es X.env := by exact star_plain rfl) (hpl : (backTo pos (starEach es X.env)).any (·.1) = false := by rfl) : D X (.Call (.Name y p) (e :: es) [] pos) σ G cs P := by
  obtain ⟨f', fd, ps, F, hm, kp, b, _⟩ := F.ex
  rw [hm0] at hm
  cases hm
  intro G1 H s1 d Q q
  refine uE (pe_callL (i := s) (f := f) (dvs := []) F (hr.mono hk) hN hv kp b .nil pass0 (sA X _) hdb hcd he hpl) ⟨hs, ha G1 H s1 d _ fun G2 H2 vs s2 d2 hvs => ?_⟩
  have hpp := hp G2 vs (s1.trans s2) hvs
  refine ⟨i, G2, cs, d2, ?_, fun v G3 H3 s3 d3 hv => q G3 H3 v (s2.trans s3) d3 (hP _ _ ?_)⟩
  · rw [List.append_nil]
    exact hpp
  · exact hv
/-- list(range(n)) -/
theorem n_listRg {j : Int} {p2 : Pos} (hc : X.calm = true) (hm : X.mg "list" = none) (hmr : X.mg "range" = none) (ha : D X a σ G cs (rI j)) (h : 0 ≤ j ∧ j ≤ 16777216) (hg : Gl X "list" := by rfl) (hgr : Gl X "range" := by rfl) (na : starEach [a] X.env = (false, eval a X.env) :: starEach [] X.env := by rfl)
    (na2 : starEach [.Call (.Name "range" p2) [a] [] pos] X.env = (false, eval (.Call (.Name "range" p2) [a] [] pos) X.env) :: starEach [] X.env := by rfl) {pos2 : Pos} : N X (.Call (.Name "list" p) [.Call (.Name "range" p2) [a] [] pos] [] pos2) σ G cs rI (rng 0 j) := fun G1 H s d Q q =>
  uE (pe_listRg hc hg hm (prg_1 hgr hmr (sE X a) na) na2) (ha G1 H s d _ fun G2 H2 v s2 d2 hv => ⟨j, hv, RgOk.of_le (by omega) h.2 (by omega) h.1, fun l hl => q G2 _ l _ s2 (d2.newCell hl _) (by
    have e : rgV 0 j = (rng 0 j).map V.int := by
      unfold rgV rng
      rw [List.map_map]
      rfl
    rw [e]
    exact Rs.of_map (fun _ => rfl) _)⟩)
end
theorem op_notIn_rng {X : Cx} : OpR X (compareOp .NotIn) (fun x y H Q => ∃ i a lo hi, x = V.int i ∧ y = V.ref a ∧ H a = some (.rng lo hi) ∧ Q (.bl (!decide (lo ≤ i ∧ i < hi))) H) := by
  intro pins s σ H x y v u Q I rx ry h
  obtain ⟨i, a, lo, hi, rfl, rfl, ha, q⟩ := h
  obtain ⟨k, rfl⟩ := rx
  obtain rfl : u = Value.ref a := ry
  obtain ⟨t1, t2, t3, ho⟩ := I.hok a _ ha
  show wpAny _ _ (do return Value.bool (!(← contains (Value.ref a) (Value.int i k)))) _ _ s
  refine wpAny_bind (wpAny_contains_slot (T := "range") ⟨_, ho, rfl⟩ F.slot_range_contains (call_meets F.slot_range_contains ⟨_, ho, rfl⟩ F.entry_range_contains (F.args_range_contains_2 _ _) (q_contains a lo hi i t1 t2 t3 k)
    ⟨ho, wpAny_truthy_bool (wpAny_pure ⟨.bl _, H, I, rfl, ?_⟩)⟩))
  rw [place1]
  exact q
theorem cr_range1 {X : Cx} : CallR X (.type "range") (fun vs H Q => ∃ j, vs = [V.int j] ∧ ∀ p, H p = none → Q (.ref p) (upd H p (.rng 0 j))) := by
  intro pins s σ H vs us Q I r h
  obtain ⟨j, rfl, q⟩ := h
  obtain ⟨u1, rfl, rj⟩ := r.one
  obtain ⟨t, rfl⟩ := rj
  refine call_range_1 ⟨.ref s.heap.objs.size, upd H s.heap.objs.size (.rng 0 j), I.laid (t' := s.toks + 2) (fun b o e => Heap.get?_push_of_some _ e) (Nat.le_refl _) ?_, rfl, q _ (I.hok.fresh (Nat.le_refl _))⟩
  exact ⟨_, _, _, Heap.get?_push_size _ rfl⟩
section
variable {X : Cx} {σ : L2.St} {G : Hp} {cs : Cells} {e a b o : Expr} {es : List Expr} {pos p : Pos}
/-- range(n) as a value -/
def rRg (j : Int) : Hp → V → Prop := fun G v => ∃ a, v = .ref a ∧ G a = some (.rng 0 j)
theorem d_rg {j : Int} (hm : X.mg "range" = none) (ha : D X a σ G cs (rI j)) (hg : Gl X "range" := by rfl) (na : starEach [a] X.env = (false, eval a X.env) :: starEach [] X.env := by rfl) (hv : bootBuiltins "range" = some (.type "range") := by decide +kernel) (hpl : (backTo pos (starEach [] X.env)).any (·.1) = false := by rfl) :
    D X (.Call (.Name "range" p) [a] [] pos) σ G cs (rRg j) := fun G1 H s d Q q =>
  uE (pe_callTy cr_range1 hg hm hv (sA X [a]) (he := na) (hpl := hpl)) (a_cons ha a_nil na G1 H s d _ fun G2 H2 vs s2 d2 hvs => by
    obtain ⟨v, ws, e1, h1, h2⟩ := hvs
    cases h2
    cases h1
    refine ⟨j, e1, fun l hl => ?_⟩
    have sf : Same G2 (upd G2 l (.rng 0 j)) := Same.fresh d2.same hl _
    exact q _ _ _ (s2.trans sf) (d2.new hl _) ⟨l, rfl, upd_same⟩)
instance (j : Int) : Mono (rRg j) := ⟨fun s ⟨a, e, h⟩ => ⟨a, e, s _ _ h⟩⟩
theorem d_nrg {i j : Int} (ha : D X a σ G cs (rI i)) (hb : D X b σ G cs (rRg j)) (hm : behindInMarks .NotIn b = false := by rfl) : D X (.Compare a [.NotIn] [b] pos) σ G cs (rB (!decide (0 ≤ i ∧ i < j))) :=
  d_cmp op_notIn_rng hm ha hb fun G1 H x y s d hx hy Q q => by
    obtain ⟨l, e, h⟩ := hy
    exact ⟨i, l, 0, j, hx, e, d.same _ _ h, q⟩
theorem t_nrg {i j : Int} (ha : D X a σ G cs (rI i)) (hb : D X b σ G cs (rRg j)) (hm : behindInMarks .NotIn b = false := by rfl) : T X (.Compare a [.NotIn] [b] pos) σ G cs (!decide (0 ≤ i ∧ i < j)) :=
  t_cmp op_notIn_rng hm ha hb fun G1 H x y s d hx hy Q q => by
    obtain ⟨l, e, h⟩ := hy
    exact ⟨i, l, 0, j, hx, e, d.same _ _ h, q⟩
end
section
variable {ε S L R : Type} {X : Cx} {W : ε → L2.St → Hp → Prop} {σ : L2.St} {G : Hp} {cs : Cells} {Φ : Po ε S L R} {m : Out ε S L R} {rest : List Stmt} {e o : Expr} {pos p : Pos}
theorem erase_at {ns : List Int} {k : Int} (h : k ∈ ns) : ∃ j : Nat, ns[j]? = some k ∧ (∀ m : Nat, m < j → ns[m]? ≠ some k) ∧ ns.eraseIdx j = ns.erase k := by
  induction ns with
  | nil => cases h
  | cons a as ih =>
    by_cases e : a = k
    · subst e
      exact ⟨0, rfl, fun m hm => absurd hm (by omega), by simp⟩
    · obtain ⟨j, h1, h2, h3⟩ := ih ((List.mem_cons.mp h).resolve_left fun q => e q.symm)
      refine ⟨j + 1, h1, fun m hm => ?_, ?_⟩
      · cases m with
        | zero => exact fun q => e (Option.some.inj q)
        | succ m => exact h2 m (by omega)
      · rw [List.erase_cons_tail (by simpa using e), ← h3]
        rfl
/-- xs.remove(e), xs the cell at k, of ints -/
theorem b_remove (k : Nat) {l : Addr} {vs : List V} {ns : List Int} {i : Int} {apos cpos : Pos} (hk : cs[k]? = some (l, .lst vs)) (ho : D X o σ G cs (rV (.ref l))) (he : D X e σ G cs (rI i)) (hr : Rs rI G ns vs) (hi : i ∈ ns)
    (q : ∀ us G1, Same G G1 → Rs rI G1 (ns.erase i) us → B X W rest σ G1 (cs.set k (l, .lst us)) Φ m) (hs : swapsWith (.Call (.Attribute o "remove" apos) [e] [] cpos) none pos.line X.env = pure false := by rfl)
    (hbase : attributeBase o "remove" X.env (eval o X.env) = eval o X.env := by rfl)
    (hfew : ((backTo cpos (starEach [e] X.env)).all (fun x => !x.1) && (backToKw cpos (keywordEach [] X.env)).all (fun x => x.1.isSome) && decide ([e].length + ([] : List Keyword).length + (if ([] : List Keyword).isEmpty then 0 else 1) < 30)) = true := by rfl)
    (hline : (apos.endLine == cpos.line) = true := by rfl) (hst : starEach [e] X.env = (false, eval e X.env) :: starEach [] X.env := by rfl) (hplain : (backTo cpos (starEach [] X.env)).any (·.1) = false := by rfl) :
    B X W (.Expr (.Call (.Attribute o "remove" apos) [e] [] cpos) pos :: rest) σ G cs Φ m :=
  b_cons (ps_expr (pe_bm PySem.F.plainAttrs_list PySem.F.slot_list_remove PySem.F.type_list_remove mt_remove (sE X o) (pa_cons (sE X e) pa_nil hst) hbase hfew hline hst hplain) hs) fun H d E w =>
    ho G H (Same.refl _) d _ fun G2 H2 u s2 d2 hu => by
      have eu : u = .ref l := hu
      subst eu
      refine ⟨.inl ⟨rfl, vs, SqL.of (d2.at_ (List.mem_of_getElem? hk))⟩, he G2 H2 s2 d2 _ fun G3 H3 v s3 d3 hv => ?_⟩
      obtain ⟨j, h1, h2, h3⟩ := erase_at hi
      have hv' : v = .int i := hv
      have e0 : vs = ns.map V.int := by
        have q := rs_int hr
        exact q
      have h0 := d3.at_ (List.mem_of_getElem? hk)
      refine ⟨l, ns, i, j, rfl, by rw [hv'], by rw [← e0]; exact h0, h1, h2, ?_⟩
      rw [h3]
      exact q _ G3 (s2.trans s3) (Rs.of_map (fun _ => rfl) _) _ (d3.write hk _) E (w.up (s2.trans s3))
end
/-! isinstance(e, ValueError), e the error in hand -/
theorem tail_mem {K : PySem.W.Frag} {T : String} {r0 : List Value} : ∀ bm : List Value, PySem.W.tailIn K (.type T :: r0) bm = true → (Value.type T) ∈ bm
  | [], h => by
    unfold PySem.W.tailIn at h
    exact nomatch (beq_iff_eq.mp h)
  | v :: r, h => by
    unfold PySem.W.tailIn at h
    rcases Bool.or_eq_true_iff.mp h with h | h
    · rw [beq_iff_eq.mp h]
      exact List.mem_cons_self
    · split at h
      · split at h
        · simp only [Bool.and_eq_true] at h
          exact List.mem_cons_of_mem _ (tail_mem r h.2)
        · cases h
      · cases h
theorem exc_value {K : PySem.W.Frag} {C : Addr} (h : PySem.W.excIn K C [.type "ValueError", .type "Exception", .type "BaseException", .type "object"] "ValueError.__new__" = true) : PySem.W.kitOne K (.ref C) (.type "ValueError") = some true := by
  unfold PySem.W.excIn at h
  split at h
  · rename_i d cd sl hl
    split at h
    · rename_i C' bm _ _ _ _ n _ hm hs
      have hc : PySem.W.clsIn K C = some cd := by
        unfold PySem.W.clsIn
        rw [hl]
      have ht : PySem.W.tailIn K [.type "ValueError", .type "Exception", .type "BaseException", .type "object"] bm = true := by
        simp only [Bool.and_eq_true] at h
        exact h.1.1.2
      have hin : (Value.type "ValueError") ∈ bm := by
        exact tail_mem bm ht
      have he : cd.mro.isEmpty = false := by rw [hm]; rfl
      have hk : cd.mro.contains (.type "ValueError") = true := by
        rw [hm]
        exact List.contains_iff_mem.mpr (List.mem_cons_of_mem _ hin)
      show (if (Value.ref C == Value.type "ValueError") = true then some true else PySem.W.kitCls K (.ref C) (.type "ValueError")) = some true
      rw [if_neg (by intro z; exact nomatch (beq_iff_eq.mp z))]
      show (if PySem.W.kitMeta "ValueError" = true then PySem.W.subIn K (.ref C) (.type "ValueError") else none) = some true
      rw [if_pos (by decide +kernel)]
      show PySem.W.mroIn K C (.type "ValueError") = some true
      unfold PySem.W.mroIn
      rw [hc]
      show (if cd.mro.isEmpty = true then none else some (cd.mro.contains (.type "ValueError"))) = some true
      rw [he, if_neg (by decide), hk]
    · cases h
  · cases h
section
variable {n : Nat} {nm : _root_.Fin n → Str} {adr : _root_.Fin n → Addr} {B0 : Addr} {X : Cx} {σ : L2.St} {G : Hp} {cs : Cells} {e : Expr} {pos p : Pos}
theorem d_isV {b : Addr} {ob : Obj} {py : Pos} (i : _root_.Fin n) (Er : Errs X.K X.mg nm adr B0) (hz : Zc (.ref (adr i)) none ob) (hf : ∃ u, ob.data = .fields u) (hp : (b, ob) ∈ X.pn) (hm : X.mg "isinstance" = none) (hmv : X.mg "ValueError" = none) (he : D X e σ G cs (rV (.ref b)))
    (hy : bootBuiltins "ValueError" = some (.type "ValueError") := by decide +kernel) (hg : Gl X "isinstance" := by rfl) (hgy : Gl X "ValueError" := by rfl) (hny : ("ValueError" : Str) ≠ "__name__" := by decide) (hdy : (("ValueError" : Str) == ("__debug__" : Str)) = false := by decide) (hst : starEach [e, .Name "ValueError" py] X.env = (false, eval e X.env) :: starEach [.Name "ValueError" py] X.env := by rfl) (hst2 : starEach [.Name "ValueError" py] X.env = (false, eval (.Name "ValueError" py) X.env) :: starEach [] X.env := by rfl)
    (hpl : (backTo pos (starEach [.Name "ValueError" py] X.env)).any (·.1) = false := by rfl) : D X (.Call (.Name "isinstance" p) [e, .Name "ValueError" py] [] pos) σ G cs (rB true) := by
  refine d_callB (Ps := aC (rV (.ref b)) (aC (rV (.ty "ValueError")) aN)) (call_isP (Er.one i).cl hz hf hp) hm (a_cons (P := rV (.ref b)) he (a_cons (P := rV (.ty "ValueError")) ?_ a_nil hst2) hst) (fun G1 H vs s d h Q q => ?_) hg (he := hst) (hpl := hpl)
  · exact d_by (pe_bltn hgy hmv hy (v := .ty "ValueError") rfl hny hdy) fun G1 H s d Q q => q G1 H _ (Same.refl _) d rfl
  · obtain ⟨v, w, rfl, hv, v2, w2, rfl, hv2, hw⟩ := h
    cases (show w2 = [] from hw)
    cases (show v = V.ref b from hv)
    cases (show v2 = V.ty "ValueError" from hv2)
    exact ⟨_, _, _, rfl, fun u z => z, exc_value (Er.one i).ex, q G1 H _ (Same.refl _) d rfl⟩
end
/-! what holds of a mirror, by its steps -/
theorem letV_p {α β : Type} {P : β → Prop} {x : α} {f : α → β} (h : ∀ z, z = x → P (f z)) : P (letV x f) := h x rfl
theorem ite_p {β : Type} {P : β → Prop} {c : Prop} [Decidable c] {a b : β} (h1 : c → P a) (h2 : ¬c → P b) : P (if c then a else b) := by
  by_cases h : c
  · rw [if_pos h]
    exact h1 h
  · rw [if_neg h]
    exact h2 h
/-! comparison of data within an except suite -/
section
variable {α : Type} {r : α → Hp → V → Prop} {x y : α} [DecidableEq α] [∀ z, Mono (r z)] {k : Nat} {X : Cx} {σ : L2.St} {G : Hp} {cs : Cells} {a b : Expr} {pos : Pos}
theorem d_eqDh {K : PySem.W.Frag} [q : EqR K r] (hr : RoomH k X.A) (ha : D X a σ G cs (r x)) (hb : D X b σ G cs (r y)) (hx : q.ok x) (hy : q.ok y) (hd : q.dep ≤ 64 := by exact Nat.le_of_ble_eq_true rfl) (hK : X.K = K := by rfl) : D X (.Compare a [.Eq] [b] pos) σ G cs (rB (decide (x = y))) := by
  subst hK
  exact d_cmp (op_eqD (Nat.lt_of_le_of_lt (by omega) hr.un)) (nomark _) ha hb fun G1 H u v s d hu hv Q qq => ⟨_, _, q.dp hu d.same, q.dp hv d.same, shp hx hd, shp hy hd, by rw [eqv_dec]; exact qq⟩
theorem d_neDh {K : PySem.W.Frag} [q : EqR K r] (hr : RoomH k X.A) (ha : D X a σ G cs (r x)) (hb : D X b σ G cs (r y)) (hx : q.ok x) (hy : q.ok y) (hd : q.dep ≤ 64 := by exact Nat.le_of_ble_eq_true rfl) (hK : X.K = K := by rfl) : D X (.Compare a [.NotEq] [b] pos) σ G cs (rB (!decide (x = y))) := by
  subst hK
  exact d_cmp (op_neD (Nat.lt_of_le_of_lt (by omega) hr.un)) (nomark _) ha hb fun G1 H u v s d hu hv Q qq => ⟨_, _, q.dp hu d.same, q.dp hv d.same, shp hx hd, shp hy hd, by rw [eqv_dec]; exact qq⟩
theorem t_eqDh {K : PySem.W.Frag} [q : EqR K r] (hr : RoomH k X.A) (ha : D X a σ G cs (r x)) (hb : D X b σ G cs (r y)) (hx : q.ok x) (hy : q.ok y) (hd : q.dep ≤ 64 := by exact Nat.le_of_ble_eq_true rfl) (hK : X.K = K := by rfl) : T X (.Compare a [.Eq] [b] pos) σ G cs (decide (x = y)) := by
  subst hK
  exact t_cmp (op_eqD (Nat.lt_of_le_of_lt (by omega) hr.un)) (nomark _) ha hb fun G1 H u v s d hu hv Q qq => ⟨_, _, q.dp hu d.same, q.dp hv d.same, shp hx hd, shp hy hd, by rw [eqv_dec]; exact qq⟩
end
end J

/-! enumerate(text); more of what changes cells within expressions -/
namespace J
open PySem PySem.Spec L2 PyProof.Rows
/-- the signs of x with their places, in new pairs -/
def IteS (x : Str) : It :=
  ⟨fun i _ => i < x.cps.size, fun i H v H' => ∃ T c, v = .ref T ∧ H T = none ∧ H' = upd H T (.tup [.int (i : Nat), .str ⟨#[c]⟩]) ∧ x.cps[i]? = some c, fun i _ => i = x.cps.size⟩
theorem draws_str {prog : Program} {w : World} {A : Around} (hh : A.handled = none) (it : Addr) (x : Str) (t : Tok) (ty : String) (hty : ty = "str_ascii_iterator" ∨ ty = "str_iterator") :
    Draws prog w A it [it] x.cps.size (fun i v => ∃ c u, x.cps[i]? = some c ∧ v = .str ⟨#[c]⟩ u) (fun i h => h.IsStrIter it ty x t i) := by
  rcases hty with e | e
  · rw [e]; exact Draws.strAscii hh it x t
  · rw [e]; exact Draws.strWide hh it x t
theorem turn_enumS {P : Program} {w : World} {K : PySem.W.Frag} {elts : List Expr} {kk : Nat} {tpos : Pos} (x : Str) (t : Tok) (ty : String) (hty : ty = "str_ascii_iterator" ∨ ty = "str_iterator") (e it : Addr) :
    Turn P w K (.Tuple elts kk tpos) (IteS x) [e, it] e (fun i h => (∃ old, IsEnum h e it ((i : Nat) : Int) old) ∧ h.IsStrIter it ty x t i ∧ e ≠ it) where
  mem := by simp
  obj := fun i h st b hb => by
    obtain ⟨⟨old, he⟩, ⟨o, ho, hc, hd⟩, _⟩ := st
    have e' : b = e ∨ b = it := by simpa using hb
    rcases e' with z | z
    · rw [z]; exact ⟨_, he, fun v q => nomatch q⟩
    · rw [z]; exact ⟨o, ho, fun v q => by rw [hd] at q; cases q⟩
  keep := fun i h h' st k => let ⟨⟨old, he⟩, hi, hne⟩ := st; ⟨⟨old, k e (by simp) _ he⟩, (let ⟨o, ho, r⟩ := hi; ⟨o, k it (by simp) o ho, r⟩), hne⟩
  item := by
    intro X hP hw hK hc i pins s σ H E I hf st hg
    subst hP hw hK
    obtain ⟨⟨old, he⟩, hit, hne⟩ := st
    have hel : e < s.heap.objs.size := Heap.lt_size he
    have hil : it < s.heap.objs.size := by obtain ⟨_, q, _⟩ := hit; exact Heap.lt_size q
    have hd : X.A.in1.handled = none := I.ok.hd hc
    refine wpAny_pyNext_enum_itemD (draws_str (prog := X.prog) (w := X.w) hd it x t ty hty) he hit hg hne (by simpa using hne) fun v h' tk hP ho hit' hT hsz hk => ?_
    obtain ⟨c, u, hcx, rfl⟩ := hP
    refine ⟨_, rfl, wpAny_letOwnedTupleGo_enum (s := { s with heap := h', toks := tk + 1 }) ho fun h'' he' sb => ?_⟩
    have hT2 : h''.get? s.heap.objs.size = some { cls := .type "tuple", data := .seq #[.int i tk, .str ⟨#[c]⟩ u] } := (sb.2 _ (Nat.ne_of_gt hel)).trans hT
    have new : ObjOk X.prog X.w (upd H s.heap.objs.size (.tup [.int (i : Nat), .str ⟨#[c]⟩])) h'' s.heap.objs.size (.tup [.int (i : Nat), .str ⟨#[c]⟩]) :=
      ⟨by show 2 ≤ sizeLine; decide, [.int i tk, .str ⟨#[c]⟩ u], .cons ⟨_, rfl⟩ (.cons ⟨_, rfl⟩ .nil), ⟨_, hT2, rfl, _, rfl⟩⟩
    have I1 : Inv X pins σ (upd H s.heap.objs.size (.tup [.int (i : Nat), .str ⟨#[c]⟩])) { s with heap := h'', toks := tk + 1 } :=
      I.turnedNew (ch := [e, it]) (fun b ob hb q => (sb.2 b (fun z => hb (by simp [z]))).trans (hk b ob (fun z => hb (by simp [z])) (fun z => hb (by simp [z])) q)) hf (Nat.le_refl _) new
    refine ⟨.ref s.heap.objs.size, _, I1, rfl, ⟨_, c, rfl, I.hok.fresh (Nat.le_refl _), rfl, hcx⟩, ⟨⟨.str ⟨#[c]⟩ u, ?_⟩, (let ⟨o, ho, r⟩ := hit'; ⟨o, (sb.2 it (Ne.symm hne)).trans ho, r⟩), hne⟩, fun b hb => ?_⟩
    · have e1 : ((i + 1 : Nat) : Int) = (i : Int) + 1 := by omega
      rw [e1]; exact he'
    · have hb' : b < s.heap.objs.size := by
        have e' : b = e ∨ b = it := by simpa using hb
        rcases e' with z | z
        · rw [z]; exact hel
        · rw [z]; exact hil
      rw [upd_ne (Nat.ne_of_lt hb')]
      exact (hf b hb).1
  done := by
    intro X hP hw hK hc i pins s σ H E I hf st hg
    subst hP hw hK
    obtain ⟨⟨old, he⟩, hit, hne⟩ := st
    obtain ⟨f0, f1, f2, f3, f4, f5⟩ := hf it (by simp)
    have hd : X.A.in1.handled = none := I.ok.hd hc
    have D := draws_str (prog := X.prog) (w := X.w) hd it x t ty hty
    have ei : i = x.cps.size := hg
    subst ei
    exact wpAny_pyNext_enum_endD D he hit fun h' eb => ⟨rfl, I.turned (t' := s.toks) (fun b o hb q => eb b o hb q) f0 f1 f3 f4 f5⟩
  self := fun A i s Q E st h => let ⟨⟨_, he⟩, _⟩ := st; wpAny_pyIter_enum he h
def iEnumS (ta : TA) : TI := fun σ H R => ta σ H fun vs H1 => ∃ x, vs = [.str x] ∧ R (IteS x) H1
theorem pi_enumS {X : Cx} {e : Expr} {ta : TA} {p pos tpos : Pos} {elts : List Expr} {kk : Nat} (hg : Gl X "enumerate") (hm : X.mg "enumerate" = none) (ha : PA X [e] ta) (hs : starEach [e] X.env = [(false, eval e X.env)] := by rfl) :
    PI X (.Tuple elts kk tpos) (.Call (.Name "enumerate" p) [e] [] pos) (iEnumS ta) := by
  refine ⟨fun pins s σ H R I h => ?_⟩
  refine Call_ (ld_blt I hg hm boot_enumerate (PyProof.Rows.callWith_type1 (thn (ha.run pos pins s σ H _ I h) fun us s1 ⟨vs, H1, I1, r1, q1⟩ => ?_) hs rfl))
  obtain ⟨x, ex, q⟩ := q1
  subst ex
  cases r1 with
  | cons r rr =>
    cases rr
    obtain ⟨t, rfl⟩ := r
    refine call_enumerate_str fun h' he hit hsz hk => wpAny_pyIter_enum he ?_
    have I2 : Inv X pins σ H1 { s1 with heap := h' } := I1.kept (t' := s1.toks) hk
    have hty : strIterType x = "str_ascii_iterator" ∨ strIterType x = "str_iterator" := by
      unfold strIterType
      split
      · exact .inl rfl
      · exact .inr rfl
    refine ⟨s1.heap.objs.size + 1, [s1.heap.objs.size + 1, s1.heap.objs.size], _, _, H1, rfl, I2, turn_enumS x t (strIterType x) hty (s1.heap.objs.size + 1) s1.heap.objs.size, ⟨⟨.none, he⟩, hit, Nat.succ_ne_self _⟩, fun b hb => ?_, q⟩
    have e' : b = s1.heap.objs.size + 1 ∨ b = s1.heap.objs.size := by simpa using hb
    have hle : s1.heap.objs.size ≤ b := by
      rcases e' with z | z
      · rw [z]; exact Nat.le_add_right _ _
      · rw [z]; exact Nat.le_refl _
    exact I1.fpOk hle (I1.hok.fresh hle)
section
variable {X : Cx} {σ : L2.St} {G : Hp} {cs : Cells} {e a b : Expr} {es : List Expr} {pos p : Pos}
theorem wd_enumS {l : List Nat} {C : Cells → Prop} : WalkD (IteS (SX.S l)) (enumL l) G C (rT X.K (cc rI (c0 rC))) :=
  ⟨fun i G1 H cs h s c d => by
    rw [enumL_length] at h
    show i < (SX.S l).cps.size
    have e : (SX.S l).cps.size = l.length := SX.S_len l
    rw [e]
    exact h, fun G1 H cs s c d => by
    show (enumL l).length = (SX.S l).cps.size
    have e : (SX.S l).cps.size = l.length := SX.S_len l
    rw [e, enumL_length], fun i x G1 H cs v H' hx s c d y => by
    obtain ⟨e1, e2⟩ := enumL_getE hx
    obtain ⟨T, n, h1, h2, h3, h4⟩ := y
    have h5 : l[i]? = some n := by simpa using h4
    rw [e2] at h5
    cases h5
    subst h3
    have sf : Same G1 (upd G1 T (.tup [.int (i : Nat), .str ⟨#[x.2]⟩])) := Same.fresh d.same h2 _
    refine ⟨_, sf, d.new h2 _, T, [.int (i : Nat), .str ⟨#[x.2]⟩], h1, SqT.of upd_same, .int (i : Nat), [.str ⟨#[x.2]⟩], rfl, ?_, .str ⟨#[x.2]⟩, rfl, rfl⟩
    show V.int _ = V.int _
    rw [e1]⟩
theorem i_enumS {elts : List Expr} {kk : Nat} {tpos : Pos} {l : List Nat} (hm : X.mg "enumerate" = none) (h : D X a σ G cs (rS l)) (hg : Gl X "enumerate" := by rfl) (hs : starEach [a] X.env = [(false, eval a X.env)] := by rfl) (hst : starEach [a] X.env = (false, eval a X.env) :: starEach [] X.env := by rfl) :
    I X (.Tuple elts kk tpos) (.Call (.Name "enumerate" p) [a] [] pos) σ G cs (fun _ => True) (enumL l) (rT X.K (cc rI (c0 rC))) :=
  ⟨_, pi_enumS hg hm (sA X [a]) hs, fun G1 H s d Rr k => a_cons h a_nil hst G1 H s d _ fun G2 H2 vs s2 d2 hvs => by
    obtain ⟨v, ws, e1, k1, k2⟩ := hvs
    cases k2
    have ev : v = .str (SX.S l) := k1
    exact ⟨SX.S l, by rw [e1, ev], k _ G2 H2 s2 d2 wd_enumS⟩⟩
/-- a list display with a star at its end: [a, b, *xs] -/
theorem a_star {α : Type} {r : α → Hp → V → Prop} {xs : List α} {p' : Pos} [∀ x, Mono (r x)] (he : D X e σ G cs (rdL X.K cs r xs)) (hs : starEach [.Starred e p'] X.env = (true, eval e X.env) :: starEach [] X.env := by rfl) : A X [.Starred e p'] σ G cs (fun G1 vs => Rs r G1 xs vs) := fun G1 H s d Q q =>
  uA (StX.pa_star (sE X e) pa_nil hs) (he G1 H s d _ fun G2 H2 v s2 d2 hv => by
    obtain ⟨l, vs, ev, hl, hr⟩ := hv.sq d2
    exact ⟨l, vs, ev, .inr hl, by
      show Q (vs ++ []) H2
      rw [List.append_nil]
      exact q G2 H2 vs s2 d2 hr⟩)
theorem ls_star {α : Type} {r : α → Hp → V → Prop} {xs : List α} : Ls r (fun G1 vs => Rs r G1 xs vs) xs := fun G vs h => h
/-- a slice's part that may change cells -/
def OC (X : Cx) (eo : Option Expr) (σ : L2.St) (G : Hp) (cs : Cells) (k : Option Int → Hp → Cells → Prop) : Prop :=
  ∀ G1 H, Same G G1 → Desc G1 cs H → ∀ Q : Option Int → Hp → Prop, (∀ G2 H2 cs2 o, Same G1 G2 → Desc G2 cs2 H2 → k o G2 cs2 → Q o H2) → wO X eo σ H Q
theorem oc_D {o : Option Int} {eo : Option Expr} {k : Option Int → Hp → Cells → Prop} (h : DO X eo σ G cs o) (c : ∀ G1, Same G G1 → k o G1 cs) : OC X eo σ G cs k := fun G1 H s d Q q => h G1 H s d Q fun G2 H2 s2 d2 => q G2 H2 cs o s2 d2 (c G2 (s.trans s2))
theorem oc_E {k : Option Int → Hp → Cells → Prop} (h : EC X e σ G cs fun v G1 cs1 => ∃ i, v = .int i ∧ k (some i) G1 cs1) : OC X (some e) σ G cs k := fun G1 H s d Q q =>
  ⟨fun pins s0 Iv => (po_some (sE X e)).run pins s0 σ H Q Iv (h G1 H s d _ fun G2 H2 cs2 v s2 d2 ⟨i, ev, hk⟩ => ⟨i, ev, q G2 H2 cs2 (some i) s2 d2 hk⟩)⟩
/-- a slice -/
def SC (r : V → Option Int → Option Int → Hp → VK → Prop) (x : V) (l u : Option Int) (G : Hp) (cs : Cells) (k : V → Hp → Cells → Prop) : Prop :=
  ∀ G1 H, Same G G1 → Desc G1 cs H → ∀ Q : VK, (∀ G2 H2 cs2 v, Same G1 G2 → Desc G2 cs2 H2 → k v G2 cs2 → Q v H2) → r x l u H Q
theorem ec_slice {lo hi : Option Expr} {p2 : Pos} {r : V → Option Int → Option Int → Hp → VK → Prop} {k : V → Hp → Cells → Prop} (hr : SlR X r) (h : EC X a σ G cs fun x G1 cs1 => OC X lo σ G1 cs1 fun l G2 cs2 => OC X hi σ G2 cs2 fun u G3 cs3 => SC r x l u G3 cs3 k) : EC X (.Subscript a (.Slice lo hi none p2) pos) σ G cs k := fun G1 H s d Q q =>
  uE (pe_slice hr (sE X a) (sO lo) (sO hi)) (h G1 H s d _ fun G2 H2 cs2 x s2 d2 h2 => h2 G2 H2 (Same.refl _) d2 _ fun G3 H3 cs3 l s3 d3 h3 => h3 G3 H3 (Same.refl _) d3 _ fun G4 H4 cs4 u s4 d4 h4 => h4 G4 H4 (Same.refl _) d4 Q fun G5 H5 cs5 v s5 d5 h5 => q G5 H5 cs5 v (((s2.trans s3).trans s4).trans s5) d5 h5)
theorem cut_S {z : List Nat} {l u : Option Int} : cutS (SX.S z) l u = SX.S (cutL z l u) := by
  unfold cutS cutL
  rw [SX.S_len]
theorem sc_str {z : List Nat} {x : V} {l u : Option Int} {k : V → Hp → Cells → Prop} (hx : rS z G x) (hz : z.length ≤ sizeLine) (c : ∀ G1, Same G G1 → k (.str (SX.S (cutL z l u))) G1 cs) : SC rSlS x l u G cs k := fun G1 H s d Q q =>
  ⟨SX.S z, hx, by rw [SX.S_len]; exact hz, by rw [cut_S]; exact q G1 H cs _ (Same.refl _) d (c G1 s)⟩
theorem sc_lst {α : Type} {r : α → Hp → V → Prop} [∀ x, Mono (r x)] {xs : List α} {x : V} {l u : Option Int} {k : V → Hp → Cells → Prop} (hx : rdL X.K cs r xs G x) (c : ∀ v G1, Same G G1 → rL X.K r (cutL xs l u) G1 v → k v G1 cs) : SC (rSlL X.K) x l u G cs k := fun G1 H s d Q q => by
  obtain ⟨y, vs, e1, h1, h2⟩ := (Mono.mono s hx).sq d
  refine ⟨y, vs, e1, h1, fun p hp => ?_⟩
  have sf : Same G1 (upd G1 p (.lst (cutV vs l u))) := Same.fresh d.same hp _
  exact q _ _ cs _ sf (d.new hp _) (c _ _ (s.trans sf) ⟨p, _, rfl, SqL.of upd_same, (rs_cut h2 l u).mono sf⟩)
/-- xs + ys, new and frozen -/
theorem rc_catL {α : Type} {r : α → Hp → V → Prop} [∀ x, Mono (r x)] {xs ys : List α} {x y : V} {k : V → Hp → Cells → Prop} (hx : rdL X.K cs r xs G x) (hy : rdL X.K cs r ys G y) (hl : xs.length + ys.length ≤ sizeLine) (c : ∀ v G1, Same G G1 → rL X.K r (xs ++ ys) G1 v → k v G1 cs) : RC (rCatW X.K) x y G cs k := fun G1 H s d Q q => by
  obtain ⟨l, vs, e, h1, h2⟩ := (Mono.mono s hx).sq d
  obtain ⟨l', vs', e', h1', h2'⟩ := (Mono.mono s hy).sq d
  refine ⟨l, l', vs, vs', e, e', h1, h1', by rw [← h2.length, ← h2'.length]; exact hl, fun p hp => ?_⟩
  have sf : Same G1 (upd G1 p (.lst (vs ++ vs'))) := Same.fresh d.same hp _
  exact q _ _ cs _ sf (d.new hp _) (c _ _ (s.trans sf) ⟨p, _, rfl, SqL.of upd_same, (Rs.append h2' h2).mono sf⟩)
/-- o.join(e) -/
theorem ec_join {z : List Nat} {o : Expr} {apos : Pos} {k : V → Hp → Cells → Prop} (ho : D X o σ G cs (rS z)) (he : EC X e σ G cs fun v G1 cs1 => ∃ ws : List (List Nat), rdL X.K cs1 rS ws G1 v ∧ (ws.map List.length).sum + ws.length * z.length ≤ 16777216 ∧ ∀ G2, Same G1 G2 → k (.str (SX.S (joiL z ws))) G2 cs1)
    (hs : starEach [e] X.env = [(false, eval e X.env)] := by rfl) (hbase : attributeBase o "join" X.env (eval o X.env) = eval o X.env := by rfl) (hline : (apos.endLine == pos.line) = true := by rfl) : EC X (.Call (.Attribute o "join" apos) [e] [] pos) σ G cs k := fun G1 H s d Q q =>
  uE (pe_join (sE X o) (sE X e) hs hbase hline) (ho G1 H s d _ fun G2 H2 u s2 d2 hu => ⟨⟨_, hu⟩, he G2 H2 (s.trans s2) d2 _ fun G3 H3 cs3 v s3 d3 hv => by
    obtain ⟨ws, hr, hz, hk⟩ := hv
    obtain ⟨l, vs, e1, hl, hr⟩ := hr.sq d3
    have ev := rs_str hr
    subst ev
    refine ⟨SX.S z, l, ws.map SX.S, hu, by rw [e1], .inl hl, ?_, q G3 H3 cs3 _ (s2.trans s3) d3 ?_⟩
    · rw [SX.lens, List.length_map, SX.S_len]
      exact hz
    · have e9 : V.str (Txt.join (SX.S z) (ws.map SX.S)) = V.str (SX.S (joiL z ws)) := by
        unfold joiL
        rw [S_tlS]
      rw [e9]
      exact hk G3 (Same.refl _)⟩)
end
section
variable {ε S' L R' : Type} {X : Cx} {W : ε → L2.St → Hp → Prop} {Φ : Po ε S' L R'} {m : Out ε S' L R'} {rest : List Stmt} {σ : L2.St} {G : Hp} {cs : Cells} {elt tg iter : Expr} {pos spos : Pos} {scope : Scope} {own : List (Str × Nat)} {α β S : Type} {xs : List α} {Pi : α → Hp → V → Prop} {r : β → Hp → V → Prop} {f : S → α → β × S} {s0 : S}
theorem b_setLcC (i : Nat) {y : Str} {py : Pos} {Sx : α → Hp → L2.St → L2.St → Prop} {C : Cells → Prop} (hcalm : X.calm = true) (hN : X.N.Nodup) (hyl : X.env.scope.names.lookup y = some .local) (hsw : swapsWith (.ListComp elt [⟨tg, iter, [], 0⟩] scope pos) (some (.Name y py)) spos.line X.env = pure true) (Nc : S → Hp → Cells → Prop) (ok : BlkOk X.N X.env.scope scope own) (hi : I X tg iter σ G cs C xs Pi) (ht : TgB X scope tg Pi Sx)
    (h0 : ∀ G1, Same G G1 → Nc s0 G1 cs) (hC : ∀ s G1 cs1 l us, Nc s G1 cs1 → C ((l, .lst us) :: cs1)) (hwipe : ∀ x G1 σ', Sx x G1 (wipe σ (own.map (·.2))) σ' → wipe σ' (own.map (·.2)) = wipe σ (own.map (·.2))) [∀ y, Mono (r y)]
    (he : ∀ pre x post, xs = pre ++ x :: post → ∀ s, s = (mapS f s0 pre).2 → ∀ G0 G1 cs1 σ' c, Same G G0 → Nc s G0 cs1 → Same G0 G1 → Sx x G1 (wipe σ (own.map (·.2))) σ' → ∀ s' H0 C cl fp, EC (X.blk s' H0 scope (compEnvC scope cl C X.env) fp) elt σ' G1 (c :: cs1) fun v G2 cs2 => ∃ cs3, cs2.Perm (c :: cs3) ∧ r (f s x).1 G2 v ∧ Nc (f s x).2 G2 cs3)
    (hsz : xs.length ≤ 16777215) (hk : ∀ l us G1 cs1, Same G G1 → Rs r G1 (mapS f s0 xs).1 us → Nc (mapS f s0 xs).2 G1 cs1 → B X W rest (σ.set i (some (.ref l))) G1 ((l, .lst us) :: cs1) Φ m) (hy : X.N[i]? = some y := by rfl)
    (hs : ∀ x, foldedSetIterable iter X.env x = pure x := by intro _; rfl) : B X W (.Assign [.Name y py] (.ListComp elt [⟨tg, iter, [], 0⟩] scope pos) spos :: rest) σ G cs Φ m := by
  obtain ⟨wi, hpi, hw⟩ := hi
  obtain ⟨g, hpg, hgt⟩ := ht
  refine b_cons (ps_setLc (te := teB X scope elt) hcalm hN hy hyl hsw hpi ok hpg (fun _ _ _ _ _ => pts_nil) (fun s H0 C cl fp => ⟨fun pins s1 σ H Q I h => (h s H0 C cl fp).run pins s1 I⟩) hs) fun H d E w => ?_
  have s : Same G G := Same.refl _
  refine hw G H s d _ fun J G2 H2 s2 d2 wk => fun l hl => ?_
  let Pv : Nat → Hp → Prop := fun i H1 => ∃ G3 us cs3, i ≤ xs.length ∧ Same G2 G3 ∧ Desc G3 ((l, .lst us) :: cs3) H1 ∧ Rs r G3 (mapS f s0 (xs.take i)).1 us ∧ Nc (mapS f s0 (xs.take i)).2 G3 cs3
  refine ⟨fun i n H1 => n = xs.length - i ∧ Pv i H1, ⟨xs.length, rfl, G2, [], cs, Nat.zero_le _, Same.refl _, d2.newCell hl _, .nil, h0 G2 (s.trans s2)⟩, ?_⟩
  rintro i n H1 ⟨rfl, G3, us, cs3, hi, s3, d3, hr, hn⟩
  by_cases hlt : i < xs.length
  · refine .inr ⟨wk.goes i G3 H1 _ hlt s3 (hC _ _ _ _ _ hn) d3, Pv (i + 1), fun H' p' => ⟨_, by omega, rfl, p'⟩, fun v H3 y => ?_⟩
    have hx : xs[i]? = some xs[i] := by simp [hlt]
    have hm : xs[i] ∈ xs := List.getElem_mem hlt
    obtain ⟨G4, s4, d4, pv⟩ := wk.yields i xs[i] G3 H1 _ v H3 hx s3 (hC _ _ _ _ _ hn) d3 y
    have et : xs.take (i + 1) = xs.take i ++ [xs[i]] := by simp
    refine hgt xs[i] v G4 _ H3 _ pv d4 _ fun σ' hS => ⟨hwipe _ _ _ hS, ?_⟩
    have ed : xs = xs.take i ++ xs[i] :: xs.drop (i + 1) := by
      rw [← List.drop_eq_getElem_cons hlt, List.take_append_drop]
    refine iteT (B := Pv (i + 1) H3) fun s5 H0 C5 cl fp => he (xs.take i) xs[i] (xs.drop (i + 1)) ed _ rfl G3 G4 cs3 σ' (l, .lst us) ((s.trans s2).trans s3) hn s4 hS s5 H0 C5 cl fp G4 H3 (Same.refl _) d4 _ fun G5 H5 cs5 w s5 d5 ⟨cs6, pm, hw, hn5⟩ => ?_
    have d6 := d5.perm pm
    refine ⟨us, d6.at_ List.mem_cons_self, ?_, G5, us ++ [w], cs6, hlt, (s3.trans s4).trans s5, d6.write (k := 0) rfl _, ?_, ?_⟩
    · rw [← hr.length, mapS_length, List.length_take, sizeLine_eq]
      omega
    · rw [et, mapS_snoc]
      exact Rs.snoc hw (hr.mono (s4.trans s5))
    · rw [et, mapS_snoc]
      exact hn5
  · have e : i = xs.length := by omega
    subst e
    rw [List.take_length] at hr hn
    exact .inl ⟨wk.stops G3 H1 _ s3 (hC _ _ _ _ _ hn) d3, hk l us G3 cs3 ((s.trans s2).trans s3) hr hn H1 d3 E (w.up ((s.trans s2).trans s3))⟩
end
/-! ### join, in plain lists -/
def joi (z : List Nat) : List (List Nat) → List Nat
  | [] => []
  | [x] => x
  | x :: y :: r => x ++ z ++ joi z (y :: r)
theorem join_S (z : List Nat) : ∀ ws : List (List Nat), PySem.Str.join (SX.S z) (ws.map SX.S) = SX.S (joi z ws)
  | [] => rfl
  | [x] => rfl
  | x :: y :: r => by
    have ih := join_S z (y :: r)
    show SX.S x ++ SX.S z ++ PySem.Str.join (SX.S z) ((y :: r).map SX.S) = SX.S (x ++ z ++ joi z (y :: r))
    rw [ih, SX.S_cat, SX.S_cat]
theorem joiL_is (z : List Nat) (ws : List (List Nat)) : joiL z ws = joi z ws := by
  unfold joiL
  have e : Txt.join (SX.S z) (ws.map SX.S) = SX.S (joi z ws) := by
    show PySem.Builtin.Str.glued _ _ = _
    rw [StrLaws.glued_eq_join, join_S]
  rw [e]
  show (SX.S (joi z ws)).cps.toList = _
  rfl
theorem joi_flat : ∀ ws : List (List Nat), joi [] ws = ws.flatten
  | [] => rfl
  | [x] => by simp [joi]
  | x :: y :: r => by
    have ih := joi_flat (y :: r)
    show x ++ [] ++ joi [] (y :: r) = _
    rw [ih, List.append_nil]
    rfl
theorem joi_len {z : List Nat} {n : Nat} : ∀ {ws : List (List Nat)}, (∀ w ∈ ws, w.length ≤ n) → (joi z ws).length ≤ ws.length * (n + z.length)
  | [], _ => Nat.zero_le _
  | [x], h => by
    have := h x List.mem_cons_self
    show x.length ≤ 1 * _
    omega
  | x :: y :: r, h => by
    have h1 := h x List.mem_cons_self
    have ih := joi_len (z := z) (n := n) (ws := y :: r) fun w hw => h w (List.mem_cons_of_mem _ hw)
    show (x ++ z ++ joi z (y :: r)).length ≤ ((y :: r).length + 1) * (n + z.length)
    rw [List.length_append, List.length_append, Nat.add_mul, Nat.one_mul]
    omega
theorem joi_all {P : Nat → Prop} {z : List Nat} (hz : ∀ c ∈ z, P c) : ∀ {ws : List (List Nat)}, (∀ w ∈ ws, ∀ c ∈ w, P c) → ∀ c ∈ joi z ws, P c
  | [], _ => fun c hc => nomatch hc
  | [x], h => h x List.mem_cons_self
  | x :: y :: r, h => fun c hc => by
    have hc' : c ∈ x ++ z ++ joi z (y :: r) := hc
    rcases List.mem_append.mp hc' with h1 | h1
    · rcases List.mem_append.mp h1 with h1 | h1
      · exact h x List.mem_cons_self c h1
      · exact hz c h1
    · exact joi_all hz (fun w hw => h w (List.mem_cons_of_mem _ hw)) c h1
theorem sum_le {ws : List (List Nat)} {n : Nat} (h : ∀ w ∈ ws, w.length ≤ n) : (ws.map List.length).sum ≤ ws.length * n := by
  induction ws with
  | nil => exact Nat.zero_le _
  | cons w ws ih =>
    have h1 := h w List.mem_cons_self
    have h2 := ih fun v hv => h v (List.mem_cons_of_mem _ hv)
    simp only [List.map_cons, List.sum_cons, List.length_cons, Nat.add_mul, Nat.one_mul]
    omega
/-- enumL's places -/
theorem enum_at {α : Type} {xs : List α} {x : Int × α} (h : x ∈ enumL xs) : 0 ≤ x.1 ∧ x.1 < (xs.length : Int) := by
  obtain ⟨i, hi, e⟩ := List.mem_iff_getElem.mp h
  have e' : (enumL xs)[i]? = some x := by rw [← e]; exact List.getElem?_eq_getElem hi
  obtain ⟨e1, _⟩ := enumL_getE e'
  rw [enumL_length] at hi
  omega
/-- a way that goes on, with I of its state -/
def NxI {ε S L R : Type} (I : S → Prop) (m : Out ε S L R) : Prop := ∃ z, m = .nx z ∧ I z
theorem NxI.mk {ε S L R : Type} {I : S → Prop} {z : S} (h : I z) : NxI I (.nx z : Out ε S L R) := ⟨z, rfl, h⟩
theorem bind_p {ε S S' L R : Type} {m : Out ε S' L R} {g : S' → Out ε S L R} {P : Out ε S L R → Prop} (I : S' → Prop) (h1 : NxI I m) (h2 : ∀ z, I z → P (g z)) : P (m.bind g) := by
  obtain ⟨z, e, h⟩ := h1
  rw [e]
  exact h2 z h
theorem ix2_all {α : Type} [Inhabited α] {P : α → Prop} {a b : α} {i : Int} (ha : P a) (hb : P b) (h0 : 0 ≤ i) (h1 : i < 2) : P (ixg [a, b] i) := by
  have h : i = 0 ∨ i = 1 := by omega
  rcases h with rfl | rfl
  · exact ha
  · exact hb
theorem ix3_all {α : Type} [Inhabited α] {P : α → Prop} {a b c : α} {i : Int} (ha : P a) (hb : P b) (hc : P c) (h0 : 0 ≤ i) (h1 : i < 3) : P (ixg [a, b, c] i) := by
  have h : i = 0 ∨ i = 1 ∨ i = 2 := by omega
  rcases h with rfl | rfl | rfl
  · exact ha
  · exact hb
  · exact hc
theorem ix4_all {α : Type} [Inhabited α] {P : α → Prop} {a b c d : α} {i : Int} (ha : P a) (hb : P b) (hc : P c) (hd : P d) (h0 : 0 ≤ i) (h1 : i < 4) : P (ixg [a, b, c, d] i) := by
  have h : i = 0 ∨ i = 1 ∨ i = 2 ∨ i = 3 := by omega
  rcases h with rfl | rfl | rfl | rfl
  · exact ha
  · exact hb
  · exact hc
  · exact hd
/-! ### calls without arguments; a tuple's place by a variable -/
section
variable {X : Cx} {σ : L2.St} {G : Hp} {cs : Cells} {e a b : Expr} {pos p : Pos}
theorem d_call0 {I O : Type} {pre : I → Hp → List V → Prop} {r : I → O → Hp → V → Prop} {m : I → O} {k j n : Nat} {x : Str} {P : Hp → V → Prop} (i : I) (F : Fn0 X.prog X.w X.K X.mg X.base CX0 k x n (SpP pre r m)) (hr : Room j X.A) (hk : k ≤ j)
    (hp : ∀ G1, Same G G1 → pre i G1 []) (hP : ∀ G v, r i (m i) G v → P G v) (hg : Gl X x := by rfl) (hd : (x == ("__debug__" : Str)) = false := by decide) : D X (.Call (.Name x p) [] [] pos) σ G cs P := by
  obtain ⟨f, fd, ps, F, hm, kp, b, _⟩ := F.ex
  intro G1 H s d Q q
  refine uE (pe_call0 F (hr.mono hk) hg hm kp b .nil pass0 (hdb := hd)) ?_
  exact ⟨i, G1, cs, d, hp G1 s, fun v G2 H2 s2 d2 hv => q G2 H2 v s2 d2 (hP _ _ hv)⟩
end
/-- xs are the first places, all alike -/
def AtAll {α : Type} (R : Hp → List V → Prop) (xs : List α) (r0 : α → Hp → V → Prop) : Prop := ∀ n y, xs[n]? = some y → At R n (r0 y)
theorem ata_e {α : Type} {R : Hp → List V → Prop} {r0 : α → Hp → V → Prop} : AtAll R ([] : List α) r0 := fun n y h => by simp at h
theorem ata_z {α β : Type} {r0 : α → Hp → V → Prop} {r' : β → Hp → List V → Prop} {x : α × β} {ys : List α} (h : AtAll (r' x.2) ys r0) : AtAll (cc r0 r' x) (x.1 :: ys) r0 := fun n y hy => by
  cases n with
  | zero =>
    have e : x.1 = y := by simpa using hy
    subst e
    exact at_z
  | succ n => exact at_s (h n y (by simpa using hy))
theorem ata_1 {α : Type} {r0 : α → Hp → V → Prop} {x : α} : AtAll (c0 r0 x) [x] r0 := fun n y hy => by
  cases n with
  | zero =>
    have e : x = y := by simpa using hy
    subst e
    exact at_1
  | succ n => simp at hy
section
variable {X : Cx} {σ : L2.St} {G : Hp} {cs : Cells} {e a b : Expr} {pos p : Pos}
theorem d_ixTv {α β : Type} [Inhabited β] {r : α → Hp → List V → Prop} [∀ x, MonoA (r x)] {x : α} {xs : List β} {r0 : β → Hp → V → Prop} {k : Int} (ha : D X a σ G cs (rT X.K r x)) (hb : D X b σ G cs (rI k)) (h : AtAll (r x) xs r0) (h0 : 0 ≤ k) (h1 : k < (xs.length : Int)) (hs : PlainIx b := by exact fun _ _ => rfl) :
    D X (.Subscript a b pos) σ G cs (r0 (ixg xs k)) := by
  obtain ⟨n, rfl⟩ : ∃ n : Nat, k = (n : Int) := ⟨k.toNat, by omega⟩
  refine d_ixT ha hb (h n _ ?_) hs
  have hn : n < xs.length := by omega
  rw [ixg_nat h0 h1]
  simp [hn]
end
/-! ### split and join -/
/-- what stands behind a list's first part -/
def joiT (c : Nat) : List (List Nat) → List Nat
  | [] => []
  | x :: r => c :: joi [c] (x :: r)
theorem joi_cons (c : Nat) (a : List Nat) (r : List (List Nat)) : joi [c] (a :: r) = a ++ joiT c r := by
  cases r with
  | nil => simp [joi, joiT]
  | cons b r => simp [joi, joiT]
theorem joiT_or (c : Nat) (r : List (List Nat)) : joiT c r = [] ∨ ∃ u, joiT c r = c :: u := by
  cases r with
  | nil => exact .inl rfl
  | cons _ _ => exact .inr ⟨_, rfl⟩
theorem tw_free {c : Nat} : ∀ {a : List Nat}, c ∉ a → ∀ t : List Nat, (t = [] ∨ ∃ u, t = c :: u) → (a ++ t).takeWhile (fun x => decide (x ≠ c)) = a
  | [], _, t, ht => by
    rcases ht with rfl | ⟨u, rfl⟩
    · rfl
    · simp
  | x :: a, h, t, ht => by
    have hx : x ≠ c := fun e => h (by rw [e]; exact List.mem_cons_self)
    have ih := tw_free (a := a) (fun q => h (List.mem_cons_of_mem _ q)) t ht
    rw [List.cons_append, List.takeWhile_cons, if_pos (by simpa using hx), ih]
theorem joi_inj {c : Nat} : ∀ {ws vs : List (List Nat)}, ws ≠ [] → vs ≠ [] → (∀ w ∈ ws, c ∉ w) → (∀ v ∈ vs, c ∉ v) → joi [c] ws = joi [c] vs → ws = vs
  | [], _, h, _, _, _, _ => absurd rfl h
  | _ :: _, [], _, h, _, _, _ => absurd rfl h
  | a :: r, b :: s, _, _, h1, h2, e => by
    rw [joi_cons, joi_cons] at e
    have t1 := joiT_or c r
    have t2 := joiT_or c s
    have f1 := tw_free (h1 a List.mem_cons_self) _ t1
    have f2 := tw_free (h2 b List.mem_cons_self) _ t2
    rw [e] at f1
    have eab : a = b := f1.symm.trans f2
    subst eab
    have e2 := List.append_cancel_left e
    cases r with
    | nil =>
      cases s with
      | nil => rfl
      | cons _ _ => exact nomatch e2
    | cons x r =>
      cases s with
      | nil => exact nomatch e2
      | cons y s =>
        have e3 : joi [c] (x :: r) = joi [c] (y :: s) := (List.cons.inj e2).2
        rw [joi_inj (by simp) (by simp) (fun w hw => h1 w (List.mem_cons_of_mem _ hw)) (fun w hw => h2 w (List.mem_cons_of_mem _ hw)) e3]
theorem joi_spl (x : List Nat) (c : Nat) : joi [c] (splL x [c]) = x := by
  have h := StrLaws.join_split (SX.S x) (SX.S [c])
  have e : Txt.split (SX.S x) (SX.S [c]) = (splL x [c]).map SX.S := by
    unfold splL
    rw [List.map_map]
    have : (SX.S ∘ tlS) = id := funext fun y => S_tlS y
    rw [this, List.map_id]
  rw [e, join_S] at h
  exact SX.S_inj h
theorem spl_free (x : List Nat) (c : Nat) : ∀ w ∈ splL x [c], c ∉ w := fun w hw => by
  unfold splL at hw
  obtain ⟨p, hp, rfl⟩ := List.mem_map.mp hw
  exact StrLaws.split_free (SX.S x) c p hp
theorem spl_is {c : Nat} {ws : List (List Nat)} (hn : ws ≠ []) (hf : ∀ w ∈ ws, c ∉ w) (hx : joi [c] ws ≠ []) : splL (joi [c] ws) [c] = ws := by
  refine joi_inj ?_ hn (spl_free _ _) hf (joi_spl _ _)
  intro h
  have q := joi_spl (joi [c] ws) c
  rw [h] at q
  exact hx q.symm
theorem joi_snoc (c : Nat) : ∀ (ws : List (List Nat)) (w : List Nat), ws ≠ [] → joi [c] (ws ++ [w]) = joi [c] ws ++ c :: w
  | [], _, h => absurd rfl h
  | [a], w, _ => by simp [joi]
  | a :: b :: r, w, _ => by
    have ih := joi_snoc c (b :: r) w (by simp)
    show a ++ [c] ++ joi [c] (b :: r ++ [w]) = a ++ [c] ++ joi [c] (b :: r) ++ c :: w
    rw [ih]
    simp
/-- the last part is the text's end -/
theorem spl_last {x : List Nat} {c : Nat} (h : 2 ≤ (splL x [c]).length) : ∃ p w ws, splL x [c] = ws ++ [w] ∧ x = p ++ w := by
  have hn : splL x [c] ≠ [] := fun e => by rw [e] at h; exact absurd h (by decide)
  obtain ⟨ws, w, e⟩ : ∃ ws w, splL x [c] = ws ++ [w] := ⟨_, _, (List.dropLast_concat_getLast hn).symm⟩
  have hw : ws ≠ [] := fun e0 => by rw [e, e0] at h; exact absurd (show 2 ≤ 1 from h) (by decide)
  have q := joi_spl x c
  rw [e, joi_snoc c ws w hw] at q
  exact ⟨joi [c] ws ++ [c], w, ws, e, by rw [← q]; simp⟩
theorem ixg_last {α : Type} [Inhabited α] (l : List α) (c : α) : ixg (l ++ [c]) (-1) = c := by
  unfold ixg
  have e : atI (l ++ [c]) (-1) = some c := by
    unfold atI ixN
    rw [if_neg (by decide), if_pos (by rw [List.length_append]; show (-((l.length + 1 : Nat) : Int)) ≤ -1; omega)]
    show (l ++ [c])[_]? = some c
    have e2 : ((-1 : Int) + ((l ++ [c]).length : Nat)).toNat = l.length := by
      rw [List.length_append]
      show ((-1 : Int) + ((l.length + 1 : Nat) : Int)).toNat = _
      omega
    rw [e2]
    simp
  rw [e]
  rfl
theorem cutL_neg {α : Type} (xs : List α) {k : Nat} (hk : 0 < k) (h : k ≤ xs.length) : cutL xs none (some (-(k : Int))) = xs.take (xs.length - k) := by
  unfold cutL
  rw [HT.sIx_none]
  have e : HT.sIx xs.length xs.length (some (-(k : Int))) = xs.length - k := by
    show (if (-(k : Int)) < 0 then ((-(k : Int)) + (xs.length : Int)).toNat else min (-(k : Int)).toNat xs.length) = _
    rw [if_pos (by omega)]
    omega
  rw [e, List.drop_zero, Nat.sub_zero]
theorem cutL_mid {α : Type} (xs : List α) {n k : Nat} (hk : 0 < k) (h : k ≤ xs.length) : cutL xs (some (n : Int)) (some (-(k : Int))) = (xs.drop n).take (xs.length - k - n) := by
  unfold cutL
  have e : HT.sIx xs.length xs.length (some (-(k : Int))) = xs.length - k := by
    show (if (-(k : Int)) < 0 then ((-(k : Int)) + (xs.length : Int)).toNat else min (-(k : Int)).toNat xs.length) = _
    rw [if_pos (by omega)]
    omega
  rw [e, HT.sIx_nat]
  by_cases hn : n ≤ xs.length
  · rw [Nat.min_eq_left hn]
  · rw [Nat.min_eq_right (by omega), List.drop_of_length_le (Nat.le_refl _), List.drop_of_length_le (by omega), List.take_nil, List.take_nil]
end J

/-! instances of the program's classes: fields, methods, making; defs that change what they are given and may raise -/
namespace J
open PySem PySem.Spec L2 PyProof.Rows
/-! ### an instance's fields: the names nf (fixed), the values vs -/
theorem lookup_zip : ∀ {nf : List Str} {vs : List V} {i : Nat} {f : Str} {v : V}, nf.Nodup → nf[i]? = some f → vs[i]? = some v → (nf.zip vs).lookup f = some v
  | [], _, i, _, _, _, h, _ => by cases i <;> cases h
  | _ :: _, [], i, _, _, _, _, h => by cases i <;> cases h
  | g :: nf, w :: vs, 0, f, v, _, h1, h2 => by
    cases h1
    cases h2
    show List.lookup g ((g, w) :: nf.zip vs) = _
    rw [List.lookup_cons, beq_self_eq_true g]
  | g :: nf, w :: vs, i + 1, f, v, hn, h1, h2 => by
    have hn' := List.nodup_cons.mp hn
    have hm : f ∈ nf := List.mem_of_getElem? (i := i) (by simpa using h1)
    have hne : (f == g) = false := by
      rw [beq_eq_false_iff_ne]
      exact fun e => hn'.1 (e ▸ hm)
    show List.lookup f ((g, w) :: nf.zip vs) = _
    rw [List.lookup_cons, hne]
    exact lookup_zip hn'.2 (by simpa using h1) (by simpa using h2)
theorem lookup_zip_no : ∀ {nf : List Str} {vs : List V} {f : Str}, f ∉ nf → (nf.zip vs).lookup f = none
  | [], _, _, _ => rfl
  | _ :: _, [], _, _ => rfl
  | g :: nf, w :: vs, f, h => by
    have hne : (f == g) = false := by
      rw [beq_eq_false_iff_ne]
      exact fun e => h (by rw [e]; exact List.mem_cons_self)
    show List.lookup f ((g, w) :: nf.zip vs) = _
    rw [List.lookup_cons, hne]
    exact lookup_zip_no fun q => h (List.mem_cons_of_mem _ q)
theorem putF_zip : ∀ {nf : List Str} {vs : List V} {i : Nat} {f : Str} {v : V}, nf.Nodup → nf[i]? = some f → i < vs.length → putF f v (nf.zip vs) = nf.zip (vs.set i v)
  | [], _, i, _, _, _, h, _ => by cases i <;> cases h
  | _ :: _, [], _, _, _, _, _, h => absurd h (Nat.not_lt_zero _)
  | g :: nf, w :: vs, 0, f, v, _, h1, _ => by
    cases h1
    show (if g = g then _ else _) = _
    rw [if_pos rfl]
    rfl
  | g :: nf, w :: vs, i + 1, f, v, hn, h1, h2 => by
    have hn' := List.nodup_cons.mp hn
    have hm : f ∈ nf := List.mem_of_getElem? (i := i) (by simpa using h1)
    have hne : ¬ g = f := fun e => hn'.1 (e ▸ hm)
    show (if g = f then _ else (g, w) :: putF f v (nf.zip vs)) = _
    rw [if_neg hne, putF_zip hn'.2 (by simpa using h1) (Nat.lt_of_succ_lt_succ h2)]
    rfl
theorem putF_new : ∀ {nf : List Str} {vs : List V} {f : Str} {v : V}, nf.Nodup → nf[vs.length]? = some f → putF f v (nf.zip vs) = nf.zip (vs ++ [v])
  | [], vs, _, _, _, h => by simp at h
  | g :: nf, [], f, v, _, h => by
    cases h
    show [(g, v)] = (g, v) :: nf.zip []
    rw [List.zip_nil_right]
  | g :: nf, w :: vs, f, v, hn, h => by
    have hn' := List.nodup_cons.mp hn
    have h' : nf[vs.length]? = some f := by simpa using h
    have hm : f ∈ nf := List.mem_of_getElem? h'
    have hne : ¬ g = f := fun e => hn'.1 (e ▸ hm)
    show (if g = f then _ else (g, w) :: putF f v (nf.zip vs)) = _
    rw [if_neg hne, putF_new hn'.2 h']
    rfl
/-- the class that a global name holds -/
def clA (mg : Str → Option Value) (x : Str) : Addr := match mg x with
  | some (.ref a) => a
  | _ => 0
theorem clA_of {mg : Str → Option Value} {x : Str} {C : Addr} (h : mg x = some (.ref C)) : clA mg x = C := by
  unfold clA
  rw [h]
/-- a class whose instances have the fields nf -/
structure ClsK (K : PySem.W.Frag) (C : Addr) (nf : List Str) : Prop where
  cl : Cls K C
  nn : nf.Nodup
  na : ∀ f ∈ nf, NoAttr K C f
  le : nf.length ≤ 900
section
variable {X : Cx} {σ : L2.St} {G : Hp} {cs : Cells} {o e : Expr} {f : Str} {pos pos' tpos : Pos} {P : Hp → V → Prop}
/-- o.f -/
theorem d_fld {a C dx : Addr} {nf : List Str} {vs : List V} {v : V} (i : Nat) (ck : ClsK X.K C nf) (ho : D X o σ G cs (rV (.ref a))) (hm : (a, HO.ins C dx (nf.zip vs)) ∈ cs) (hp : P G v) [Mono P] (hi : nf[i]? = some f := by rfl) (hv : vs[i]? = some v := by rfl) (hb : attributeBase o f X.env (eval o X.env) = eval o X.env := by rfl) :
    D X (.Attribute o f pos) σ G cs P :=
  d_by (pe_fld (sE X o) hb) fun G1 H s d Q q => ho G1 H s d _ fun G2 H2 x s2 d2 hx =>
    ⟨a, C, dx, nf.zip vs, v, hx, d2.at_ hm, ck.cl, ck.na f (List.mem_of_getElem? hi), lookup_zip ck.nn hi hv, q G2 H2 v s2 d2 (Mono.mono (s.trans s2) hp)⟩
end
section
variable {ε S L R : Type} {X : Cx} {W : ε → L2.St → Hp → Prop} {σ : L2.St} {G : Hp} {cs : Cells} {Φ : Po ε S L R} {m : Out ε S L R} {rest : List Stmt} {o e : Expr} {f : Str} {pos pos' tpos : Pos} {P : Hp → V → Prop}
/-- o.f = e, a field that is there -/
theorem b_fld {a C dx : Addr} {nf : List Str} {vs : List V} (k i : Nat) (ck : ClsK X.K C nf) (hk : cs[k]? = some (a, HO.ins C dx (nf.zip vs))) (he : D X e σ G cs P) (ho : D X o σ G cs (rV (.ref a)))
    (q : ∀ v G1, Same G G1 → P G1 v → B X W rest σ G1 (cs.set k (a, HO.ins C dx (nf.zip (vs.set i v)))) Φ m) [Mono P] (hi : nf[i]? = some f := by rfl) (hl : i < vs.length := by exact Nat.lt_of_lt_of_le (by decide) (Nat.le_refl _))
    (hs : swapsWith e (some (.Attribute o f pos')) pos.line X.env = pure false := by rfl) : B X W (.Assign [.Attribute o f pos'] e pos :: rest) σ G cs Φ m :=
  b_cons (ps_fld (sE X o) (sE X e) hs) fun H d E w => he G H (Same.refl _) d _ fun G2 H2 v s2 d2 hv => ho G2 H2 s2 d2 _ fun G3 H3 x s3 d3 hx =>
    ⟨a, C, dx, nf.zip vs, hx, d3.at_ (List.mem_of_getElem? hk), ck.cl, ck.na f (List.mem_of_getElem? hi), by rw [List.length_zip]; have := ck.le; omega, by
      rw [putF_zip ck.nn hi hl]
      exact q v G3 (s2.trans s3) (Mono.mono s3 hv) _ (d3.write hk _) E (w.up (s2.trans s3))⟩
/-- o.f = e, a field that is new -/
theorem b_fldNew {a C dx : Addr} {nf : List Str} {vs : List V} (k : Nat) (ck : ClsK X.K C nf) (hk : cs[k]? = some (a, HO.ins C dx (nf.zip vs))) (he : D X e σ G cs P) (ho : D X o σ G cs (rV (.ref a)))
    (q : ∀ v G1, Same G G1 → P G1 v → B X W rest σ G1 (cs.set k (a, HO.ins C dx (nf.zip (vs ++ [v])))) Φ m) [Mono P] (hi : nf[vs.length]? = some f := by rfl)
    (hs : swapsWith e (some (.Attribute o f pos')) pos.line X.env = pure false := by rfl) : B X W (.Assign [.Attribute o f pos'] e pos :: rest) σ G cs Φ m :=
  b_cons (ps_fld (sE X o) (sE X e) hs) fun H d E w => he G H (Same.refl _) d _ fun G2 H2 v s2 d2 hv => ho G2 H2 s2 d2 _ fun G3 H3 x s3 d3 hx =>
    ⟨a, C, dx, nf.zip vs, hx, d3.at_ (List.mem_of_getElem? hk), ck.cl, ck.na f (List.mem_of_getElem? hi), by rw [List.length_zip]; have := ck.le; omega, by
      rw [putF_new ck.nn hi]
      exact q v G3 (s2.trans s3) (Mono.mono s3 hv) _ (d3.write hk _) E (w.up (s2.trans s3))⟩
/-- o.f = a new list, which stays a cell of its own -/
theorem b_fldN {α : Type} {r : α → Hp → V → Prop} {xs : List α} {a C dx : Addr} {nf : List Str} {vs : List V} (k i : Nat) (ck : ClsK X.K C nf) (hk : cs[k]? = some (a, HO.ins C dx (nf.zip vs))) (he : N X e σ G cs r xs) (ho : ∀ c, D X o σ G (c :: cs) (rV (.ref a)))
    (q : ∀ l us G1, Same G G1 → Rs r G1 xs us → B X W rest σ G1 ((l, HO.lst us) :: cs.set k (a, HO.ins C dx (nf.zip (vs.set i (.ref l))))) Φ m) (hi : nf[i]? = some f := by rfl) (hl : i < vs.length := by exact Nat.lt_of_lt_of_le (by decide) (Nat.le_refl _)) [∀ y, Mono (r y)]
    (hs : swapsWith e (some (.Attribute o f pos')) pos.line X.env = pure false := by rfl) : B X W (.Assign [.Attribute o f pos'] e pos :: rest) σ G cs Φ m :=
  b_cons (ps_fld (sE X o) (sE X e) hs) fun H d E w => he G H (Same.refl _) d _ fun G2 H2 l us s2 d2 hv => ho (l, .lst us) G2 H2 s2 d2 _ fun G3 H3 x s3 d3 hx =>
    ⟨a, C, dx, nf.zip vs, hx, d3.at_ (List.mem_cons_of_mem _ (List.mem_of_getElem? hk)), ck.cl, ck.na f (List.mem_of_getElem? hi), by rw [List.length_zip]; have := ck.le; omega, by
      rw [putF_zip ck.nn hi hl]
      exact q l us G3 (s2.trans s3) (hv.mono s3) _ (d3.write (k := k + 1) (by simpa using hk) _) E (w.up (s2.trans s3))⟩
theorem b_fldNewN {α : Type} {r : α → Hp → V → Prop} {xs : List α} {a C dx : Addr} {nf : List Str} {vs : List V} (k : Nat) (ck : ClsK X.K C nf) (hk : cs[k]? = some (a, HO.ins C dx (nf.zip vs))) (he : N X e σ G cs r xs) (ho : ∀ c, D X o σ G (c :: cs) (rV (.ref a)))
    (q : ∀ l us G1, Same G G1 → Rs r G1 xs us → B X W rest σ G1 ((l, HO.lst us) :: cs.set k (a, HO.ins C dx (nf.zip (vs ++ [.ref l])))) Φ m) (hi : nf[vs.length]? = some f := by rfl) [∀ y, Mono (r y)]
    (hs : swapsWith e (some (.Attribute o f pos')) pos.line X.env = pure false := by rfl) : B X W (.Assign [.Attribute o f pos'] e pos :: rest) σ G cs Φ m :=
  b_cons (ps_fld (sE X o) (sE X e) hs) fun H d E w => he G H (Same.refl _) d _ fun G2 H2 l us s2 d2 hv => ho (l, .lst us) G2 H2 s2 d2 _ fun G3 H3 x s3 d3 hx =>
    ⟨a, C, dx, nf.zip vs, hx, d3.at_ (List.mem_cons_of_mem _ (List.mem_of_getElem? hk)), ck.cl, ck.na f (List.mem_of_getElem? hi), by rw [List.length_zip]; have := ck.le; omega, by
      rw [putF_new ck.nn hi]
      exact q l us G3 (s2.trans s3) (hv.mono s3) _ (d3.write (k := k + 1) (by simpa using hk) _) E (w.up (s2.trans s3))⟩
/-- o.f += e -/
theorem b_fldAdd {a C dx : Addr} {nf : List Str} {vs : List V} {z y : Int} (k i : Nat) (ck : ClsK X.K C nf) (hk : cs[k]? = some (a, HO.ins C dx (nf.zip vs))) (he : D X e σ G cs (rI y)) (ho : D X o σ G cs (rV (.ref a))) 
    (q : ∀ G1, Same G G1 → B X W rest σ G1 (cs.set k (a, HO.ins C dx (nf.zip (vs.set i (.int (z + y)))))) Φ m) (hv : vs[i]? = some (.int z) := by rfl) (hi : nf[i]? = some f := by rfl) : B X W (.AugAssign (.Attribute o f tpos) .Add e pos :: rest) σ G cs Φ m :=
  b_cons (ps_fldaug (sE X o) (sE X e) in_add) fun H d E w => ho G H (Same.refl _) d _ fun G2 H2 x s2 d2 hx =>
    ⟨a, C, dx, nf.zip vs, .int z, hx, d2.at_ (List.mem_of_getElem? hk), ck.cl, ck.na f (List.mem_of_getElem? hi), lookup_zip ck.nn hi hv, he G2 H2 s2 d2 _ fun G3 H3 u s3 d3 hu =>
      ⟨z, y, rfl, hu, dx, nf.zip vs, d3.at_ (List.mem_of_getElem? hk), by rw [List.length_zip]; have := ck.le; omega, by
        rw [putF_zip ck.nn hi (List.getElem?_eq_some_iff.mp hv).1]
        exact q G3 (s2.trans s3) _ (d3.write hk _) E (w.up (s2.trans s3))⟩⟩
end
/-! ### errors that come with what is then -/
def callF {ε T S L R O : Type} (m : Except ε O) (t : T) (g : O → Out (ε × T) S L R) : Out (ε × T) S L R := match m with
  | .ok o => g o
  | .error k => .er (k, t)
def callX {ε T T' S L R O : Type} (m : Except (ε × T) O) (g : O → Out (ε × T') S L R) (h : T → T') : Out (ε × T') S L R := match m with
  | .ok o => g o
  | .error (k, t) => .er (k, h t)
@[simp] theorem callF_ok {ε T S L R O : Type} (o : O) (t : T) (g : O → Out (ε × T) S L R) : callF (.ok o) t g = g o := rfl
@[simp] theorem callF_er {ε T S L R O : Type} (k : ε) (t : T) (g : O → Out (ε × T) S L R) : callF (.error k) t g = .er (k, t) := rfl
@[simp] theorem callX_ok {ε T T' S L R O : Type} (o : O) (g : O → Out (ε × T') S L R) (h : T → T') : callX (.ok o) g h = g o := rfl
@[simp] theorem callX_er {ε T T' S L R O : Type} (k : ε) (t : T) (g : O → Out (ε × T') S L R) (h : T → T') : callX (.error (k, t)) g h = .er (k, h t) := rfl
abbrev wE3 {n : Nat} {T : Type} (adr : Fin n → Addr) (Wx : WX) : Fin n × T → L2.St → Hp → Prop := fun e σ H => Wx (.ref (adr e.1)) none σ H
section
variable {n : Nat} {nm : Fin n → Str} {adr : Fin n → Addr} {B0 : Addr}
variable {S L R T : Type} {X : Cx} {Wx : WX} {σ : L2.St} {G : Hp} {cs : Cells} {st : Stmt} {rest body : List Stmt} {e : Expr} {es : List Expr} {pos p q : Pos}
theorem b_raiseM {Φ : Po (Fin n × T) S L R} {x m : Str} {j : Nat} {p2 p3 : Pos} {t : T} (i : Fin n) (Er : Errs X.K X.mg nm adr B0) (hc : X.calm = true) (tk : Takes X Wx) (hx : nm i = x) (k : Φ.er (i, t) σ G cs) (hg : Gl X x := by rfl) (hd : (x == ("__debug__" : Str)) = false := by decide) :
    B X (wE3 adr Wx) (.Raise (some (.Call (.Name x p) [.Constant (.str m) j p2] [] p3)) none pos :: rest) σ G cs Φ (.er (i, t)) := by
  subst hx
  have o := Er.one i
  exact b_cons (ps_raise hc tk (pmk_own F.excBase_ValueError o.ex o.mg o.kp (raises_own o.be o.ty) hg hd)) fun H d E w => w σ G cs H (Same.refl _) d k
section
variable {Φ : Po (Fin n × T) S L R} {O : Type} {P : O → Hp → V → Prop} {m : Except (Fin n) O} {t : T}
theorem b_setEM (i : Nat) {x : Str} {g : O → Out (Fin n × T) S L R} (hN : X.N.Nodup) (he : DE X adr Wx e σ G cs P m) (kr : ∀ k, m = .error k → ∀ G1, Same G G1 → Φ.er (k, t) σ G1 cs)
    (k : ∀ o, m = .ok o → ∀ v G1, Same G G1 → P o G1 v → B X (wE3 adr Wx) rest (σ.set i (some v)) G1 cs Φ (g o)) (hi : X.N[i]? = some x := by rfl) (hx : Loc X.env.scope x := by first | exact Or.inl rfl | exact Or.inr rfl)
    (hs : swapsWith e (some (.Name x p)) pos.line X.env = pure false := by rfl) (hf : X.fn x = true ∨ X.env.scope.names.lookup x = some .local := by first | exact .inl rfl | exact .inr rfl) : B X (wE3 adr Wx) (.Assign [.Name x p] e pos :: rest) σ G cs Φ (callF m t g) :=
  b_cons (ps_set hN hi hx (sE X e) hs hf) fun H d E w => he G H (Same.refl _) d _ (by
    cases hm : m with
    | ok o =>
      rw [hm] at w
      exact fun G2 H2 v s2 d2 hv => k o hm v G2 s2 hv H2 d2 E (Wish.up (m := g o) w s2)
    | error c =>
      rw [hm] at w
      exact fun G2 H2 s2 d2 => w σ G2 cs H2 s2 d2 (kr c hm G2 s2))
theorem b_retEM {g : O → R} (he : DE X adr Wx e σ G cs P m) (kr : ∀ k, m = .error k → ∀ G1, Same G G1 → Φ.er (k, t) σ G1 cs) (k : ∀ o, m = .ok o → ∀ v G1, Same G G1 → P o G1 v → Φ.rt (g o) G1 cs v) :
    B X (wE3 adr Wx) (.Return (some e) pos :: rest) σ G cs Φ (callF m t fun o => .rt (g o)) :=
  b_cons (ps_ret (sE X e)) fun H d E w => he G H (Same.refl _) d _ (by
    cases hm : m with
    | ok o =>
      rw [hm] at w
      exact fun G2 H2 v s2 d2 hv => w v G2 cs H2 s2 d2 (k o hm v G2 s2 hv)
    | error c =>
      rw [hm] at w
      exact fun G2 H2 s2 d2 => w σ G2 cs H2 s2 d2 (kr c hm G2 s2))
theorem b_exprEM {g : O → Out (Fin n × T) S L R} (he : DE X adr Wx e σ G cs P m) (kr : ∀ k, m = .error k → ∀ G1, Same G G1 → Φ.er (k, t) σ G1 cs)
    (k : ∀ o, m = .ok o → ∀ G1, Same G G1 → B X (wE3 adr Wx) rest σ G1 cs Φ (g o)) (hs : swapsWith e none pos.line X.env = pure false := by rfl) : B X (wE3 adr Wx) (.Expr e pos :: rest) σ G cs Φ (callF m t g) :=
  b_cons (ps_expr (sE X e) hs) fun H d E w => he G H (Same.refl _) d _ (by
    cases hm : m with
    | ok o =>
      rw [hm] at w
      exact fun G2 H2 v s2 d2 hv => k o hm G2 s2 H2 d2 E (Wish.up (m := g o) w s2)
    | error c =>
      rw [hm] at w
      exact fun G2 H2 s2 d2 => w σ G2 cs H2 s2 d2 (kr c hm G2 s2))
theorem b_asgEM {tg : Expr} {g : O → Out (Fin n × T) S L R} {Sx : O → Hp → L2.St → L2.St → Prop} (he : DE X adr Wx e σ G cs P m) (ht : Tg X tg P Sx) (kr : ∀ k, m = .error k → ∀ G1, Same G G1 → Φ.er (k, t) σ G1 cs)
    (k : ∀ o, m = .ok o → ∀ σ' G1, Same G G1 → Sx o G1 σ σ' → B X (wE3 adr Wx) rest σ' G1 cs Φ (g o))
    (hs : swapsWithSole [tg] e pos.line X.env = pure false := by rfl) (hw : swappedStores [tg] e X.env = pure none := by rfl) (h1 : (assignEach [tg] X.env).map (·.2) = [assign tg X.env] := by rfl) : B X (wE3 adr Wx) (.Assign [tg] e pos :: rest) σ G cs Φ (callF m t g) := by
  obtain ⟨gt, hg, h2⟩ := ht
  exact b_cons (ps_asg (sE X e) hg hs hw (h1 := h1)) fun H d E w => he G H (Same.refl _) d _ (by
    cases hm : m with
    | ok o =>
      rw [hm] at w
      exact fun G2 H2 v s2 d2 hv => h2 o v G2 cs H2 σ hv d2 _ fun σ' hS => k o hm σ' G2 s2 hS H2 d2 E (Wish.up (m := g o) w s2)
    | error c =>
      rw [hm] at w
      exact fun G2 H2 s2 d2 => w σ G2 cs H2 s2 d2 (kr c hm G2 s2))
end
/-- a call that changes cells and may raise -/
def EX (X : Cx) (adr : Fin n → Addr) (Wx : WX) (e : Expr) (σ : L2.St) (G : Hp) (cs : Cells) {O T : Type} (m : Except (Fin n × T) O) (k : O → V → Hp → Cells → Prop) (ke : Fin n → T → Hp → Cells → Prop) : Prop :=
  ∀ G1 H, Same G G1 → Desc G1 cs H → ∀ Q : VK, (match m with
    | .ok o => ∀ G2 H2 cs2 v, Same G1 G2 → Desc G2 cs2 H2 → k o v G2 cs2 → Q v H2
    | .error (i, t) => ∀ G2 H2 cs2, Same G1 G2 → Desc G2 cs2 H2 → ke i t G2 cs2 → Wx (.ref (adr i)) none σ H2) → wE X e σ H Q
section
variable {T' : Type} {Φ : Po (Fin n × T') S L R} {O : Type} {m : Except (Fin n × T) O} {h : T → T'}
theorem b_setX (i : Nat) {x : Str} {g : O → Out (Fin n × T') S L R} (hN : X.N.Nodup) (he : EX X adr Wx e σ G cs m (fun o v G1 cs1 => m = .ok o → Same G G1 → B X (wE3 adr Wx) rest (σ.set i (some v)) G1 cs1 Φ (g o)) (fun k t G1 cs1 => Same G G1 → Φ.er (k, h t) σ G1 cs1))
    (hi : X.N[i]? = some x := by rfl) (hx : Loc X.env.scope x := by first | exact Or.inl rfl | exact Or.inr rfl)
    (hs : swapsWith e (some (.Name x p)) pos.line X.env = pure false := by rfl) (hf : X.fn x = true ∨ X.env.scope.names.lookup x = some .local := by first | exact .inl rfl | exact .inr rfl) : B X (wE3 adr Wx) (.Assign [.Name x p] e pos :: rest) σ G cs Φ (callX m g h) :=
  b_cons (ps_set hN hi hx (sE X e) hs hf) fun H d E w => he G H (Same.refl _) d _ (by
    cases hm : m with
    | ok o =>
      rw [hm] at w
      exact fun G2 H2 cs2 v s2 d2 hv => hv rfl s2 H2 d2 E (Wish.up (m := g o) w s2)
    | error c =>
      obtain ⟨c, t⟩ := c
      rw [hm] at w
      exact fun G2 H2 cs2 s2 d2 hv => w σ G2 cs2 H2 s2 d2 (hv s2))
theorem b_exprX {g : O → Out (Fin n × T') S L R} (he : EX X adr Wx e σ G cs m (fun o v G1 cs1 => m = .ok o → Same G G1 → B X (wE3 adr Wx) rest σ G1 cs1 Φ (g o)) (fun k t G1 cs1 => Same G G1 → Φ.er (k, h t) σ G1 cs1))
    (hs : swapsWith e none pos.line X.env = pure false := by rfl) : B X (wE3 adr Wx) (.Expr e pos :: rest) σ G cs Φ (callX m g h) :=
  b_cons (ps_expr (sE X e) hs) fun H d E w => he G H (Same.refl _) d _ (by
    cases hm : m with
    | ok o =>
      rw [hm] at w
      exact fun G2 H2 cs2 v s2 d2 hv => hv rfl s2 H2 d2 E (Wish.up (m := g o) w s2)
    | error c =>
      obtain ⟨c, t⟩ := c
      rw [hm] at w
      exact fun G2 H2 cs2 s2 d2 hv => w σ G2 cs2 H2 s2 d2 (hv s2))
theorem b_retX {g : O → R} (he : EX X adr Wx e σ G cs m (fun o v G1 cs1 => m = .ok o → Same G G1 → Φ.rt (g o) G1 cs1 v) (fun k t G1 cs1 => Same G G1 → Φ.er (k, h t) σ G1 cs1)) : B X (wE3 adr Wx) (.Return (some e) pos :: rest) σ G cs Φ (callX m (fun o => .rt (g o)) h) :=
  b_cons (ps_ret (sE X e)) fun H d E w => he G H (Same.refl _) d _ (by
    cases hm : m with
    | ok o =>
      rw [hm] at w
      exact fun G2 H2 cs2 v s2 d2 hv => w v G2 cs2 H2 s2 d2 (hv rfl s2)
    | error c =>
      obtain ⟨c, t⟩ := c
      rw [hm] at w
      exact fun G2 H2 cs2 s2 d2 hv => w σ G2 cs2 H2 s2 d2 (hv s2))
end
end
/-! ### methods -/
structure Mt0 (P : Program) (w : World) (K : PySem.W.Frag) (mg : Str → Option Value) (base : Heap) (CX : CXT) (k : Nat) (C : Addr) (m : Str) (n : Nat) (sp : Sp) : Prop where
  ex : ∃ (f : Addr) (fd : FuncData) (ps : List Str), FnOk P w K mg base CX k f fd ps sp ∧ Meth K C m f ∧ Binds K fd ps [] ∧ ps.length = n
structure In0 (P : Program) (w : World) (K : PySem.W.Frag) (mg : Str → Option Value) (base : Heap) (CX : CXT) (k : Nat) (C : Addr) (n : Nat) (sp : Sp) : Prop where
  ex : ∃ (f : Addr) (fd : FuncData) (ps : List Str), FnOk P w K mg base CX k f fd ps sp ∧ Mk K C f ∧ Binds K fd ps [] ∧ ps.length = n
section
variable {X : Cx} {CX : CXT} {k : Nat} {f C : Addr} {fd : FuncData} {ps : List Str} {sp : Sp} {m : Str} {o e : Expr} {es : List Expr} {ta : TE} {t : TA} {apos pos : Pos}
def tMethS (C : Addr) (m : Str) (sp : Sp) (E : L2.St → XK) (ta : TE) (t : TA) : TE := fun σ H Q => ta σ H fun x H1 => ∃ a dx fs, x = .ref a ∧ H1 a = some (.ins C dx fs) ∧ fs.lookup m = none ∧ t σ H1 fun vs H2 => sp (x :: vs) H2 Q (E σ)
theorem pe_methX {pl : Sem Bool} {E : L2.St → XK} (he : PE X o ta) (c : Cls X.K C) (hm : Meth X.K C m f) (F : FnOk X.prog X.w X.K X.mg X.base CX k f fd ps sp) (hr : Room k X.A) (hb : Binds X.K fd ps []) (hx : ∀ σ, PassesAt CX X σ (E σ)) (ha : PA X (e :: es) t)
    (hst : starEach (e :: es) X.env = (false, eval e X.env) :: starEach es X.env := by rfl) (hpl : (backTo pos (starEach es X.env)).any (·.1) = false := by rfl)
    (ht : eval (.Call (.Attribute o m apos) (e :: es) [] pos) X.env = (do
      let ov ← eval o X.env
      standAt apos.atName
      let (f, first) ← holding [ov] (getMethod ov m pl)
      callWith pos f first (backTo pos (starEach (e :: es) X.env)) (backToKw pos (keywordEach [] X.env))) := by rfl) :
    PE X (.Call (.Attribute o m apos) (e :: es) [] pos) (tMethS C m sp E ta t) := by
  refine ⟨fun pins s σ H Q I h => ?_⟩
  refine PySem.W.methodCall_KW (pl := pl) (thn (he.run pins s σ H _ I h) fun u s1 ⟨x, H1, I1, rx, a, dx, fs, ex, ea, l, q⟩ => ?_) ht
  subst ex
  obtain rfl : u = Value.ref a := rx
  refine getmeth_ok I1 ea c hm l ?_
  refine PySem.W.callWith_K (first := [.ref a]) (h₀ := X.base) I.ok.mod.kin hm.kp (thn (ha.run pos pins s1 σ H1 _ I1 q) fun us s2 ⟨vs, H2, I2, r, q2⟩ => ⟨I2.kIn, ?_⟩) hst hpl
  exact run_fnS (us := .ref a :: us) (vs := .ref a :: vs) F hr hb (hx σ) I2 (.cons rfl r) q2
theorem pe_methX0 {pl : Sem Bool} {E : L2.St → XK} (he : PE X o ta) (c : Cls X.K C) (hm : Meth X.K C m f) (F : FnOk X.prog X.w X.K X.mg X.base CX k f fd ps sp) (hr : Room k X.A) (hb : Binds X.K fd ps []) (hx : ∀ σ, PassesAt CX X σ (E σ))
    (ht : eval (.Call (.Attribute o m apos) [] [] pos) X.env = (do
      let ov ← eval o X.env
      standAt apos.atName
      let (f, first) ← holding [ov] (getMethod ov m pl)
      callWith pos f first (backTo pos (starEach [] X.env)) (backToKw pos (keywordEach [] X.env))) := by rfl) :
    PE X (.Call (.Attribute o m apos) [] [] pos) (tMethS C m sp E ta tNil) := by
  refine ⟨fun pins s σ H Q I h => ?_⟩
  refine PySem.W.methodCall_KW (pl := pl) (thn (he.run pins s σ H _ I h) fun u s1 ⟨x, H1, I1, rx, a, dx, fs, ex, ea, l, q⟩ => ?_) ht
  subst ex
  obtain rfl : u = Value.ref a := rx
  refine getmeth_ok I1 ea c hm l ?_
  exact PySem.W.callWith_K0 (first := [.ref a]) I1.kIn hm.kp (run_fnS (us := [.ref a]) (vs := [.ref a]) F hr hb (hx σ) I1 (.cons rfl .nil) q)
end
section
variable {P : Program} {w : World} {K : PySem.W.Frag} {mg : Str → Option Value} {base : Heap}
theorem fn_okM {I O : Type} {x q : Str} {st : Stmt} {f : Addr} {fd : FuncData} {N ps : List Str} {k : Nat} {pre : I → Hp → Cells → List V → Prop} {post : I → List V → O → Hp → Cells → V → Prop} (F : Fun K x q st f fd) (S : FnScope N ps (defScope st)) (b : Binds K fd ps [])
    (body : I → Out Empty O Empty O) (len : ∀ i G mc vs, pre i G mc vs → vs.length = ps.length)
    (h : ∀ (cdv : Value) (A : Around) (outer : List Env) (s : Shared) (H : Hp) (E : XK) (i : I) (G : Hp) (mc cs : Cells) (vs : List V), Room k (A.deeper (envOfC q (defScope st) s.heap.objs.size f cdv)) → pre i G mc vs →
      B (cxOf CX0 P w K mg base N q (defScope st) f cdv A outer s H E).nox (fun e _ _ => e.elim) (defBody st) (start N vs) G (mc ++ cs) (PoM cs (post i vs) (fun e _ _ => e.elim)) (body i)) :
    FnOk P w K mg base CX0 (k + 1) f fd ps (SpM pre post fun i => (body i).valM) := by
  refine F.ok S (fun vs H Q E hs => ?_) (fun cdv A outer s H vs Q E hr hs => ?_)
  · obtain ⟨i, G, mc, cs, _, hp, _⟩ := hs
    exact len i G mc vs hp
  · obtain ⟨i, G, mc, cs, d, hp, q0⟩ := hs
    refine ⟨_, sSs _ (defBody st), h cdv A outer s H E i G mc cs vs hr hp H d _ ?_⟩
    cases hb : body i with
    | nx u =>
      rintro σ2 G2 cs2 H2 s2 d2 ⟨loc, mc2, pm, hr2⟩
      refine q0 _ G2 mc2 H2 s2 (d2.perm pm).drop ?_
      dsimp only
      rw [hb]
      exact hr2
    | bk l => exact l.elim
    | ct l => exact l.elim
    | rt o =>
      rintro v G2 cs2 H2 s2 d2 ⟨loc, mc2, pm, hr2⟩
      refine q0 _ G2 mc2 H2 s2 (d2.perm pm).drop ?_
      dsimp only
      rw [hb]
      exact hr2
    | er e => exact e.elim
theorem fn_okME {n : Nat} {I O S : Type} {adr : Fin n → Addr} {x q : Str} {st : Stmt} {f : Addr} {fd : FuncData} {N ps : List Str} {k : Nat} {pre : I → Hp → Cells → List V → Prop} {post : I → List V → O → Hp → Cells → V → Prop} {perr : I → List V → S → Hp → Cells → Prop} (F : Fun K x q st f fd) (Sc : FnScope N ps (defScope st)) (b : Binds K fd ps [])
    (body : I → Out (Fin n × S) O Empty O) (len : ∀ i G mc vs, pre i G mc vs → vs.length = ps.length)
    (h : ∀ (cdv : Value) (A : Around) (outer : List Env) (s : Shared) (H : Hp) (E : XK) (i : I) (G : Hp) (mc cs : Cells) (vs : List V), Room k (A.deeper (envOfC q (defScope st) s.heap.objs.size f cdv)) → pre i G mc vs →
      B (cxOf (L2.CX P w) P w K mg base N q (defScope st) f cdv A outer s H E) (fun e _ H => E (.ref (adr e.1)) none H) (defBody st) (start N vs) G (mc ++ cs) (PoM cs (post i vs) (fun e => perr i vs e.2)) (body i)) :
    FnOk P w K mg base (L2.CX P w) (k + 1) f fd ps (SpME adr pre post perr fun i => (body i).resM) := by
  refine F.okX Sc (fun vs H Q E hs => ?_) (fun cdv A outer s H vs Q E hr hs => ?_)
  · obtain ⟨i, G, mc, cs, _, hp, _⟩ := hs
    exact len i G mc vs hp
  · obtain ⟨i, G, mc, cs, d, hp, q0⟩ := hs
    refine ⟨_, sSs _ (defBody st), h cdv A outer s H E i G mc cs vs hr hp H d _ ?_⟩
    dsimp only at q0
    cases hb : body i with
    | nx u =>
      rw [hb] at q0
      rintro σ2 G2 cs2 H2 s2 d2 ⟨loc, mc2, pm, hr2⟩
      exact q0 _ G2 mc2 H2 s2 (d2.perm pm).drop hr2
    | bk l => exact l.elim
    | ct l => exact l.elim
    | rt o =>
      rw [hb] at q0
      rintro v G2 cs2 H2 s2 d2 ⟨loc, mc2, pm, hr2⟩
      exact q0 _ G2 mc2 H2 s2 (d2.perm pm).drop hr2
    | er e =>
      rw [hb] at q0
      rintro σ2 G2 cs2 H2 s2 d2 ⟨loc, mc2, pm, hr2⟩
      exact q0 G2 mc2 H2 s2 (d2.perm pm).drop hr2
end
section
variable {n : Nat} {adr : Fin n → Addr} {X : Cx} {Wx : WX} {σ : L2.St} {G : Hp} {cs : Cells} {o e : Expr} {es : List Expr} {pos p apos : Pos} {k : V → Hp → Cells → Prop}
/-- o.m(..), a method that may change what it is given -/
theorem ec_methM {I O : Type} {pre : I → Hp → Cells → List V → Prop} {post : I → List V → O → Hp → Cells → V → Prop} {mm : I → O} {j l na : Nat} {m : Str} {C a dx : Addr} {fs : List (Str × V)} {pl : Sem Bool} (F : Mt0 X.prog X.w X.K X.mg X.base CX0 j C m na (SpM pre post mm)) (ck : Cls X.K C) (hr : Room l X.A) (hk : j ≤ l)
    (ho : D X o σ G cs (rV (.ref a))) (hc : (a, HO.ins C dx fs) ∈ cs) (hl : fs.lookup m = none)
    (ha : AC X (e :: es) σ G cs fun vs G1 cs1 => ∃ i mc rest, cs1.Perm (mc ++ rest) ∧ pre i G1 mc (.ref a :: vs) ∧ ∀ v G2 mc2, Same G1 G2 → post i (.ref a :: vs) (mm i) G2 mc2 v → ∃ cs2, (mc2 ++ rest).Perm cs2 ∧ k v G2 cs2)
    (hst : starEach (e :: es) X.env = (false, eval e X.env) :: starEach es X.env := by exact star_plain rfl) (hpl : (backTo pos (starEach es X.env)).any (·.1) = false := by rfl)
    (ht : eval (.Call (.Attribute o m apos) (e :: es) [] pos) X.env = (do
      let ov ← eval o X.env
      standAt apos.atName
      let (f, first) ← holding [ov] (getMethod ov m pl)
      callWith pos f first (backTo pos (starEach (e :: es) X.env)) (backToKw pos (keywordEach [] X.env))) := by rfl) : EC X (.Call (.Attribute o m apos) (e :: es) [] pos) σ G cs k := by
  obtain ⟨f, fd, ps, F, hm, b, _⟩ := F.ex
  intro G1 H s d Q q
  refine uE (pe_meth (sE X o) ck hm F (hr.mono hk) b .nil pass0 (sA X _) (hst := hst) (hpl := hpl) (ht := ht)) (ho G1 H s d _ fun G2 H2 x s2 d2 hx => ⟨a, dx, fs, hx, d2.at_ hc, hl, ha G2 H2 (s.trans s2) d2 _ fun G3 H3 cs3 vs s3 d3 hvs => ?_⟩)
  obtain ⟨i, mc, rest, pm, hp, hq⟩ := hvs
  have ex : x = .ref a := hx
  subst ex
  refine ⟨i, G3, mc, rest, d3.perm pm, ?_, fun v G4 mc2 H4 s4 d4 hv => ?_⟩
  · rw [List.append_nil]
    exact hp
  · rw [List.append_nil] at hv
    obtain ⟨cs4, pm4, hk4⟩ := hq v G4 mc2 s4 hv
    exact q G4 H4 cs4 v ((s2.trans s3).trans s4) (d4.perm pm4) hk4
theorem ec_methM0 {I O : Type} {pre : I → Hp → Cells → List V → Prop} {post : I → List V → O → Hp → Cells → V → Prop} {mm : I → O} {j l na : Nat} {m : Str} {C a dx : Addr} {fs : List (Str × V)} {pl : Sem Bool} (F : Mt0 X.prog X.w X.K X.mg X.base CX0 j C m na (SpM pre post mm)) (ck : Cls X.K C) (hr : Room l X.A) (hk : j ≤ l)
    (ho : D X o σ G cs (rV (.ref a))) (hc : (a, HO.ins C dx fs) ∈ cs) (hl : fs.lookup m = none)
    (ha : ∀ G1, Same G G1 → ∃ i mc rest, cs.Perm (mc ++ rest) ∧ pre i G1 mc [.ref a] ∧ ∀ v G2 mc2, Same G1 G2 → post i [.ref a] (mm i) G2 mc2 v → ∃ cs2, (mc2 ++ rest).Perm cs2 ∧ k v G2 cs2)
    (ht : eval (.Call (.Attribute o m apos) [] [] pos) X.env = (do
      let ov ← eval o X.env
      standAt apos.atName
      let (f, first) ← holding [ov] (getMethod ov m pl)
      callWith pos f first (backTo pos (starEach [] X.env)) (backToKw pos (keywordEach [] X.env))) := by rfl) : EC X (.Call (.Attribute o m apos) [] [] pos) σ G cs k := by
  obtain ⟨f, fd, ps, F, hm, b, _⟩ := F.ex
  intro G1 H s d Q q
  refine uE (pe_meth0 (sE X o) ck hm F (hr.mono hk) b .nil pass0 (ht := ht)) (ho G1 H s d _ fun G2 H2 x s2 d2 hx => ⟨a, dx, fs, hx, d2.at_ hc, hl, ?_⟩)
  obtain ⟨i, mc, rest, pm, hp, hq⟩ := ha G2 (s.trans s2)
  have ex : x = .ref a := hx
  subst ex
  refine ⟨i, G2, mc, rest, d2.perm pm, hp, fun v G4 mc2 H4 s4 d4 hv => ?_⟩
  obtain ⟨cs4, pm4, hk4⟩ := hq v G4 mc2 s4 hv
  exact q G4 H4 cs4 v (s2.trans s4) (d4.perm pm4) hk4
/-- .. and may raise -/
theorem ex_methME {I O S : Type} {pre : I → Hp → Cells → List V → Prop} {post : I → List V → O → Hp → Cells → V → Prop} {perr : I → List V → S → Hp → Cells → Prop} {mm : I → Except (Fin n × S) O} {ke : Fin n → S → Hp → Cells → Prop} {kx : O → V → Hp → Cells → Prop} {j l na : Nat} {m : Str} {C a dx : Addr} {fs : List (Str × V)} {pl : Sem Bool}
    (i : I) (F : Mt0 X.prog X.w X.K X.mg X.base (L2.CX X.prog X.w) j C m na (SpME adr pre post perr mm)) (ck : Cls X.K C) (tk : Takes X Wx) (hr : Room l X.A) (hk : j ≤ l)
    (ho : D X o σ G cs (rV (.ref a))) (hc : (a, HO.ins C dx fs) ∈ cs) (hl : fs.lookup m = none)
    (ha : AC X (e :: es) σ G cs fun vs G1 cs1 => ∃ mc rest, cs1.Perm (mc ++ rest) ∧ pre i G1 mc (.ref a :: vs) ∧ (∀ o v G2 mc2, mm i = .ok o → Same G1 G2 → post i (.ref a :: vs) o G2 mc2 v → ∃ cs2, (mc2 ++ rest).Perm cs2 ∧ kx o v G2 cs2) ∧ (∀ c t G2 mc2, mm i = .error (c, t) → Same G1 G2 → perr i (.ref a :: vs) t G2 mc2 → ∃ cs2, (mc2 ++ rest).Perm cs2 ∧ ke c t G2 cs2))
    (hst : starEach (e :: es) X.env = (false, eval e X.env) :: starEach es X.env := by exact star_plain rfl) (hpl : (backTo pos (starEach es X.env)).any (·.1) = false := by rfl)
    (ht : eval (.Call (.Attribute o m apos) (e :: es) [] pos) X.env = (do
      let ov ← eval o X.env
      standAt apos.atName
      let (f, first) ← holding [ov] (getMethod ov m pl)
      callWith pos f first (backTo pos (starEach (e :: es) X.env)) (backToKw pos (keywordEach [] X.env))) := by rfl) : EX X adr Wx (.Call (.Attribute o m apos) (e :: es) [] pos) σ G cs (mm i) kx ke := by
  obtain ⟨f, fd, ps, F, hm, b, _⟩ := F.ex
  intro G1 H s d Q q
  refine uE (pe_methX (sE X o) ck hm F (hr.mono hk) b (fun σ => passAt tk σ) (sA X _) (hst := hst) (hpl := hpl) (ht := ht)) (ho G1 H s d _ fun G2 H2 x s2 d2 hx => ⟨a, dx, fs, hx, d2.at_ hc, hl, ha G2 H2 (s.trans s2) d2 _ fun G3 H3 cs3 vs s3 d3 hvs => ?_⟩)
  obtain ⟨mc, rest, pm, hp, hq, he⟩ := hvs
  have ex : x = .ref a := hx
  subst ex
  refine ⟨i, G3, mc, rest, d3.perm pm, hp, ?_⟩
  cases hm : mm i with
  | ok o =>
    rw [hm] at q
    intro v G4 mc2 H4 s4 d4 hv
    obtain ⟨cs4, pm4, hk4⟩ := hq o v G4 mc2 hm s4 hv
    exact q G4 H4 cs4 v ((s2.trans s3).trans s4) (d4.perm pm4) hk4
  | error ct =>
    obtain ⟨c, t⟩ := ct
    rw [hm] at q
    intro G4 mc2 H4 s4 d4 hv
    obtain ⟨cs4, pm4, hk4⟩ := he c t G4 mc2 hm s4 hv
    exact q G4 H4 cs4 ((s2.trans s3).trans s4) (d4.perm pm4) hk4
theorem ex_methME0 {I O S : Type} {pre : I → Hp → Cells → List V → Prop} {post : I → List V → O → Hp → Cells → V → Prop} {perr : I → List V → S → Hp → Cells → Prop} {mm : I → Except (Fin n × S) O} {ke : Fin n → S → Hp → Cells → Prop} {kx : O → V → Hp → Cells → Prop} {j l na : Nat} {m : Str} {C a dx : Addr} {fs : List (Str × V)} {pl : Sem Bool}
    (i : I) (F : Mt0 X.prog X.w X.K X.mg X.base (L2.CX X.prog X.w) j C m na (SpME adr pre post perr mm)) (ck : Cls X.K C) (tk : Takes X Wx) (hr : Room l X.A) (hk : j ≤ l)
    (ho : D X o σ G cs (rV (.ref a))) (hc : (a, HO.ins C dx fs) ∈ cs) (hl : fs.lookup m = none)
    (ha : ∀ G1, Same G G1 → ∃ mc rest, cs.Perm (mc ++ rest) ∧ pre i G1 mc [.ref a] ∧ (∀ o v G2 mc2, mm i = .ok o → Same G1 G2 → post i [.ref a] o G2 mc2 v → ∃ cs2, (mc2 ++ rest).Perm cs2 ∧ kx o v G2 cs2) ∧ (∀ c t G2 mc2, mm i = .error (c, t) → Same G1 G2 → perr i [.ref a] t G2 mc2 → ∃ cs2, (mc2 ++ rest).Perm cs2 ∧ ke c t G2 cs2))
    (ht : eval (.Call (.Attribute o m apos) [] [] pos) X.env = (do
      let ov ← eval o X.env
      standAt apos.atName
      let (f, first) ← holding [ov] (getMethod ov m pl)
      callWith pos f first (backTo pos (starEach [] X.env)) (backToKw pos (keywordEach [] X.env))) := by rfl) : EX X adr Wx (.Call (.Attribute o m apos) [] [] pos) σ G cs (mm i) kx ke := by
  obtain ⟨f, fd, ps, F, hm, b, _⟩ := F.ex
  intro G1 H s d Q q
  refine uE (pe_methX0 (sE X o) ck hm F (hr.mono hk) b (fun σ => passAt tk σ) (ht := ht)) (ho G1 H s d _ fun G2 H2 x s2 d2 hx => ⟨a, dx, fs, hx, d2.at_ hc, hl, ?_⟩)
  obtain ⟨mc, rest, pm, hp, hq, he⟩ := ha G2 (s.trans s2)
  have ex : x = .ref a := hx
  subst ex
  refine ⟨i, G2, mc, rest, d2.perm pm, hp, ?_⟩
  cases hm : mm i with
  | ok o =>
    rw [hm] at q
    intro v G4 mc2 H4 s4 d4 hv
    obtain ⟨cs4, pm4, hk4⟩ := hq o v G4 mc2 hm s4 hv
    exact q G4 H4 cs4 v (s2.trans s4) (d4.perm pm4) hk4
  | error ct =>
    obtain ⟨c, t⟩ := ct
    rw [hm] at q
    intro G4 mc2 H4 s4 d4 hv
    obtain ⟨cs4, pm4, hk4⟩ := he c t G4 mc2 hm s4 hv
    exact q G4 H4 cs4 (s2.trans s4) (d4.perm pm4) hk4
/-- f(..), a def that changes what it is given and may raise -/
theorem ex_callME {I O S : Type} {pre : I → Hp → Cells → List V → Prop} {post : I → List V → O → Hp → Cells → V → Prop} {perr : I → List V → S → Hp → Cells → Prop} {mm : I → Except (Fin n × S) O} {ke : Fin n → S → Hp → Cells → Prop} {kx : O → V → Hp → Cells → Prop} {j l na : Nat} {x : Str}
    (i : I) (F : Fn0 X.prog X.w X.K X.mg X.base (L2.CX X.prog X.w) j x na (SpME adr pre post perr mm)) (tk : Takes X Wx) (hr : Room l X.A) (hk : j ≤ l)
    (ha : AC X (e :: es) σ G cs fun vs G1 cs1 => ∃ mc rest, cs1.Perm (mc ++ rest) ∧ pre i G1 mc vs ∧ (∀ o v G2 mc2, mm i = .ok o → Same G1 G2 → post i vs o G2 mc2 v → ∃ cs2, (mc2 ++ rest).Perm cs2 ∧ kx o v G2 cs2) ∧ (∀ c t G2 mc2, mm i = .error (c, t) → Same G1 G2 → perr i vs t G2 mc2 → ∃ cs2, (mc2 ++ rest).Perm cs2 ∧ ke c t G2 cs2)) (hg : Gl X x := by rfl) (hd : (x == ("__debug__" : Str)) = false := by decide)
    (he : starEach (e :: es) X.env = (false, eval e X.env) :: starEach es X.env := by exact star_plain rfl) (hpl : (backTo pos (starEach es X.env)).any (·.1) = false := by rfl) : EX X adr Wx (.Call (.Name x p) (e :: es) [] pos) σ G cs (mm i) kx ke := by
  obtain ⟨f, fd, ps, F, hm, kp, b, _⟩ := F.ex
  intro G1 H s d Q q
  refine uE (pe_callS F (hr.mono hk) hg hm kp b (fun σ => passAt tk σ) (sA X _) (hdb := hd) (he := he) (hpl := hpl)) (ha G1 H s d _ fun G3 H3 cs3 vs s3 d3 hvs => ?_)
  obtain ⟨mc, rest, pm, hp, hq, he⟩ := hvs
  refine ⟨i, G3, mc, rest, d3.perm pm, hp, ?_⟩
  cases hm : mm i with
  | ok o =>
    rw [hm] at q
    intro v G4 mc2 H4 s4 d4 hv
    obtain ⟨cs4, pm4, hk4⟩ := hq o v G4 mc2 hm s4 hv
    exact q G4 H4 cs4 v (s3.trans s4) (d4.perm pm4) hk4
  | error ct =>
    obtain ⟨c, t⟩ := ct
    rw [hm] at q
    intro G4 mc2 H4 s4 d4 hv
    obtain ⟨cs4, pm4, hk4⟩ := he c t G4 mc2 hm s4 hv
    exact q G4 H4 cs4 (s3.trans s4) (d4.perm pm4) hk4
/-- .. and may raise -/
theorem ec_methS {I O S : Type} {pre : I → Hp → Cells → List V → Prop} {post : I → List V → O → Hp → Cells → V → Prop} {perr : I → List V → S → Hp → Cells → Prop} {mm : I → Except (Fin n × S) O} {k : V → Hp → Cells → Prop} {oo : O} {j l na : Nat} {m : Str} {C a dx : Addr} {fs : List (Str × V)} {pl : Sem Bool}
    (i : I) (F : Mt0 X.prog X.w X.K X.mg X.base (L2.CX X.prog X.w) j C m na (SpME adr pre post perr mm)) (ck : Cls X.K C) (hok : mm i = .ok oo) (hr : Room l X.A) (hk : j ≤ l)
    (ho : D X o σ G cs (rV (.ref a))) (hc : (a, HO.ins C dx fs) ∈ cs) (hl : fs.lookup m = none)
    (ha : AC X (e :: es) σ G cs fun vs G1 cs1 => ∃ mc rest, cs1.Perm (mc ++ rest) ∧ pre i G1 mc (.ref a :: vs) ∧ ∀ v G2 mc2, Same G1 G2 → post i (.ref a :: vs) oo G2 mc2 v → ∃ cs2, (mc2 ++ rest).Perm cs2 ∧ k v G2 cs2)
    (hst : starEach (e :: es) X.env = (false, eval e X.env) :: starEach es X.env := by exact star_plain rfl) (hpl : (backTo pos (starEach es X.env)).any (·.1) = false := by rfl)
    (ht : eval (.Call (.Attribute o m apos) (e :: es) [] pos) X.env = (do
      let ov ← eval o X.env
      standAt apos.atName
      let (f, first) ← holding [ov] (getMethod ov m pl)
      callWith pos f first (backTo pos (starEach (e :: es) X.env)) (backToKw pos (keywordEach [] X.env))) := by rfl) : EC X (.Call (.Attribute o m apos) (e :: es) [] pos) σ G cs k := by
  obtain ⟨f, fd, ps, F, hm, b, _⟩ := F.ex
  intro G1 H s d Q q
  refine uE (pe_methX (sE X o) ck hm F (hr.mono hk) b (E := fun _ _ _ _ => False) (fun σ pins H s u s' I c => by obtain ⟨_, _, _, _, _, _, _, _, _, _, _, _, z⟩ := c; exact z.elim) (sA X _) (hst := hst) (hpl := hpl) (ht := ht)) (ho G1 H s d _ fun G2 H2 x s2 d2 hx => ⟨a, dx, fs, hx, d2.at_ hc, hl, ha G2 H2 (s.trans s2) d2 _ fun G3 H3 cs3 vs s3 d3 hvs => ?_⟩)
  obtain ⟨mc, rest, pm, hp, hq⟩ := hvs
  have ex : x = .ref a := hx
  subst ex
  refine ⟨i, G3, mc, rest, d3.perm pm, hp, ?_⟩
  rw [hok]
  intro v G4 mc2 H4 s4 d4 hv
  obtain ⟨cs4, pm4, hk4⟩ := hq v G4 mc2 s4 hv
  exact q G4 H4 cs4 v ((s2.trans s3).trans s4) (d4.perm pm4) hk4
theorem ec_methS0 {I O S : Type} {pre : I → Hp → Cells → List V → Prop} {post : I → List V → O → Hp → Cells → V → Prop} {perr : I → List V → S → Hp → Cells → Prop} {mm : I → Except (Fin n × S) O} {k : V → Hp → Cells → Prop} {oo : O} {j l na : Nat} {m : Str} {C a dx : Addr} {fs : List (Str × V)} {pl : Sem Bool}
    (i : I) (F : Mt0 X.prog X.w X.K X.mg X.base (L2.CX X.prog X.w) j C m na (SpME adr pre post perr mm)) (ck : Cls X.K C) (hok : mm i = .ok oo) (hr : Room l X.A) (hk : j ≤ l)
    (ho : D X o σ G cs (rV (.ref a))) (hc : (a, HO.ins C dx fs) ∈ cs) (hl : fs.lookup m = none)
    (ha : ∀ G1, Same G G1 → ∃ mc rest, cs.Perm (mc ++ rest) ∧ pre i G1 mc [.ref a] ∧ ∀ v G2 mc2, Same G1 G2 → post i [.ref a] oo G2 mc2 v → ∃ cs2, (mc2 ++ rest).Perm cs2 ∧ k v G2 cs2)
    (ht : eval (.Call (.Attribute o m apos) [] [] pos) X.env = (do
      let ov ← eval o X.env
      standAt apos.atName
      let (f, first) ← holding [ov] (getMethod ov m pl)
      callWith pos f first (backTo pos (starEach [] X.env)) (backToKw pos (keywordEach [] X.env))) := by rfl) : EC X (.Call (.Attribute o m apos) [] [] pos) σ G cs k := by
  obtain ⟨f, fd, ps, F, hm, b, _⟩ := F.ex
  intro G1 H s d Q q
  refine uE (pe_methX0 (sE X o) ck hm F (hr.mono hk) b (E := fun _ _ _ _ => False) (fun σ pins H s u s' I c => by obtain ⟨_, _, _, _, _, _, _, _, _, _, _, _, z⟩ := c; exact z.elim) (ht := ht)) (ho G1 H s d _ fun G2 H2 x s2 d2 hx => ⟨a, dx, fs, hx, d2.at_ hc, hl, ?_⟩)
  obtain ⟨mc, rest, pm, hp, hq⟩ := ha G2 (s.trans s2)
  have ex : x = .ref a := hx
  subst ex
  refine ⟨i, G2, mc, rest, d2.perm pm, hp, ?_⟩
  rw [hok]
  intro v G4 mc2 H4 s4 d4 hv
  obtain ⟨cs4, pm4, hk4⟩ := hq v G4 mc2 s4 hv
  exact q G4 H4 cs4 v (s2.trans s4) (d4.perm pm4) hk4
/-- f(..), a def that changes what it is given and may raise -/
theorem ec_callS {I O S : Type} {pre : I → Hp → Cells → List V → Prop} {post : I → List V → O → Hp → Cells → V → Prop} {perr : I → List V → S → Hp → Cells → Prop} {mm : I → Except (Fin n × S) O} {k : V → Hp → Cells → Prop} {oo : O} {j l na : Nat} {x : Str}
    (i : I) (F : Fn0 X.prog X.w X.K X.mg X.base (L2.CX X.prog X.w) j x na (SpME adr pre post perr mm)) (hok : mm i = .ok oo) (hr : Room l X.A) (hk : j ≤ l)
    (ha : AC X (e :: es) σ G cs fun vs G1 cs1 => ∃ mc rest, cs1.Perm (mc ++ rest) ∧ pre i G1 mc vs ∧ ∀ v G2 mc2, Same G1 G2 → post i vs oo G2 mc2 v → ∃ cs2, (mc2 ++ rest).Perm cs2 ∧ k v G2 cs2) (hg : Gl X x := by rfl) (hd : (x == ("__debug__" : Str)) = false := by decide)
    (he : starEach (e :: es) X.env = (false, eval e X.env) :: starEach es X.env := by exact star_plain rfl) (hpl : (backTo pos (starEach es X.env)).any (·.1) = false := by rfl) : EC X (.Call (.Name x p) (e :: es) [] pos) σ G cs k := by
  obtain ⟨f, fd, ps, F, hm, kp, b, _⟩ := F.ex
  intro G1 H s d Q q
  refine uE (pe_callS F (hr.mono hk) hg hm kp b (E := fun _ _ _ _ => False) (fun σ pins H s u s' I c => by obtain ⟨_, _, _, _, _, _, _, _, _, _, _, _, z⟩ := c; exact z.elim) (sA X _) (hdb := hd) (he := he) (hpl := hpl)) (ha G1 H s d _ fun G3 H3 cs3 vs s3 d3 hvs => ?_)
  obtain ⟨mc, rest, pm, hp, hq⟩ := hvs
  refine ⟨i, G3, mc, rest, d3.perm pm, hp, ?_⟩
  rw [hok]
  intro v G4 mc2 H4 s4 d4 hv
  obtain ⟨cs4, pm4, hk4⟩ := hq v G4 mc2 s4 hv
  exact q G4 H4 cs4 v (s3.trans s4) (d4.perm pm4) hk4
/-- C(..) -/
theorem ec_make {I O : Type} {pre : I → Hp → Cells → List V → Prop} {post : I → List V → O → Hp → Cells → V → Prop} {mm : I → O} {j l na : Nat} {x : Str} {C : Addr} (F : In0 X.prog X.w X.K X.mg X.base CX0 j C na (SpM pre post mm)) (hm : X.mg x = some (.ref C)) (hr : Room l X.A) (hk : j + 1 ≤ l)
    (ha : AC X (e :: es) σ G cs fun vs G1 cs1 => ∀ a dx, ∃ i mc rest, ((a, HO.ins C dx []) :: (dx, HO.own a) :: cs1).Perm (mc ++ rest) ∧ pre i G1 mc (.ref a :: vs) ∧ ∀ v G2 mc2, Same G1 G2 → post i (.ref a :: vs) (mm i) G2 mc2 v → v = .non ∧ ∃ cs2, (mc2 ++ rest).Perm cs2 ∧ k (.ref a) G2 cs2) (hg : Gl X x := by rfl) (hd : (x == ("__debug__" : Str)) = false := by decide)
    (he : starEach (e :: es) X.env = (false, eval e X.env) :: starEach es X.env := by exact star_plain rfl) (hpl : (backTo pos (starEach es X.env)).any (·.1) = false := by rfl) : EC X (.Call (.Name x p) (e :: es) [] pos) σ G cs k := by
  obtain ⟨f, fd, ps, F, M, b, _⟩ := F.ex
  intro G1 H s d Q q
  refine uE (pe_make M F (hr.mono hk) hg hm b .nil pass0 (sA X _) (hdb := hd) (he := he) (hpl := hpl)) (ha G1 H s d _ fun G3 H3 cs3 vs s3 d3 hvs => ?_)
  intro a dx ha0 hdx hne
  obtain ⟨i, mc, rest, pm, hp, hq⟩ := hvs a dx
  have d4 := d3.newCell hdx (.own a)
  have ha1 : (upd H3 dx (.own a)) a = none := by rw [upd_ne hne.symm]; exact ha0
  have d5 := d4.newCell ha1 (.ins C dx [])
  refine ⟨i, G3, mc, rest, d5.perm pm, ?_, fun v G4 mc2 H4 s4 d6 hv => ?_⟩
  · rw [List.append_nil]
    exact hp
  · rw [List.append_nil] at hv
    obtain ⟨ev, cs4, pm4, hk4⟩ := hq v G4 mc2 s4 hv
    exact ⟨ev, q G4 H4 cs4 (.ref a) (s3.trans s4) (d6.perm pm4) hk4⟩
end
section
variable {n : Nat} {nm : Fin n → Str} {adr : Fin n → Addr} {B0 : Addr} {S L R T : Type} {X : Cx} {σ : L2.St} {G : Hp} {cs : Cells} {rest body : List Stmt} {pos q : Pos}
variable {ε S' : Type} {Φ : Po ε S L R} {W : ε → L2.St → Hp → Prop} {suite : List Stmt} {b₀ : Stmt} {np : Pos}
/-- try: .. except BankError as x: .. -/
theorem b_tryAsM {mb : Out (Fin n × T) S' L R} {mh : Fin n × T → Out ε S' L R} {g : S' → Out ε S L R} {x : Str} (i : Nat) (Mid : S' → L2.St → Hp → Cells → Prop) (Mx : Fin n × T → L2.St → Hp → Cells → Prop) (Er : Errs X.K X.mg nm adr B0) (hN : X.N.Nodup)
    (hb : ∀ (Wx : WX) (pn : List (Addr × Obj)) (xe : Value → Shared → Prop), Takes (X.tr pn xe) Wx → PassesOwn (model X.prog X.w) X.A X.env xe → B (X.tr pn xe) (wE3 adr Wx) body σ G cs { nx := Mid, lp := Φ.lp, rt := Φ.rt, er := Mx } mb)
    (hh : ∀ k, mb = .er k → ∀ (a : Addr) (oe : Obj) (pn : List (Addr × Obj)) (σ1 : L2.St) (G1 : Hp) (cs1 : Cells), Same G G1 → Mx k σ1 G1 cs1 → Zc (.ref (adr k.1)) none oe → (∃ vs, oe.data = .fields vs) →
      B (X.suite a ((a, oe) :: pn)) W (b₀ :: suite) (σ1.set i (some (.ref a))) G1 cs1 { nx := fun s σ2 => Mid s (σ2.set i none), lp := fun l σ2 => Φ.lp l (σ2.set i none), rt := Φ.rt, er := fun _ _ _ _ => False } (mh k))
    (hr : ∀ s σ2 G2 cs2, Same G G2 → Mid s σ2 G2 cs2 → tryO mb mh = .nx s → B X W rest σ2 G2 cs2 Φ (g s))
    (hs : X.stack = X.env :: X.outer := by rfl) (hf : X.env.frame = some X.env.locals := by rfl) (hi : X.N[i]? = some x := by rfl) (hln : X.env.kindOf x = some .local := by rfl) (hg : Gl X "BankError" := by rfl) :
    B X W (.Try body [.ExceptHandler (some (.Name "BankError" np)) (some x) (b₀ :: suite) q] [] [] pos :: rest) σ G cs Φ ((tryO mb mh).bind g) := by
  refine b_cons (ps_try_as (i := i) (tb := fun Wx D σ H => ∀ pn xe, Takes (X.tr pn xe) Wx → PassesOwn (model X.prog X.w) X.A X.env xe → wSs (X.tr pn xe) body D σ H) (ts := fun a cls d D σ H => ∀ oe pn, Zc cls d oe → (∃ vs, oe.data = .fields vs) → wSs (X.suite a ((a, oe) :: pn)) (b₀ :: suite) D σ H) (Wout := fun _ _ _ _ => False)
    hs hf hN hi hln ⟨hg, by decide, .inl Er.mB⟩ takes0 (fun Wx pn xe tk po => ⟨fun pins s _ _ _ I h => (h pn xe tk po).run pins s I⟩) (fun a oe cls d pn hz hfd => ⟨fun pins s _ _ _ I h => (h oe pn hz hfd).run pins s I⟩)) fun H d E w => ?_
  intro pn xe tk po
  have h1 := hb _ pn xe tk po
  refine h1 H d _ ?_
  cases hm : mb with
  | nx s =>
    rw [hm] at w hr
    exact fun σ2 G2 cs2 H2 s2 d2 p => hr s σ2 G2 cs2 s2 p rfl H2 d2 E (Wish.up (G := G) (show Wish W G Φ E (g s) from w) s2)
  | bk l =>
    rw [hm] at w
    exact fun σ2 G2 cs2 H2 s2 d2 p => w σ2 G2 cs2 H2 s2 d2 p
  | ct l =>
    rw [hm] at w
    exact fun σ2 G2 cs2 H2 s2 d2 p => w σ2 G2 cs2 H2 s2 d2 p
  | rt r =>
    rw [hm] at w
    exact fun v G2 cs2 H2 s2 d2 p => w v G2 cs2 H2 s2 d2 p
  | er k =>
    rw [hm] at w hr
    intro σ2 G2 cs2 H2 s2 d2 p
    refine ⟨true, (Er.one k.1).ca, fun _ a ha oe pn2 hz hfd => ?_, fun z => nomatch z⟩
    refine hh k hm a oe pn2 σ2 G2 cs2 s2 p hz hfd H2 d2 _ ?_
    have w2 : Wish W G Φ E ((mh k).bind g) := w
    have hr2 : ∀ s σ2 G2 cs2, Same G G2 → Mid s σ2 G2 cs2 → mh k = .nx s → B X W rest σ2 G2 cs2 Φ (g s) := hr
    cases hk : mh k with
    | nx s =>
      rw [hk] at w2
      exact fun σ3 G3 cs3 H3 s3 d3 p3 => hr2 s _ G3 cs3 (s2.trans s3) p3 hk H3 d3 E (Wish.up (G := G) (show Wish W G Φ E (g s) from w2) (s2.trans s3))
    | bk l =>
      rw [hk] at w2
      exact fun σ3 G3 cs3 H3 s3 d3 p3 => w2 _ G3 cs3 H3 (s2.trans s3) d3 p3
    | ct l =>
      rw [hk] at w2
      exact fun σ3 G3 cs3 H3 s3 d3 p3 => w2 _ G3 cs3 H3 (s2.trans s3) d3 p3
    | rt r =>
      rw [hk] at w2
      exact fun v G3 cs3 H3 s3 d3 p3 => w2 v G3 cs3 H3 (s2.trans s3) d3 p3
    | er e => exact fun _ _ _ _ _ _ z => z.elim
/-- try: .. except BankError: .. -/
theorem b_tryOnlyM {mb : Out (Fin n × T) S' L R} {mh : Fin n × T → Out ε S' L R} {g : S' → Out ε S L R} (Mid : S' → L2.St → Hp → Cells → Prop) (Mx : Fin n × T → L2.St → Hp → Cells → Prop) (Er : Errs X.K X.mg nm adr B0)
    (hb : ∀ (Wx : WX) (pn : List (Addr × Obj)) (xe : Value → Shared → Prop), Takes (X.tr pn xe) Wx → PassesOwn (model X.prog X.w) X.A X.env xe → B (X.tr pn xe) (wE3 adr Wx) body σ G cs { nx := Mid, lp := Φ.lp, rt := Φ.rt, er := Mx } mb)
    (hh : ∀ k, mb = .er k → ∀ (a : Addr) (oe : Obj) (pn : List (Addr × Obj)) (σ1 : L2.St) (G1 : Hp) (cs1 : Cells), Same G G1 → Mx k σ1 G1 cs1 → Zc (.ref (adr k.1)) none oe → (∃ vs, oe.data = .fields vs) →
      B (X.suite a ((a, oe) :: pn)) W (b₀ :: suite) σ1 G1 cs1 { nx := Mid, lp := Φ.lp, rt := Φ.rt, er := fun _ _ _ _ => False } (mh k))
    (hr : ∀ s σ2 G2 cs2, Same G G2 → Mid s σ2 G2 cs2 → tryO mb mh = .nx s → B X W rest σ2 G2 cs2 Φ (g s))
    (hs : X.stack = X.env :: X.outer := by rfl) (hf : X.env.frame = some X.env.locals := by rfl) (hg : Gl X "BankError" := by rfl) :
    B X W (.Try body [.ExceptHandler (some (.Name "BankError" np)) none (b₀ :: suite) q] [] [] pos :: rest) σ G cs Φ ((tryO mb mh).bind g) := by
  refine b_cons (ps_try_only (tb := fun Wx D σ H => ∀ pn xe, Takes (X.tr pn xe) Wx → PassesOwn (model X.prog X.w) X.A X.env xe → wSs (X.tr pn xe) body D σ H) (ts := fun a cls d D σ H => ∀ oe pn, Zc cls d oe → (∃ vs, oe.data = .fields vs) → wSs (X.suite a ((a, oe) :: pn)) (b₀ :: suite) D σ H) (Wout := fun _ _ _ _ => False)
    hs hf ⟨hg, by decide, .inl Er.mB⟩ takes0 (fun Wx pn xe tk po => ⟨fun pins s _ _ _ I h => (h pn xe tk po).run pins s I⟩) (fun a oe cls d pn hz hfd => ⟨fun pins s _ _ _ I h => (h oe pn hz hfd).run pins s I⟩)) fun H d E w => ?_
  intro pn xe tk po
  have h1 := hb _ pn xe tk po
  refine h1 H d _ ?_
  cases hm : mb with
  | nx s =>
    rw [hm] at w hr
    exact fun σ2 G2 cs2 H2 s2 d2 p => hr s σ2 G2 cs2 s2 p rfl H2 d2 E (Wish.up (G := G) (show Wish W G Φ E (g s) from w) s2)
  | bk l =>
    rw [hm] at w
    exact fun σ2 G2 cs2 H2 s2 d2 p => w σ2 G2 cs2 H2 s2 d2 p
  | ct l =>
    rw [hm] at w
    exact fun σ2 G2 cs2 H2 s2 d2 p => w σ2 G2 cs2 H2 s2 d2 p
  | rt r =>
    rw [hm] at w
    exact fun v G2 cs2 H2 s2 d2 p => w v G2 cs2 H2 s2 d2 p
  | er k =>
    rw [hm] at w hr
    intro σ2 G2 cs2 H2 s2 d2 p
    refine ⟨true, (Er.one k.1).ca, fun _ a ha oe pn2 hz hfd => ?_, fun z => nomatch z⟩
    refine hh k hm a oe pn2 σ2 G2 cs2 s2 p hz hfd H2 d2 _ ?_
    have w2 : Wish W G Φ E ((mh k).bind g) := w
    have hr2 : ∀ s σ2 G2 cs2, Same G G2 → Mid s σ2 G2 cs2 → mh k = .nx s → B X W rest σ2 G2 cs2 Φ (g s) := hr
    cases hk : mh k with
    | nx s =>
      rw [hk] at w2
      exact fun σ3 G3 cs3 H3 s3 d3 p3 => hr2 s _ G3 cs3 (s2.trans s3) p3 hk H3 d3 E (Wish.up (G := G) (show Wish W G Φ E (g s) from w2) (s2.trans s3))
    | bk l =>
      rw [hk] at w2
      exact fun σ3 G3 cs3 H3 s3 d3 p3 => w2 _ G3 cs3 H3 (s2.trans s3) d3 p3
    | ct l =>
      rw [hk] at w2
      exact fun σ3 G3 cs3 H3 s3 d3 p3 => w2 _ G3 cs3 H3 (s2.trans s3) d3 p3
    | rt r =>
      rw [hk] at w2
      exact fun v G3 cs3 H3 s3 d3 p3 => w2 v G3 cs3 H3 (s2.trans s3) d3 p3
    | er e => exact fun _ _ _ _ _ _ z => z.elim
end
end J

/-! defs and methods that read the cells they are given and change none: their calls are plain expressions -/
namespace J
open PySem PySem.Spec L2 PyProof.Rows
def SpR {I O : Type} (pre : I → Hp → Cells → List V → Prop) (r : I → O → Hp → V → Prop) (m : I → O) : Sp := fun vs H Q _ => ∃ (i : I) (G : Hp) (mc cs : Cells), Desc G (mc ++ cs) H ∧ pre i G mc vs ∧ ∀ v G2 H2, Same G G2 → Desc G2 (mc ++ cs) H2 → r i (m i) G2 v → Q v H2
def SpRE {n : Nat} {I O : Type} (adr : Fin n → Addr) (pre : I → Hp → Cells → List V → Prop) (r : I → O → Hp → V → Prop) (m : I → Except (Fin n) O) : Sp := fun vs H Q E => ∃ (i : I) (G : Hp) (mc cs : Cells), Desc G (mc ++ cs) H ∧ pre i G mc vs ∧
  (match m i with
    | .ok o => ∀ v G2 H2, Same G G2 → Desc G2 (mc ++ cs) H2 → r i o G2 v → Q v H2
    | .error k => ∀ G2 H2, Same G G2 → Desc G2 (mc ++ cs) H2 → E (.ref (adr k)) none H2)
section
variable {P : Program} {w : World} {K : PySem.W.Frag} {mg : Str → Option Value} {base : Heap}
theorem fn_okR {I O : Type} [Inhabited O] {x q : Str} {st : Stmt} {f : Addr} {fd : FuncData} {N ps : List Str} {k : Nat} {pre : I → Hp → Cells → List V → Prop} {r : I → O → Hp → V → Prop} (F : Fun K x q st f fd) (S : FnScope N ps (defScope st))
    (body : I → Out Empty Unit Empty O) (len : ∀ i G mc vs, pre i G mc vs → vs.length = ps.length)
    (h : ∀ (cdv : Value) (A : Around) (outer : List Env) (s : Shared) (H : Hp) (E : XK) (i : I) (G : Hp) (mc cs : Cells) (vs : List V), Room k (A.deeper (envOfC q (defScope st) s.heap.objs.size f cdv)) → pre i G mc vs →
      B (cxOf CX0 P w K mg base N q (defScope st) f cdv A outer s H E).nox (fun e _ _ => e.elim) (defBody st) (start N vs) G (mc ++ cs) (PoF (mc ++ cs) (r i)) (body i)) :
    FnOk P w K mg base CX0 (k + 1) f fd ps (SpR pre r fun i => (body i).val) := by
  refine F.ok S (fun vs H Q E hs => ?_) (fun cdv A outer s H vs Q E hr hs => ?_)
  · obtain ⟨i, G, mc, cs, _, hp, _⟩ := hs
    exact len i G mc vs hp
  · obtain ⟨i, G, mc, cs, d, hp, q0⟩ := hs
    refine ⟨_, sSs _ (defBody st), h cdv A outer s H E i G mc cs vs hr hp H d _ ?_⟩
    cases hb : body i with
    | nx u =>
      rintro σ2 G2 cs2 H2 s2 d2 ⟨⟨loc, rfl⟩, hr2⟩
      refine q0 _ G2 H2 s2 d2.drop ?_
      dsimp only
      rw [hb]
      exact hr2
    | bk l => exact l.elim
    | ct l => exact l.elim
    | rt o =>
      rintro v G2 cs2 H2 s2 d2 ⟨⟨loc, rfl⟩, hr2⟩
      refine q0 _ G2 H2 s2 d2.drop ?_
      dsimp only
      rw [hb]
      exact hr2
    | er e => exact e.elim
theorem fn_okRE {n : Nat} {I O : Type} [Inhabited O] {adr : Fin n → Addr} {x q : Str} {st : Stmt} {f : Addr} {fd : FuncData} {N ps : List Str} {k : Nat} {pre : I → Hp → Cells → List V → Prop} {r : I → O → Hp → V → Prop} (F : Fun K x q st f fd) (S : FnScope N ps (defScope st))
    (body : I → Out (Fin n) Unit Empty O) (len : ∀ i G mc vs, pre i G mc vs → vs.length = ps.length)
    (h : ∀ (cdv : Value) (A : Around) (outer : List Env) (s : Shared) (H : Hp) (E : XK) (i : I) (G : Hp) (mc cs : Cells) (vs : List V), Room k (A.deeper (envOfC q (defScope st) s.heap.objs.size f cdv)) → pre i G mc vs →
      B (cxOf (L2.CX P w) P w K mg base N q (defScope st) f cdv A outer s H E) (fun e _ H => E (cE adr e) none H) (defBody st) (start N vs) G (mc ++ cs) (PoF (mc ++ cs) (r i)) (body i)) :
    FnOk P w K mg base (L2.CX P w) (k + 1) f fd ps (SpRE adr pre r fun i => (body i).res) := by
  refine F.okX S (fun vs H Q E hs => ?_) (fun cdv A outer s H vs Q E hr hs => ?_)
  · obtain ⟨i, G, mc, cs, _, hp, _⟩ := hs
    exact len i G mc vs hp
  · obtain ⟨i, G, mc, cs, d, hp, q⟩ := hs
    refine ⟨_, sSs _ (defBody st), h cdv A outer s H E i G mc cs vs hr hp H d _ ?_⟩
    cases hb : body i with
    | nx u =>
      dsimp only at q
      rw [hb] at q
      rintro σ2 G2 cs2 H2 s2 d2 ⟨⟨loc, rfl⟩, hr2⟩
      exact q _ G2 H2 s2 d2.drop hr2
    | bk l => exact l.elim
    | ct l => exact l.elim
    | rt o =>
      dsimp only at q
      rw [hb] at q
      rintro v G2 cs2 H2 s2 d2 ⟨⟨loc, rfl⟩, hr2⟩
      exact q _ G2 H2 s2 d2.drop hr2
    | er e =>
      dsimp only at q
      rw [hb] at q
      rintro σ2 G2 cs2 H2 s2 d2 ⟨loc, rfl⟩
      exact q G2 H2 s2 d2.drop
end
section
variable {X : Cx} {σ : L2.St} {G : Hp} {cs : Cells} {o e : Expr} {es : List Expr} {pos p apos : Pos} {P : Hp → V → Prop}
theorem d_callR {I O : Type} {pre : I → Hp → Cells → List V → Prop} {r : I → O → Hp → V → Prop} {m : I → O} {k j n : Nat} {x : Str} {Ps : Hp → List V → Prop} (i : I) (F : Fn0 X.prog X.w X.K X.mg X.base CX0 k x n (SpR pre r m)) (hr : Room j X.A) (hk : k ≤ j)
    (ha : A X (e :: es) σ G cs Ps) (hp : ∀ G1 vs, Same G G1 → Ps G1 vs → ∃ mc rest, cs.Perm (mc ++ rest) ∧ pre i G1 mc vs) (hP : ∀ G v, r i (m i) G v → P G v) (hg : Gl X x := by rfl) (hd : (x == ("__debug__" : Str)) = false := by decide)
    (he : starEach (e :: es) X.env = (false, eval e X.env) :: starEach es X.env := by exact star_plain rfl) (hpl : (backTo pos (starEach es X.env)).any (·.1) = false := by rfl) : D X (.Call (.Name x p) (e :: es) [] pos) σ G cs P := by
  obtain ⟨f, fd, ps, F, hm, kp, b, _⟩ := F.ex
  intro G1 H s d Q q
  refine uE (pe_call F (hr.mono hk) hg hm kp b .nil pass0 (sA X _) (hdb := hd) (he := he) (hpl := hpl)) (ha G1 H s d _ fun G2 H2 vs s2 d2 hvs => ?_)
  obtain ⟨mc, rest, pm, hq⟩ := hp G2 vs (s.trans s2) hvs
  refine ⟨i, G2, mc, rest, d2.perm pm, ?_, fun v G3 H3 s3 d3 hv => q G3 H3 v (s2.trans s3) (d3.perm pm.symm) (hP _ _ ?_)⟩
  · rw [List.append_nil]
    exact hq
  · exact hv
theorem d_methR {I O : Type} {pre : I → Hp → Cells → List V → Prop} {r : I → O → Hp → V → Prop} {mm : I → O} {j l na : Nat} {m : Str} {C a dx : Addr} {fs : List (Str × V)} {pl : Sem Bool} {Ps : Hp → List V → Prop} (i : I) (F : Mt0 X.prog X.w X.K X.mg X.base CX0 j C m na (SpR pre r mm)) (ck : Cls X.K C) (hr : Room l X.A) (hk : j ≤ l)
    (ho : D X o σ G cs (rV (.ref a))) (hc : (a, HO.ins C dx fs) ∈ cs) (hl : fs.lookup m = none)
    (ha : A X (e :: es) σ G cs Ps) (hp : ∀ G1 vs, Same G G1 → Ps G1 vs → ∃ mc rest, cs.Perm (mc ++ rest) ∧ pre i G1 mc (.ref a :: vs)) (hP : ∀ G v, r i (mm i) G v → P G v)
    (hst : starEach (e :: es) X.env = (false, eval e X.env) :: starEach es X.env := by exact star_plain rfl) (hpl : (backTo pos (starEach es X.env)).any (·.1) = false := by rfl)
    (ht : eval (.Call (.Attribute o m apos) (e :: es) [] pos) X.env = (do
      let ov ← eval o X.env
      standAt apos.atName
      let (f, first) ← holding [ov] (getMethod ov m pl)
      callWith pos f first (backTo pos (starEach (e :: es) X.env)) (backToKw pos (keywordEach [] X.env))) := by rfl) : D X (.Call (.Attribute o m apos) (e :: es) [] pos) σ G cs P := by
  obtain ⟨f, fd, ps, F, hm, b, _⟩ := F.ex
  intro G1 H s d Q q
  refine uE (pe_meth (sE X o) ck hm F (hr.mono hk) b .nil pass0 (sA X _) (hst := hst) (hpl := hpl) (ht := ht)) (ho G1 H s d _ fun G2 H2 x s2 d2 hx => ⟨a, dx, fs, hx, d2.at_ hc, hl, ha G2 H2 (s.trans s2) d2 _ fun G3 H3 vs s3 d3 hvs => ?_⟩)
  obtain ⟨mc, rest, pm, hq⟩ := hp G3 vs ((s.trans s2).trans s3) hvs
  have ex : x = .ref a := hx
  subst ex
  refine ⟨i, G3, mc, rest, d3.perm pm, ?_, fun v G4 H4 s4 d4 hv => q G4 H4 v ((s2.trans s3).trans s4) (d4.perm pm.symm) (hP _ _ ?_)⟩
  · rw [List.append_nil]
    exact hq
  · exact hv
theorem d_methR0 {I O : Type} {pre : I → Hp → Cells → List V → Prop} {r : I → O → Hp → V → Prop} {mm : I → O} {j l na : Nat} {m : Str} {C a dx : Addr} {fs : List (Str × V)} {pl : Sem Bool} (i : I) (F : Mt0 X.prog X.w X.K X.mg X.base CX0 j C m na (SpR pre r mm)) (ck : Cls X.K C) (hr : Room l X.A) (hk : j ≤ l)
    (ho : D X o σ G cs (rV (.ref a))) (hc : (a, HO.ins C dx fs) ∈ cs) (hl : fs.lookup m = none)
    (hp : ∀ G1, Same G G1 → ∃ mc rest, cs.Perm (mc ++ rest) ∧ pre i G1 mc [.ref a]) (hP : ∀ G v, r i (mm i) G v → P G v)
    (ht : eval (.Call (.Attribute o m apos) [] [] pos) X.env = (do
      let ov ← eval o X.env
      standAt apos.atName
      let (f, first) ← holding [ov] (getMethod ov m pl)
      callWith pos f first (backTo pos (starEach [] X.env)) (backToKw pos (keywordEach [] X.env))) := by rfl) : D X (.Call (.Attribute o m apos) [] [] pos) σ G cs P := by
  obtain ⟨f, fd, ps, F, hm, b, _⟩ := F.ex
  intro G1 H s d Q q
  refine uE (pe_meth0 (sE X o) ck hm F (hr.mono hk) b .nil pass0 (ht := ht)) (ho G1 H s d _ fun G2 H2 x s2 d2 hx => ⟨a, dx, fs, hx, d2.at_ hc, hl, ?_⟩)
  obtain ⟨mc, rest, pm, hq⟩ := hp G2 (s.trans s2)
  have ex : x = .ref a := hx
  subst ex
  exact ⟨i, G2, mc, rest, d2.perm pm, hq, fun v G4 H4 s4 d4 hv => q G4 H4 v (s2.trans s4) (d4.perm pm.symm) (hP _ _ hv)⟩
section
variable {n : Nat} {adr : Fin n → Addr} {Wx : WX}
/-- as DE, with any place for the errors -/
def DX (X : Cx) (adr : Fin n → Addr) (Ex : Value → Hp → Prop) (e : Expr) (σ : L2.St) (G : Hp) (cs : Cells) {O : Type} (P : O → Hp → V → Prop) (m : Except (Fin n) O) : Prop :=
  ∀ G1 H, Same G G1 → Desc G1 cs H → ∀ Q : VK, (match m with
    | .ok o => ∀ G2 H2 v, Same G1 G2 → Desc G2 cs H2 → P o G2 v → Q v H2
    | .error k => ∀ G2 H2, Same G1 G2 → Desc G2 cs H2 → Ex (.ref (adr k)) H2) → wE X e σ H Q
theorem dx_callR {I O : Type} {pre : I → Hp → Cells → List V → Prop} {r : I → O → Hp → V → Prop} {m : I → Except (Fin n) O} {Q' : O → Hp → V → Prop} {k j na : Nat} {x : Str} {Ps : Hp → List V → Prop} {E : L2.St → XK} (hx : ∀ σ, PassesAt (L2.CX X.prog X.w) X σ (E σ)) (i : I) (F : Fn0 X.prog X.w X.K X.mg X.base (L2.CX X.prog X.w) k x na (SpRE adr pre r m)) (hr : Room j X.A) (hk : k ≤ j)
    (ha : A X (e :: es) σ G cs Ps) (hp : ∀ G1 vs, Same G G1 → Ps G1 vs → ∃ mc rest, cs.Perm (mc ++ rest) ∧ pre i G1 mc vs) (hP : ∀ o G v, r i o G v → Q' o G v) (hg : Gl X x) (hd : (x == ("__debug__" : Str)) = false)
    (he : starEach (e :: es) X.env = (false, eval e X.env) :: starEach es X.env) (hpl : (backTo pos (starEach es X.env)).any (·.1) = false) : DX X adr (fun c H => E σ c none H) (.Call (.Name x p) (e :: es) [] pos) σ G cs Q' (m i) := by
  obtain ⟨f, fd, ps, F, hm, kp, b, _⟩ := F.ex
  intro G1 H s d Q q
  refine uE (pe_callS F (hr.mono hk) hg hm kp b hx (sA X _) (hdb := hd) (he := he) (hpl := hpl)) (ha G1 H s d _ fun G2 H2 vs s2 d2 hvs => ?_)
  obtain ⟨mc, rest, pm, hq⟩ := hp G2 vs (s.trans s2) hvs
  refine ⟨i, G2, mc, rest, d2.perm pm, hq, ?_⟩
  cases hm : m i with
  | ok o =>
    rw [hm] at q
    exact fun v G3 H3 s3 d3 hv => q G3 H3 v (s2.trans s3) (d3.perm pm.symm) (hP _ _ _ hv)
  | error k =>
    rw [hm] at q
    exact fun G3 H3 s3 d3 => q G3 H3 (s2.trans s3) (d3.perm pm.symm)
theorem dx_methR {I O : Type} {pre : I → Hp → Cells → List V → Prop} {r : I → O → Hp → V → Prop} {mm : I → Except (Fin n) O} {Q' : O → Hp → V → Prop} {j l na : Nat} {m : Str} {C a dx : Addr} {fs : List (Str × V)} {pl : Sem Bool} {Ps : Hp → List V → Prop} {E : L2.St → XK} (hx : ∀ σ, PassesAt (L2.CX X.prog X.w) X σ (E σ)) (i : I) (F : Mt0 X.prog X.w X.K X.mg X.base (L2.CX X.prog X.w) j C m na (SpRE adr pre r mm)) (ck : Cls X.K C) (hr : Room l X.A) (hk : j ≤ l)
    (ho : D X o σ G cs (rV (.ref a))) (hc : (a, HO.ins C dx fs) ∈ cs) (hl : fs.lookup m = none)
    (ha : A X (e :: es) σ G cs Ps) (hp : ∀ G1 vs, Same G G1 → Ps G1 vs → ∃ mc rest, cs.Perm (mc ++ rest) ∧ pre i G1 mc (.ref a :: vs)) (hP : ∀ o G v, r i o G v → Q' o G v)
    (hst : starEach (e :: es) X.env = (false, eval e X.env) :: starEach es X.env) (hpl : (backTo pos (starEach es X.env)).any (·.1) = false)
    (ht : eval (.Call (.Attribute o m apos) (e :: es) [] pos) X.env = (do
      let ov ← eval o X.env
      standAt apos.atName
      let (f, first) ← holding [ov] (getMethod ov m pl)
      callWith pos f first (backTo pos (starEach (e :: es) X.env)) (backToKw pos (keywordEach [] X.env)))) : DX X adr (fun c H => E σ c none H) (.Call (.Attribute o m apos) (e :: es) [] pos) σ G cs Q' (mm i) := by
  obtain ⟨f, fd, ps, F, hm, b, _⟩ := F.ex
  intro G1 H s d Q q
  refine uE (pe_methX (sE X o) ck hm F (hr.mono hk) b hx (sA X _) (hst := hst) (hpl := hpl) (ht := ht)) (ho G1 H s d _ fun G2 H2 x s2 d2 hx => ⟨a, dx, fs, hx, d2.at_ hc, hl, ha G2 H2 (s.trans s2) d2 _ fun G3 H3 vs s3 d3 hvs => ?_⟩)
  obtain ⟨mc, rest, pm, hq⟩ := hp G3 vs ((s.trans s2).trans s3) hvs
  have ex : x = .ref a := hx
  subst ex
  refine ⟨i, G3, mc, rest, d3.perm pm, hq, ?_⟩
  cases hm : mm i with
  | ok o =>
    rw [hm] at q
    exact fun v G4 H4 s4 d4 hv => q G4 H4 v ((s2.trans s3).trans s4) (d4.perm pm.symm) (hP _ _ _ hv)
  | error k =>
    rw [hm] at q
    exact fun G4 H4 s4 d4 => q G4 H4 ((s2.trans s3).trans s4) (d4.perm pm.symm)
theorem dx_methR0 {I O : Type} {pre : I → Hp → Cells → List V → Prop} {r : I → O → Hp → V → Prop} {mm : I → Except (Fin n) O} {Q' : O → Hp → V → Prop} {j l na : Nat} {m : Str} {C a dx : Addr} {fs : List (Str × V)} {pl : Sem Bool} {E : L2.St → XK} (hx : ∀ σ, PassesAt (L2.CX X.prog X.w) X σ (E σ)) (i : I) (F : Mt0 X.prog X.w X.K X.mg X.base (L2.CX X.prog X.w) j C m na (SpRE adr pre r mm)) (ck : Cls X.K C) (hr : Room l X.A) (hk : j ≤ l)
    (ho : D X o σ G cs (rV (.ref a))) (hc : (a, HO.ins C dx fs) ∈ cs) (hl : fs.lookup m = none)
    (hp : ∀ G1, Same G G1 → ∃ mc rest, cs.Perm (mc ++ rest) ∧ pre i G1 mc [.ref a]) (hP : ∀ o G v, r i o G v → Q' o G v)
    (ht : eval (.Call (.Attribute o m apos) [] [] pos) X.env = (do
      let ov ← eval o X.env
      standAt apos.atName
      let (f, first) ← holding [ov] (getMethod ov m pl)
      callWith pos f first (backTo pos (starEach [] X.env)) (backToKw pos (keywordEach [] X.env)))) : DX X adr (fun c H => E σ c none H) (.Call (.Attribute o m apos) [] [] pos) σ G cs Q' (mm i) := by
  obtain ⟨f, fd, ps, F, hm, b, _⟩ := F.ex
  intro G1 H s d Q q
  refine uE (pe_methX0 (sE X o) ck hm F (hr.mono hk) b hx (ht := ht)) (ho G1 H s d _ fun G2 H2 x s2 d2 hx => ⟨a, dx, fs, hx, d2.at_ hc, hl, ?_⟩)
  obtain ⟨mc, rest, pm, hq⟩ := hp G2 (s.trans s2)
  have ex : x = .ref a := hx
  subst ex
  refine ⟨i, G2, mc, rest, d2.perm pm, hq, ?_⟩
  cases hm : mm i with
  | ok o =>
    rw [hm] at q
    exact fun v G4 H4 s4 d4 hv => q G4 H4 v (s2.trans s4) (d4.perm pm.symm) (hP _ _ _ hv)
  | error k =>
    rw [hm] at q
    exact fun G4 H4 s4 d4 => q G4 H4 (s2.trans s4) (d4.perm pm.symm)
theorem DX.ok {Ex : Value → Hp → Prop} {O : Type} {Q' : O → Hp → V → Prop} {m : Except (Fin n) O} {oo : O} (h : DX X adr Ex e σ G cs Q' m) (hm : m = .ok oo) : D X e σ G cs (Q' oo) := by
  subst hm
  exact fun G1 H s d Q q => h G1 H s d Q q
/-- a call that may raise -/
theorem de_callR {I O : Type} {pre : I → Hp → Cells → List V → Prop} {r : I → O → Hp → V → Prop} {m : I → Except (Fin n) O} {Q' : O → Hp → V → Prop} {k j na : Nat} {x : Str} {Ps : Hp → List V → Prop} (i : I) (F : Fn0 X.prog X.w X.K X.mg X.base (L2.CX X.prog X.w) k x na (SpRE adr pre r m)) (tk : Takes X Wx) (hr : Room j X.A) (hk : k ≤ j)
    (ha : A X (e :: es) σ G cs Ps) (hp : ∀ G1 vs, Same G G1 → Ps G1 vs → ∃ mc rest, cs.Perm (mc ++ rest) ∧ pre i G1 mc vs) (hP : ∀ o G v, r i o G v → Q' o G v) (hg : Gl X x := by rfl) (hd : (x == ("__debug__" : Str)) = false := by decide)
    (he : starEach (e :: es) X.env = (false, eval e X.env) :: starEach es X.env := by exact star_plain rfl) (hpl : (backTo pos (starEach es X.env)).any (·.1) = false := by rfl) : DE X adr Wx (.Call (.Name x p) (e :: es) [] pos) σ G cs Q' (m i) :=
  dx_callR (fun σ => passAt tk σ) i F hr hk ha hp hP hg hd he hpl
theorem de_methR {I O : Type} {pre : I → Hp → Cells → List V → Prop} {r : I → O → Hp → V → Prop} {mm : I → Except (Fin n) O} {Q' : O → Hp → V → Prop} {j l na : Nat} {m : Str} {C a dx : Addr} {fs : List (Str × V)} {pl : Sem Bool} {Ps : Hp → List V → Prop} (i : I) (F : Mt0 X.prog X.w X.K X.mg X.base (L2.CX X.prog X.w) j C m na (SpRE adr pre r mm)) (ck : Cls X.K C) (tk : Takes X Wx) (hr : Room l X.A) (hk : j ≤ l)
    (ho : D X o σ G cs (rV (.ref a))) (hc : (a, HO.ins C dx fs) ∈ cs) (hl : fs.lookup m = none)
    (ha : A X (e :: es) σ G cs Ps) (hp : ∀ G1 vs, Same G G1 → Ps G1 vs → ∃ mc rest, cs.Perm (mc ++ rest) ∧ pre i G1 mc (.ref a :: vs)) (hP : ∀ o G v, r i o G v → Q' o G v)
    (hst : starEach (e :: es) X.env = (false, eval e X.env) :: starEach es X.env := by exact star_plain rfl) (hpl : (backTo pos (starEach es X.env)).any (·.1) = false := by rfl)
    (ht : eval (.Call (.Attribute o m apos) (e :: es) [] pos) X.env = (do
      let ov ← eval o X.env
      standAt apos.atName
      let (f, first) ← holding [ov] (getMethod ov m pl)
      callWith pos f first (backTo pos (starEach (e :: es) X.env)) (backToKw pos (keywordEach [] X.env))) := by rfl) : DE X adr Wx (.Call (.Attribute o m apos) (e :: es) [] pos) σ G cs Q' (mm i) :=
  dx_methR (fun σ => passAt tk σ) i F ck hr hk ho hc hl ha hp hP hst hpl ht
theorem de_methR0 {I O : Type} {pre : I → Hp → Cells → List V → Prop} {r : I → O → Hp → V → Prop} {mm : I → Except (Fin n) O} {Q' : O → Hp → V → Prop} {j l na : Nat} {m : Str} {C a dx : Addr} {fs : List (Str × V)} {pl : Sem Bool} (i : I) (F : Mt0 X.prog X.w X.K X.mg X.base (L2.CX X.prog X.w) j C m na (SpRE adr pre r mm)) (ck : Cls X.K C) (tk : Takes X Wx) (hr : Room l X.A) (hk : j ≤ l)
    (ho : D X o σ G cs (rV (.ref a))) (hc : (a, HO.ins C dx fs) ∈ cs) (hl : fs.lookup m = none)
    (hp : ∀ G1, Same G G1 → ∃ mc rest, cs.Perm (mc ++ rest) ∧ pre i G1 mc [.ref a]) (hP : ∀ o G v, r i o G v → Q' o G v)
    (ht : eval (.Call (.Attribute o m apos) [] [] pos) X.env = (do
      let ov ← eval o X.env
      standAt apos.atName
      let (f, first) ← holding [ov] (getMethod ov m pl)
      callWith pos f first (backTo pos (starEach [] X.env)) (backToKw pos (keywordEach [] X.env))) := by rfl) : DE X adr Wx (.Call (.Attribute o m apos) [] [] pos) σ G cs Q' (mm i) :=
  dx_methR0 (fun σ => passAt tk σ) i F ck hr hk ho hc hl hp hP ht
/-- .. and does not here -/
theorem d_callRS {I O : Type} {pre : I → Hp → Cells → List V → Prop} {r : I → O → Hp → V → Prop} {m : I → Except (Fin n) O} {k j na : Nat} {x : Str} {Ps : Hp → List V → Prop} {oo : O} (i : I) (F : Fn0 X.prog X.w X.K X.mg X.base (L2.CX X.prog X.w) k x na (SpRE adr pre r m)) (hok : m i = .ok oo) (hr : Room j X.A) (hk : k ≤ j)
    (ha : A X (e :: es) σ G cs Ps) (hp : ∀ G1 vs, Same G G1 → Ps G1 vs → ∃ mc rest, cs.Perm (mc ++ rest) ∧ pre i G1 mc vs) (hP : ∀ G v, r i oo G v → P G v) (hg : Gl X x := by rfl) (hd : (x == ("__debug__" : Str)) = false := by decide)
    (he : starEach (e :: es) X.env = (false, eval e X.env) :: starEach es X.env := by exact star_plain rfl) (hpl : (backTo pos (starEach es X.env)).any (·.1) = false := by rfl) : D X (.Call (.Name x p) (e :: es) [] pos) σ G cs P :=
  ((dx_callR (E := fun _ _ _ _ => False) (fun σ pins H s u s' I c => by obtain ⟨_, _, _, _, _, _, _, _, _, _, _, _, z⟩ := c; exact z.elim) i F hr hk ha hp (fun _ _ _ h => h) hg hd he hpl).ok hok).imp hP
theorem d_methRS {I O : Type} {pre : I → Hp → Cells → List V → Prop} {r : I → O → Hp → V → Prop} {mm : I → Except (Fin n) O} {j l na : Nat} {m : Str} {C a dx : Addr} {fs : List (Str × V)} {pl : Sem Bool} {Ps : Hp → List V → Prop} {oo : O} (i : I) (F : Mt0 X.prog X.w X.K X.mg X.base (L2.CX X.prog X.w) j C m na (SpRE adr pre r mm)) (ck : Cls X.K C) (hok : mm i = .ok oo) (hr : Room l X.A) (hk : j ≤ l)
    (ho : D X o σ G cs (rV (.ref a))) (hc : (a, HO.ins C dx fs) ∈ cs) (hl : fs.lookup m = none)
    (ha : A X (e :: es) σ G cs Ps) (hp : ∀ G1 vs, Same G G1 → Ps G1 vs → ∃ mc rest, cs.Perm (mc ++ rest) ∧ pre i G1 mc (.ref a :: vs)) (hP : ∀ G v, r i oo G v → P G v)
    (hst : starEach (e :: es) X.env = (false, eval e X.env) :: starEach es X.env := by exact star_plain rfl) (hpl : (backTo pos (starEach es X.env)).any (·.1) = false := by rfl)
    (ht : eval (.Call (.Attribute o m apos) (e :: es) [] pos) X.env = (do
      let ov ← eval o X.env
      standAt apos.atName
      let (f, first) ← holding [ov] (getMethod ov m pl)
      callWith pos f first (backTo pos (starEach (e :: es) X.env)) (backToKw pos (keywordEach [] X.env))) := by rfl) : D X (.Call (.Attribute o m apos) (e :: es) [] pos) σ G cs P :=
  ((dx_methR (E := fun _ _ _ _ => False) (fun σ pins H s u s' I c => by obtain ⟨_, _, _, _, _, _, _, _, _, _, _, _, z⟩ := c; exact z.elim) i F ck hr hk ho hc hl ha hp (fun _ _ _ h => h) hst hpl ht).ok hok).imp hP
theorem d_methRS0 {I O : Type} {pre : I → Hp → Cells → List V → Prop} {r : I → O → Hp → V → Prop} {mm : I → Except (Fin n) O} {j l na : Nat} {m : Str} {C a dx : Addr} {fs : List (Str × V)} {pl : Sem Bool} {oo : O} (i : I) (F : Mt0 X.prog X.w X.K X.mg X.base (L2.CX X.prog X.w) j C m na (SpRE adr pre r mm)) (ck : Cls X.K C) (hok : mm i = .ok oo) (hr : Room l X.A) (hk : j ≤ l)
    (ho : D X o σ G cs (rV (.ref a))) (hc : (a, HO.ins C dx fs) ∈ cs) (hl : fs.lookup m = none)
    (hp : ∀ G1, Same G G1 → ∃ mc rest, cs.Perm (mc ++ rest) ∧ pre i G1 mc [.ref a]) (hP : ∀ G v, r i oo G v → P G v)
    (ht : eval (.Call (.Attribute o m apos) [] [] pos) X.env = (do
      let ov ← eval o X.env
      standAt apos.atName
      let (f, first) ← holding [ov] (getMethod ov m pl)
      callWith pos f first (backTo pos (starEach [] X.env)) (backToKw pos (keywordEach [] X.env))) := by rfl) : D X (.Call (.Attribute o m apos) [] [] pos) σ G cs P :=
  ((dx_methR0 (E := fun _ _ _ _ => False) (fun σ pins H s u s' I c => by obtain ⟨_, _, _, _, _, _, _, _, _, _, _, _, z⟩ := c; exact z.elim) i F ck hr hk ho hc hl hp (fun _ _ _ h => h) ht).ok hok).imp hP
end
end
section
variable {ε S L R : Type} {X : Cx} {W : ε → L2.St → Hp → Prop} {σ : L2.St} {G : Hp} {cs cs' : Cells} {Φ : Po ε S L R} {m : Out ε S L R} {rest : List Stmt} {o e : Expr} {f : Str} {pos tpos : Pos}
/-- o.f += e, the value by its name -/
theorem b_fldAddV {a C dx : Addr} {nf : List Str} {vs : List V} {z y w : Int} (k i : Nat) (ck : ClsK X.K C nf) (hk : cs[k]? = some (a, HO.ins C dx (nf.zip vs))) (he : D X e σ G cs (rI y)) (ho : D X o σ G cs (rV (.ref a))) (hw : w = z + y)
    (q : ∀ G1, Same G G1 → B X W rest σ G1 (cs.set k (a, HO.ins C dx (nf.zip (vs.set i (.int w))))) Φ m) (hv : vs[i]? = some (.int z) := by rfl) (hi : nf[i]? = some f := by rfl) : B X W (.AugAssign (.Attribute o f tpos) .Add e pos :: rest) σ G cs Φ m := by
  subst hw
  exact b_fldAdd k i ck hk he ho q hv hi
/-- what is not wanted any more -/
theorem b_drop {ss : List Stmt} (loc : Cells) (h : B X W ss σ G cs Φ m) : B X W ss σ G (loc ++ cs) Φ m := fun H d E w => h H d.drop E w
end
end J

/-! comprehensions over range(effect) -/
namespace J
open PySem PySem.Spec L2 PyProof.Rows
section
variable {X : Cx} {σ : L2.St} {G : Hp} {cs : Cells} {elt tg iter : Expr} {pos : Pos} {scope : Scope} {own : List (Str × Nat)} {α β S : Type} {xs : List α} {Pi : α → Hp → V → Prop} {r : β → Hp → V → Prop} {f : S → α → β × S} {s0 : S}
theorem ec_lcI {Sx : α → Hp → L2.St → L2.St → Prop} {C : Cells → Prop} {k : V → Hp → Cells → Prop} (Nc : S → Hp → Cells → Prop) (hcalm : X.calm = true) (hN : X.N.Nodup) (ok : BlkOk X.N X.env.scope scope own) (hi : IC X tg iter σ G cs C xs Pi fun G1 cs1 => Nc s0 G1 cs1) (ht : TgB X scope tg Pi Sx)
    (hC : ∀ s G1 cs1 l us, Nc s G1 cs1 → C ((l, .lst us) :: cs1)) (hwipe : ∀ x G1 σ', Sx x G1 (wipe σ (own.map (·.2))) σ' → wipe σ' (own.map (·.2)) = wipe σ (own.map (·.2))) [∀ y, Mono (r y)]
    (he : ∀ pre x post, xs = pre ++ x :: post → ∀ s, s = (mapS f s0 pre).2 → ∀ G0 G1 cs1 σ' c, Same G G0 → Nc s G0 cs1 → Same G0 G1 → Sx x G1 (wipe σ (own.map (·.2))) σ' → ∀ s' H0 C cl fp, EC (X.blk s' H0 scope (compEnvC scope cl C X.env) fp) elt σ' G1 (c :: cs1) fun v G2 cs2 => ∃ cs3, cs2.Perm (c :: cs3) ∧ r (f s x).1 G2 v ∧ Nc (f s x).2 G2 cs3)
    (hsz : xs.length ≤ 16777215) (hk : ∀ l us G1 cs1, Same G G1 → Rs r G1 (mapS f s0 xs).1 us → Nc (mapS f s0 xs).2 G1 cs1 → k (.ref l) G1 ((l, .lst us) :: cs1))
    (hs : ∀ x, foldedSetIterable iter X.env x = pure x := by intro _; rfl) : EC X (.ListComp elt [⟨tg, iter, [], 0⟩] scope pos) σ G cs k := by
  obtain ⟨wi, hpi, hw⟩ := hi
  obtain ⟨g, hpg, hgt⟩ := ht
  intro G1 H s d Q q
  refine uE (pe_lc (te := teB X scope elt) hcalm hN hpi ok hpg (fun _ _ _ _ _ => pts_nil) (fun s H0 C cl fp => ⟨fun pins s1 σ H Q I h => (h s H0 C cl fp).run pins s1 I⟩) hs) ?_
  refine hw G1 H s d _ fun J G2 H2 cs2 s2 d2 wk hn0 => fun l hl => ?_
  let Pv : Nat → Hp → Prop := fun i H1 => ∃ G3 us cs3, i ≤ xs.length ∧ Same G2 G3 ∧ Desc G3 ((l, .lst us) :: cs3) H1 ∧ Rs r G3 (mapS f s0 (xs.take i)).1 us ∧ Nc (mapS f s0 (xs.take i)).2 G3 cs3
  refine ⟨fun i n H1 => n = xs.length - i ∧ Pv i H1, ⟨xs.length, rfl, G2, [], cs2, Nat.zero_le _, Same.refl _, d2.newCell hl _, .nil, hn0⟩, ?_⟩
  rintro i n H1 ⟨rfl, G3, us, cs3, hi, s3, d3, hr, hn⟩
  by_cases hlt : i < xs.length
  · refine .inr ⟨wk.goes i G3 H1 _ hlt s3 (hC _ _ _ _ _ hn) d3, Pv (i + 1), fun H' p' => ⟨_, by omega, rfl, p'⟩, fun v H3 y => ?_⟩
    have hx : xs[i]? = some xs[i] := by simp [hlt]
    have hm : xs[i] ∈ xs := List.getElem_mem hlt
    obtain ⟨G4, s4, d4, pv⟩ := wk.yields i xs[i] G3 H1 _ v H3 hx s3 (hC _ _ _ _ _ hn) d3 y
    have et : xs.take (i + 1) = xs.take i ++ [xs[i]] := by simp
    refine hgt xs[i] v G4 _ H3 _ pv d4 _ fun σ' hS => ⟨hwipe _ _ _ hS, ?_⟩
    have ed : xs = xs.take i ++ xs[i] :: xs.drop (i + 1) := by
      rw [← List.drop_eq_getElem_cons hlt, List.take_append_drop]
    refine iteT (B := Pv (i + 1) H3) fun s5 H0 C5 cl fp => he (xs.take i) xs[i] (xs.drop (i + 1)) ed _ rfl G3 G4 cs3 σ' (l, .lst us) ((s.trans s2).trans s3) hn s4 hS s5 H0 C5 cl fp G4 H3 (Same.refl _) d4 _ fun G5 H5 cs5 w s5 d5 ⟨cs6, pm, hw, hn5⟩ => ?_
    have d6 := d5.perm pm
    refine ⟨us, d6.at_ List.mem_cons_self, ?_, G5, us ++ [w], cs6, hlt, (s3.trans s4).trans s5, d6.write (k := 0) rfl _, ?_, ?_⟩
    · rw [← hr.length, mapS_length, List.length_take, sizeLine_eq]
      omega
    · rw [et, mapS_snoc]
      exact Rs.snoc hw (hr.mono (s4.trans s5))
    · rw [et, mapS_snoc]
      exact hn5
  · have e : i = xs.length := by omega
    subst e
    rw [List.take_length] at hr hn
    exact .inl ⟨wk.stops G3 H1 _ s3 (hC _ _ _ _ _ hn) d3, q G3 H1 _ _ (s2.trans s3) d3 (hk l us G3 cs3 ((s.trans s2).trans s3) hr hn)⟩
end
section
variable {ε S' L R' : Type} {X : Cx} {W : ε → L2.St → Hp → Prop} {Φ : Po ε S' L R'} {m : Out ε S' L R'} {rest : List Stmt} {σ : L2.St} {G : Hp} {cs : Cells} {elt tg iter : Expr} {pos spos : Pos} {scope : Scope} {own : List (Str × Nat)} {α β S : Type} {xs : List α} {Pi : α → Hp → V → Prop} {r : β → Hp → V → Prop} {f : S → α → β × S} {s0 : S}
theorem b_setLcI (i : Nat) {y : Str} {py : Pos} {Sx : α → Hp → L2.St → L2.St → Prop} {C : Cells → Prop} (hcalm : X.calm = true) (hN : X.N.Nodup) (hyl : X.env.scope.names.lookup y = some .local) (hsw : swapsWith (.ListComp elt [⟨tg, iter, [], 0⟩] scope pos) (some (.Name y py)) spos.line X.env = pure true) (Nc : S → Hp → Cells → Prop) (ok : BlkOk X.N X.env.scope scope own) (hi : IC X tg iter σ G cs C xs Pi fun G1 cs1 => Nc s0 G1 cs1) (ht : TgB X scope tg Pi Sx)
    (hC : ∀ s G1 cs1 l us, Nc s G1 cs1 → C ((l, .lst us) :: cs1)) (hwipe : ∀ x G1 σ', Sx x G1 (wipe σ (own.map (·.2))) σ' → wipe σ' (own.map (·.2)) = wipe σ (own.map (·.2))) [∀ y, Mono (r y)]
    (he : ∀ pre x post, xs = pre ++ x :: post → ∀ s, s = (mapS f s0 pre).2 → ∀ G0 G1 cs1 σ' c, Same G G0 → Nc s G0 cs1 → Same G0 G1 → Sx x G1 (wipe σ (own.map (·.2))) σ' → ∀ s' H0 C cl fp, EC (X.blk s' H0 scope (compEnvC scope cl C X.env) fp) elt σ' G1 (c :: cs1) fun v G2 cs2 => ∃ cs3, cs2.Perm (c :: cs3) ∧ r (f s x).1 G2 v ∧ Nc (f s x).2 G2 cs3)
    (hsz : xs.length ≤ 16777215) (hk : ∀ l us G1 cs1, Same G G1 → Rs r G1 (mapS f s0 xs).1 us → Nc (mapS f s0 xs).2 G1 cs1 → B X W rest (σ.set i (some (.ref l))) G1 ((l, .lst us) :: cs1) Φ m) (hy : X.N[i]? = some y := by rfl)
    (hs : ∀ x, foldedSetIterable iter X.env x = pure x := by intro _; rfl) : B X W (.Assign [.Name y py] (.ListComp elt [⟨tg, iter, [], 0⟩] scope pos) spos :: rest) σ G cs Φ m := by
  obtain ⟨wi, hpi, hw⟩ := hi
  obtain ⟨g, hpg, hgt⟩ := ht
  refine b_cons (ps_setLc (te := teB X scope elt) hcalm hN hy hyl hsw hpi ok hpg (fun _ _ _ _ _ => pts_nil) (fun s H0 C cl fp => ⟨fun pins s1 σ H Q I h => (h s H0 C cl fp).run pins s1 I⟩) hs) fun H d E w => ?_
  have s : Same G G := Same.refl _
  refine hw G H s d _ fun J G2 H2 cs2 s2 d2 wk hn0 => fun l hl => ?_
  let Pv : Nat → Hp → Prop := fun i H1 => ∃ G3 us cs3, i ≤ xs.length ∧ Same G2 G3 ∧ Desc G3 ((l, .lst us) :: cs3) H1 ∧ Rs r G3 (mapS f s0 (xs.take i)).1 us ∧ Nc (mapS f s0 (xs.take i)).2 G3 cs3
  refine ⟨fun i n H1 => n = xs.length - i ∧ Pv i H1, ⟨xs.length, rfl, G2, [], cs2, Nat.zero_le _, Same.refl _, d2.newCell hl _, .nil, hn0⟩, ?_⟩
  rintro i n H1 ⟨rfl, G3, us, cs3, hi, s3, d3, hr, hn⟩
  by_cases hlt : i < xs.length
  · refine .inr ⟨wk.goes i G3 H1 _ hlt s3 (hC _ _ _ _ _ hn) d3, Pv (i + 1), fun H' p' => ⟨_, by omega, rfl, p'⟩, fun v H3 y => ?_⟩
    have hx : xs[i]? = some xs[i] := by simp [hlt]
    have hm : xs[i] ∈ xs := List.getElem_mem hlt
    obtain ⟨G4, s4, d4, pv⟩ := wk.yields i xs[i] G3 H1 _ v H3 hx s3 (hC _ _ _ _ _ hn) d3 y
    have et : xs.take (i + 1) = xs.take i ++ [xs[i]] := by simp
    refine hgt xs[i] v G4 _ H3 _ pv d4 _ fun σ' hS => ⟨hwipe _ _ _ hS, ?_⟩
    have ed : xs = xs.take i ++ xs[i] :: xs.drop (i + 1) := by
      rw [← List.drop_eq_getElem_cons hlt, List.take_append_drop]
    refine iteT (B := Pv (i + 1) H3) fun s5 H0 C5 cl fp => he (xs.take i) xs[i] (xs.drop (i + 1)) ed _ rfl G3 G4 cs3 σ' (l, .lst us) ((s.trans s2).trans s3) hn s4 hS s5 H0 C5 cl fp G4 H3 (Same.refl _) d4 _ fun G5 H5 cs5 w s5 d5 ⟨cs6, pm, hw, hn5⟩ => ?_
    have d6 := d5.perm pm
    refine ⟨us, d6.at_ List.mem_cons_self, ?_, G5, us ++ [w], cs6, hlt, (s3.trans s4).trans s5, d6.write (k := 0) rfl _, ?_, ?_⟩
    · rw [← hr.length, mapS_length, List.length_take, sizeLine_eq]
      omega
    · rw [et, mapS_snoc]
      exact Rs.snoc hw (hr.mono (s4.trans s5))
    · rw [et, mapS_snoc]
      exact hn5
  · have e : i = xs.length := by omega
    subst e
    rw [List.take_length] at hr hn
    exact .inl ⟨wk.stops G3 H1 _ s3 (hC _ _ _ _ _ hn) d3, hk l us G3 cs3 ((s.trans s2).trans s3) hr hn H1 d3 E (w.up ((s.trans s2).trans s3))⟩
end
section
variable {X : Cx} {σ : L2.St} {G : Hp} {cs : Cells} {a : Expr} {pos p : Pos}
/-- isinstance of what may be None -/
theorem d_isiO {α : Type} {r : α → Hp → V → Prop} {x : Option α} {t u : String} {y : Str} {py : Pos} [h : HasTy X.K r t] [∀ x, Mono (r x)] (hm : X.mg "isinstance" = none) (hmy : X.mg y = none) (ha : D X a σ G cs (rO r x)) (hk : kitB t u = some true := by decide +kernel) (hk0 : kitB "NoneType" u = some false := by decide +kernel)
    (hy : bootBuiltins y = some (.type u) := by decide +kernel) (hg : Gl X "isinstance" := by rfl) (hgy : Gl X y := by rfl) (hny : y ≠ "__name__" := by decide) (hdy : (y == ("__debug__" : Str)) = false := by decide)
    (hst : starEach [a, .Name y py] X.env = (false, eval a X.env) :: starEach [.Name y py] X.env := by rfl) (hst2 : starEach [.Name y py] X.env = (false, eval (.Name y py) X.env) :: starEach [] X.env := by rfl)
    (hpl : (backTo pos (starEach [.Name y py] X.env)).any (·.1) = false := by rfl) : D X (.Call (.Name "isinstance" p) [a, .Name y py] [] pos) σ G cs (rB x.isSome) := by
  refine d_callB (Ps := aC (rO r x) (aC (rV (.ty u)) aN)) call_isi hm (a_cons ha (a_cons (P := rV (.ty u)) ?_ a_nil hst2) hst) (fun G1 H vs s d h1 Q q => ?_) hg (he := hst) (hpl := hpl)
  · exact d_by (pe_bltn hgy hmy hy (v := .ty u) rfl hny hdy) fun G1 H s d Q q => q G1 H _ (Same.refl _) d rfl
  · obtain ⟨v, w, rfl, hv, v2, w2, rfl, hv2, hw⟩ := h1
    cases (show w2 = [] from hw)
    cases (show v2 = V.ty u from hv2)
    cases x with
    | none =>
      cases (show v = V.non from hv)
      exact ⟨_, _, _, _, false, rfl, .ty u, .base .non, kit_ty hk0, q G1 H _ (Same.refl _) d rfl⟩
    | some x => exact ⟨_, _, _, _, true, rfl, .ty u, h.ty (show r x G1 v from hv) d, kit_ty hk, q G1 H _ (Same.refl _) d rfl⟩
end
theorem forL_invN {ε S L R α : Type} {f : S → α → Out ε S S R} (N : Nat) (P : Nat → S → Prop) : ∀ {xs : List α} {s : S} {n : Nat}, n + xs.length ≤ N → P n s → (∀ n s x, x ∈ xs → n < N → P n s → ∃ s', f s x = .nx s' ∧ P (n + 1) s') → ∃ s', (forL f s xs : Out ε S L R) = .nx s' ∧ P (n + xs.length) s'
  | [], s, n, _, h, _ => ⟨s, rfl, h⟩
  | x :: xs, s, n, hl, h, st => by
    rw [List.length_cons] at hl
    obtain ⟨s1, e1, h1⟩ := st n s x List.mem_cons_self (by omega) h
    obtain ⟨s2, e2, h2⟩ := forL_invN (L := L) N P (xs := xs) (by omega) h1 fun n s y hy => st n s y (List.mem_cons_of_mem _ hy)
    refine ⟨s2, ?_, ?_⟩
    · rw [forL_cons, e1]
      exact e2
    · rw [List.length_cons, show n + (xs.length + 1) = n + 1 + xs.length by omega]
      exact h2
/-! ### list * int, of a list that is a cell -/
section
variable {X : Cx} {σ : L2.St} {G : Hp} {cs : Cells} {a b : Expr} {pos : Pos} {α : Type} {r : α → Hp → V → Prop} {xs : List α} {us : List V} {l : Addr} {n : Int}
theorem rc_rep {k : V → Hp → Cells → Prop} [∀ x, Mono (r x)] (hm : (l, HO.lst us) ∈ cs) (hr : Rs r G xs us) (h1 : -(2 ^ 31) < n ∧ n < 2 ^ 31) (h3 : xs.length * n.toNat ≤ 16777216) (K : PySem.W.Frag) (c : ∀ v G1, Same G G1 → rL K r (List.replicate n.toNat xs).flatten G1 v → k v G1 cs) : RC rRep (.ref l) (.int n) G cs k := fun G1 H s d Q q => by
  refine ⟨l, n, us, rfl, rfl, d.at_ hm, by omega, by omega, by rw [← hr.length]; exact sl_small h3, fun p hp => ?_⟩
  have sf : Same G1 (upd G1 p (.lst (List.replicate n.toNat us).flatten)) := Same.fresh d.same hp _
  exact q _ _ cs _ sf (d.new hp _) (c _ _ (s.trans sf) ⟨p, _, rfl, SqL.of upd_same, rs_rep (hr.mono (s.trans sf)) _⟩)
theorem n_repC [∀ x, Mono (r x)] (ha : D X a σ G cs (rV (.ref l))) (hm : (l, HO.lst us) ∈ cs) (hr : Rs r G xs us) (hb : D X b σ G cs (rI n)) (h1 : -(2 ^ 31) < n ∧ n < 2 ^ 31) (h3 : xs.length * n.toNat ≤ 16777216) : N X (.BinOp a .Mult b pos) σ G cs r (List.replicate n.toNat xs).flatten := fun G1 H s d Q q =>
  uE (pe_op op_rep (sE X a) (sE X b)) (ha G1 H s d _ fun G2 H2 x s2 d2 hx => hb G2 H2 (s.trans s2) d2 _ fun G3 H3 v s3 d3 hv => by
    refine ⟨l, n, us, hx, hv, d3.at_ hm, by omega, by omega, by rw [← hr.length]; exact sl_small h3, fun p hp => ?_⟩
    exact q G3 _ p _ (s2.trans s3) (d3.newCell hp _) (rs_rep (hr.mono (s.trans (s2.trans s3))) _))
end
/-! ### and/or as a value; calls of defs that only read cells, behind arguments with effects; appending to what a call has just made -/
section
variable {X : Cx} {σ : L2.St} {G : Hp} {cs : Cells} {o a b e : Expr} {es : List Expr} {pos p apos : Pos} {k : V → Hp → Cells → Prop}
theorem ec_kd {k' : V → Hp → Cells → Prop} (h : EC X e σ G cs k') (c : ∀ v G1 cs1, Same G G1 → k' v G1 cs1 → ∃ loc cs2, cs1.Perm (loc ++ cs2) ∧ k v G1 cs2) : EC X e σ G cs k := fun G1 H s d Q q => h G1 H s d Q fun G2 H2 cs2 v s2 d2 hk => by
  obtain ⟨loc, cs3, pm, h3⟩ := c v G2 cs2 (s.trans s2) hk
  exact q G2 H2 cs3 v s2 (d2.perm pm).drop h3
theorem ec_one {op : BoolOp} (h : EC X a σ G cs k) : EC X (.BoolOp op [a] pos) σ G cs k := fun G1 H s d Q q => uE (pe_one (sE X a)) (h G1 H s d Q q)
theorem ec_and {rest : List Expr} (h : EC X a σ G cs fun v G1 cs1 => ∃ z, v = .bl z ∧ (z = true → EC X (.BoolOp .And (b :: rest) pos) σ G1 cs1 k) ∧ (z = false → k (.bl false) G1 cs1)) : EC X (.BoolOp .And (a :: b :: rest) pos) σ G cs k := fun G1 H s d Q q =>
  uE (pe_and (sE X a) (sE X _)) (h G1 H s d _ fun G2 H2 cs2 v s2 d2 ⟨z, e1, ht, hf⟩ => ⟨z, e1, by
    subst e1
    cases z with
    | false => exact iteF (q G2 H2 cs2 _ s2 d2 (hf rfl))
    | true => exact iteT (ht rfl G2 H2 (Same.refl _) d2 Q fun G3 H3 cs3 w s3 d3 hw => q G3 H3 cs3 w (s2.trans s3) d3 hw)⟩)
theorem ec_or {rest : List Expr} (h : EC X a σ G cs fun v G1 cs1 => ∃ z, v = .bl z ∧ (z = false → EC X (.BoolOp .Or (b :: rest) pos) σ G1 cs1 k) ∧ (z = true → k (.bl true) G1 cs1)) : EC X (.BoolOp .Or (a :: b :: rest) pos) σ G cs k := fun G1 H s d Q q =>
  uE (pe_or (sE X a) (sE X _)) (h G1 H s d _ fun G2 H2 cs2 v s2 d2 ⟨z, e1, ht, hf⟩ => ⟨z, e1, by
    subst e1
    cases z with
    | true => exact iteT (q G2 H2 cs2 _ s2 d2 (hf rfl))
    | false => exact iteF (ht rfl G2 H2 (Same.refl _) d2 Q fun G3 H3 cs3 w s3 d3 hw => q G3 H3 cs3 w (s2.trans s3) d3 hw)⟩)
theorem ec_callR {I O : Type} {pre : I → Hp → Cells → List V → Prop} {r : I → O → Hp → V → Prop} {m : I → O} {kk j n : Nat} {x : Str} (F : Fn0 X.prog X.w X.K X.mg X.base CX0 kk x n (SpR pre r m)) (hr : Room j X.A) (hk : kk ≤ j)
    (ha : AC X (e :: es) σ G cs fun vs G1 cs1 => ∃ i mc rest, cs1.Perm (mc ++ rest) ∧ pre i G1 mc vs ∧ ∀ v G2, Same G1 G2 → r i (m i) G2 v → k v G2 cs1) (hg : Gl X x := by rfl) (hd : (x == ("__debug__" : Str)) = false := by decide)
    (he : starEach (e :: es) X.env = (false, eval e X.env) :: starEach es X.env := by exact star_plain rfl) (hpl : (backTo pos (starEach es X.env)).any (·.1) = false := by rfl) : EC X (.Call (.Name x p) (e :: es) [] pos) σ G cs k := by
  obtain ⟨f, fd, ps, F, hm, kp, b, _⟩ := F.ex
  intro G1 H s d Q q
  refine uE (pe_call F (hr.mono hk) hg hm kp b .nil pass0 (sA X _) (hdb := hd) (he := he) (hpl := hpl)) (ha G1 H s d _ fun G2 H2 cs2 vs s2 d2 hvs => ?_)
  obtain ⟨i, mc, rest, pm, hq, hz⟩ := hvs
  refine ⟨i, G2, mc, rest, d2.perm pm, ?_, fun v G3 H3 s3 d3 hv => q G3 H3 cs2 v (s2.trans s3) (d3.perm pm.symm) (hz v G3 s3 ?_)⟩
  · rw [List.append_nil]
    exact hq
  · exact hv
theorem ec_methR {I O : Type} {pre : I → Hp → Cells → List V → Prop} {r : I → O → Hp → V → Prop} {mm : I → O} {j l na : Nat} {m : Str} {C a dx : Addr} {fs : List (Str × V)} {pl : Sem Bool} (F : Mt0 X.prog X.w X.K X.mg X.base CX0 j C m na (SpR pre r mm)) (ck : Cls X.K C) (hr : Room l X.A) (hk : j ≤ l)
    (ho : D X o σ G cs (rV (.ref a))) (hc : (a, HO.ins C dx fs) ∈ cs) (hl : fs.lookup m = none)
    (ha : AC X (e :: es) σ G cs fun vs G1 cs1 => ∃ i mc rest, cs1.Perm (mc ++ rest) ∧ pre i G1 mc (.ref a :: vs) ∧ ∀ v G2, Same G1 G2 → r i (mm i) G2 v → k v G2 cs1)
    (hst : starEach (e :: es) X.env = (false, eval e X.env) :: starEach es X.env := by exact star_plain rfl) (hpl : (backTo pos (starEach es X.env)).any (·.1) = false := by rfl)
    (ht : eval (.Call (.Attribute o m apos) (e :: es) [] pos) X.env = (do
      let ov ← eval o X.env
      standAt apos.atName
      let (f, first) ← holding [ov] (getMethod ov m pl)
      callWith pos f first (backTo pos (starEach (e :: es) X.env)) (backToKw pos (keywordEach [] X.env))) := by rfl) : EC X (.Call (.Attribute o m apos) (e :: es) [] pos) σ G cs k := by
  obtain ⟨f, fd, ps, F, hm, b, _⟩ := F.ex
  intro G1 H s d Q q
  refine uE (pe_meth (sE X o) ck hm F (hr.mono hk) b .nil pass0 (sA X _) (hst := hst) (hpl := hpl) (ht := ht)) (ho G1 H s d _ fun G2 H2 x s2 d2 hx => ⟨a, dx, fs, hx, d2.at_ hc, hl, ha G2 H2 (s.trans s2) d2 _ fun G3 H3 cs3 vs s3 d3 hvs => ?_⟩)
  obtain ⟨i, mc, rest, pm, hq, hz⟩ := hvs
  have ex : x = .ref a := hx
  subst ex
  refine ⟨i, G3, mc, rest, d3.perm pm, ?_, fun v G4 H4 s4 d4 hv => q G4 H4 cs3 v ((s2.trans s3).trans s4) (d4.perm pm.symm) (hz v G4 s4 ?_)⟩
  · rw [List.append_nil]
    exact hq
  · exact hv
end
section
variable {ε S L R : Type} {X : Cx} {W : ε → L2.St → Hp → Prop} {σ : L2.St} {G : Hp} {cs : Cells} {Φ : Po ε S L R} {m : Out ε S L R} {rest : List Stmt} {o e : Expr} {pos : Pos}
/-- f(..).append(e) -/
theorem b_appE {apos cpos : Pos} (ho : EC X o σ G cs fun v G1 cs1 => ∃ l us, v = .ref l ∧ (l, HO.lst us) ∈ cs1 ∧ EC X e σ G1 cs1 fun w G2 cs2 => ∃ k vs, cs2[k]? = some (l, .lst vs) ∧ vs.length < sizeLine ∧ (Same G G2 → B X W rest σ G2 (cs2.set k (l, .lst (vs ++ [w]))) Φ m))
    (hs : swapsWith (.Call (.Attribute o "append" apos) [e] [] cpos) none pos.line X.env = pure false := by rfl)
    (hbase : attributeBase o "append" X.env (eval o X.env) = eval o X.env := by rfl)
    (hfew : ((backTo cpos (starEach [e] X.env)).all (fun x => !x.1) && (backToKw cpos (keywordEach [] X.env)).all (fun x => x.1.isSome) && decide ([e].length + ([] : List Keyword).length + (if ([] : List Keyword).isEmpty then 0 else 1) < 30)) = true := by rfl)
    (hline : (apos.endLine == cpos.line) = true := by rfl) (hst : starEach [e] X.env = (false, eval e X.env) :: starEach [] X.env := by rfl) (hplain : (backTo cpos (starEach [] X.env)).any (·.1) = false := by rfl) :
    B X W (.Expr (.Call (.Attribute o "append" apos) [e] [] cpos) pos :: rest) σ G cs Φ m :=
  b_cons (ps_expr (pe_bm PySem.F.plainAttrs_list PySem.F.slot_list_append PySem.F.type_list_append mt_append (sE X o) (pa_cons (sE X e) pa_nil hst) hbase hfew hline hst hplain) hs) fun H d E w =>
    ho G H (Same.refl _) d _ fun G2 H2 cs2 u s2 d2 hu => by
      obtain ⟨l, us, eu, hm, he⟩ := hu
      subst eu
      refine ⟨.inl ⟨rfl, us, SqL.of (d2.at_ hm)⟩, he G2 H2 (Same.refl _) d2 _ fun G3 H3 cs3 v s3 d3 hv => ?_⟩
      obtain ⟨k, vs, hk, hz, q⟩ := hv
      exact ⟨l, vs, v, rfl, rfl, d3.at_ (List.mem_of_getElem? hk), hz, q (s2.trans s3) _ (d3.write hk _) E (w.up (s2.trans s3))⟩
end
end J

/-! a list that a def has made within a tuple, and that its caller changes: fresh in the promise, a cell behind the statement -/
namespace J
open PySem PySem.Spec L2 PyProof.Rows
/-- a list that is new against G0 -/
def rLF (G0 : Hp) {α : Type} (r : α → Hp → V → Prop) (xs : List α) : Hp → V → Prop := fun G v => ∃ l us, v = .ref l ∧ G l = some (.lst us) ∧ G0 l = none ∧ Rs r G xs us
instance {G0 : Hp} {α : Type} {r : α → Hp → V → Prop} [∀ x, Mono (r x)] {xs : List α} : Mono (rLF G0 r xs) := ⟨fun s ⟨l, us, e, h1, h2, h3⟩ => ⟨l, us, e, s _ _ h1, h2, h3.mono s⟩⟩
theorem rLF.rL {G0 : Hp} {K : PySem.W.Frag} {α : Type} {r : α → Hp → V → Prop} {xs : List α} {G : Hp} {v : V} (h : rLF G0 r xs G v) : J.rL K r xs G v :=
  let ⟨l, us, e, h1, _, h3⟩ := h
  ⟨l, us, e, SqL.of h1, h3⟩
theorem none_of {G0 G : Hp} {l : Addr} (s : Same G0 G) (h : G l = none) : G0 l = none := by
  cases e : G0 l with
  | none => rfl
  | some o =>
    rw [s l o e] at h
    cases h
theorem d_newF {X : Cx} {e : Expr} {σ : L2.St} {G0 G : Hp} {cs : Cells} {α : Type} {r : α → Hp → V → Prop} [∀ x, Mono (r x)] {xs : List α} (s0 : Same G0 G) (h : N X e σ G cs r xs) : D X e σ G cs (rLF G0 r xs) := fun G1 H s d Q q =>
  h G1 H s d Q fun G2 H2 l vs s2 d2 hr => by
    obtain ⟨f1, f2⟩ := d2.freeze
    exact q _ _ _ (s2.trans f1) f2 ⟨l, vs, rfl, upd_same, none_of (s0.trans (s.trans s2)) (d2.cell _ List.mem_cons_self).2, hr.mono f1⟩
/-- G without l -/
def del (G : Hp) (l : Addr) : Hp := fun a => if a = l then none else G a
theorem del_ne {G : Hp} {l a : Addr} (h : a ≠ l) : del G l a = G a := if_neg h
theorem del_same {G : Hp} {l : Addr} : del G l l = none := if_pos rfl
theorem thaw {G G1 : Hp} {l : Addr} {us : List V} (s : Same G G1) (h0 : G l = none) (h1 : G1 l = some (.lst us)) : Same G (del G1 l) ∧ ∀ (cs : Cells) (H : Hp), Desc G1 cs H → Desc (del G1 l) ((l, .lst us) :: cs) H := by
  refine ⟨fun a o e => ?_, fun cs H d => ⟨fun a o e => ?_, ?_, fun c hc => ?_⟩⟩
  · have ne : a ≠ l := fun q => by rw [q, h0] at e; cases e
    rw [del_ne ne]
    exact s a o e
  · by_cases q : a = l
    · rw [q, del_same] at e
      cases e
    · rw [del_ne q] at e
      exact d.same a o e
  · refine List.nodup_cons.mpr ⟨fun hm => ?_, d.nd⟩
    obtain ⟨c, hc, e⟩ := List.mem_map.mp hm
    have q := (d.cell c hc).2
    have e' : c.1 = l := e
    rw [e', h1] at q
    cases q
  · rcases List.mem_cons.mp hc with e | hc
    · subst e
      exact ⟨d.same _ _ h1, del_same⟩
    · have q := d.cell c hc
      refine ⟨q.1, ?_⟩
      by_cases e : c.1 = l
      · rw [e]; exact del_same
      · rw [del_ne e]; exact q.2
theorem sqT_del {K : PySem.W.Frag} {G : Hp} {l t : Addr} {us vs : List V} (h : G l = some (.lst us)) (ht : SqT K G t vs) : SqT K (del G l) t vs := by
  rcases ht with (h1 | ⟨o, h1⟩) | h1
  · have ne : t ≠ l := fun q => by rw [q, h] at h1; cases h1
    exact .inl (.inl (by rw [del_ne ne]; exact h1))
  · have ne : t ≠ l := fun q => by rw [q, h] at h1; cases h1
    exact .inl (.inr ⟨o, by rw [del_ne ne]; exact h1⟩)
  · exact .inr h1
theorem rs_flat {α : Type} {r : α → Hp → V → Prop} {G G' : Hp} (h : ∀ x v, r x G v → r x G' v) : ∀ {xs : List α} {us : List V}, Rs r G xs us → Rs r G' xs us
  | _, _, .nil => .nil
  | _, _, .cons a b => .cons (h _ _ a) (rs_flat h b)
/-- to read a result as before -/
theorem rT_imp {K : PySem.W.Frag} {α : Type} {r r' : α → Hp → List V → Prop} {x : α} {G : Hp} {v : V} (i : ∀ vs, r x G vs → r' x G vs) (h : rT K r x G v) : rT K r' x G v :=
  let ⟨a, vs, e, h1, h2⟩ := h
  ⟨a, vs, e, h1, i vs h2⟩
theorem cc_imp {α β : Type} {r r' : α → Hp → V → Prop} {q q' : β → Hp → List V → Prop} {x : α × β} {G : Hp} {vs : List V} (i : ∀ v, r x.1 G v → r' x.1 G v) (j : ∀ ws, q x.2 G ws → q' x.2 G ws) (h : cc r q x G vs) : cc r' q' x G vs :=
  let ⟨v, ws, e, h1, h2⟩ := h
  ⟨v, ws, e, i v h1, j ws h2⟩
theorem c0_imp {α : Type} {r r' : α → Hp → V → Prop} {x : α} {G : Hp} {vs : List V} (i : ∀ v, r x G v → r' x G v) (h : c0 r x G vs) : c0 r' x G vs :=
  let ⟨v, e, h1⟩ := h
  ⟨v, e, i v h1⟩
section
variable {ε S L R : Type} {X : Cx} {W : ε → L2.St → Hp → Prop} {σ : L2.St} {G : Hp} {cs : Cells} {Φ : Po ε S L R} {m : Out ε S L R} {rest : List Stmt} {e : Expr} {pos p : Pos} {P : Hp → V → Prop}
/-- x = e, and what is new in it is told as cells -/
theorem b_setT (i : Nat) {x : Str} (hN : X.N.Nodup) (he : D X e σ G cs P) (k : ∀ v G1, Same G G1 → P G1 v → ∃ G2 cs2, Same G G2 ∧ (∀ H, Desc G1 cs H → Desc G2 cs2 H) ∧ B X W rest (σ.set i (some v)) G2 cs2 Φ m) (hi : X.N[i]? = some x := by rfl) (hx : Loc X.env.scope x := by first | exact Or.inl rfl | exact Or.inr rfl)
    (hs : swapsWith e (some (.Name x p)) pos.line X.env = pure false := by rfl) (hf : X.fn x = true ∨ X.env.scope.names.lookup x = some .local := by first | exact .inl rfl | exact .inr rfl) : B X W (.Assign [.Name x p] e pos :: rest) σ G cs Φ m :=
  b_cons (ps_set hN hi hx (sE X e) hs hf) fun H d E w => he G H (Same.refl _) d _ fun G2 H2 v s2 d2 hv => by
    obtain ⟨G3, cs3, s3, hd, hb⟩ := k v G2 s2 hv
    exact hb H2 (hd H2 d2) E (w.up s3)
end
section
variable {ε S L R : Type} {X : Cx} {W : ε → L2.St → Hp → Prop} {σ : L2.St} {G : Hp} {cs : Cells} {Φ : Po ε S L R} {m : Out ε S L R} {rest : List Stmt}
/-- as b_freeze; what is frozen was new -/
theorem b_freezeF (k : Nat) {l : Addr} {u : HO} (hk : cs[k]? = some (l, u)) (h : Same G (upd G l u) → (upd G l u) l = some u → G l = none → B X W rest σ (upd G l u) (cs.eraseIdx k) Φ m) : B X W rest σ G cs Φ m := fun H d E w => by
  obtain ⟨f1, f2⟩ := (d.perm (perm_at hk)).freeze
  exact h f1 upd_same (d.cell _ (List.mem_of_getElem? hk)).2 H f2 E (w.up f1)
end
section
variable {X : Cx} {σ : L2.St} {G : Hp} {cs : Cells} {e : Expr}
theorem view {G1 : Hp} {cs : Cells} {l : Addr} {us : List V} {H : Hp} {k : Nat} (hk : cs[k]? = some (l, .lst us)) (d : Desc G1 cs H) : Same G1 (upd G1 l (.lst us)) ∧ Desc (upd G1 l (.lst us)) (cs.eraseIdx k) H ∧ ∀ G2 H2, Same (upd G1 l (.lst us)) G2 → Desc G2 (cs.eraseIdx k) H2 → Desc G1 cs H2 := by
  have pm := perm_at hk
  obtain ⟨f1, f2⟩ := (d.perm pm).freeze
  refine ⟨f1, f2, fun G2 H2 s2 d2 => ⟨fun a o q => d2.same _ _ (s2 _ _ (f1 _ _ q)), d.nd, fun c hc => ⟨?_, (d.cell c hc).2⟩⟩⟩
  rcases List.mem_cons.mp (pm.mem_iff.mp hc) with q | q
  · subst q
    exact d2.same _ _ (s2 _ _ upd_same)
  · exact (d2.cell c q).1
/-- a test, with a cell seen as frozen data -/
theorem t_view (k : Nat) {l : Addr} {us : List V} {b : Bool} (hk : cs[k]? = some (l, .lst us)) (h : Same G (upd G l (.lst us)) → (upd G l (.lst us)) l = some (.lst us) → T X e σ (upd G l (.lst us)) (cs.eraseIdx k) b) : T X e σ G cs b := fun G1 H s d Q q => by
  obtain ⟨f1, f2, f3⟩ := view hk d
  have hn : G l = none := none_of s (d.cell _ (List.mem_of_getElem? hk)).2
  have s0 : Same (upd G l (.lst us)) (upd G1 l (.lst us)) := fun a o e => by
    by_cases z : a = l
    · subst z; rw [upd_same] at e; rw [upd_same]; exact e
    · rw [upd_ne z] at e; rw [upd_ne z]; exact s a o e
  have s1 : Same G (upd G l (.lst us)) := fun a o e => by
    have ne : a ≠ l := fun z => by rw [z, hn] at e; cases e
    rw [upd_ne ne]; exact e
  exact h s1 upd_same _ H s0 f2 Q fun G2 H2 s2 d2 => q G1 H2 (Same.refl _) (f3 G2 H2 s2 d2)
/-- the place of a tuple that holds a cell -/
theorem d_ixV {a b : Expr} {pos : Pos} {t : Addr} {vs : List V} {n : Nat} {v : V} (ha : D X a σ G cs (rV (.ref t))) (hs : SqT X.K G t vs) (hb : D X b σ G cs (rI (n : Int))) (hv : vs[n]? = some v := by rfl) (hp : PlainIx b := by exact fun _ _ => rfl) : D X (.Subscript a b pos) σ G cs (rV v) :=
  d_by (pe_ix ix_tup (sE X a) (sE X b) hp) fun G1 H s d Q q => ha G1 H s d _ fun G2 H2 u s2 d2 hu => hb G2 H2 (s.trans s2) d2 _ fun G3 H3 y s3 d3 hy =>
    ⟨t, vs, (n : Int), v, hu, hy, seqT ((s.trans s2).trans (s3.trans d3.same)) hs, atI_nat hv, q G3 H3 v (s2.trans s3) d3 rfl⟩
end
end J

namespace Ck38
open PySem L2 PyProof.Rows J
abbrev Pay := (List Nat) × Int × Int
/-- a payment's key is short and of plain signs -/
def PayOk (n : Nat) (p : Pay) : Prop := p.1.length ≤ n ∧ ∀ c ∈ p.1, c < 128
def PaysOk (n : Nat) (ps : List Pay) : Prop := ∀ p ∈ ps, PayOk n p
theorem PayOk.up {n m : Nat} {p : Pay} (h : PayOk n p) (hm : n ≤ m) : PayOk m p := ⟨Nat.le_trans h.1 hm, h.2⟩
theorem PaysOk.up {n m : Nat} {p : List Pay} (h : PaysOk n p) (hm : n ≤ m) : PaysOk m p := fun q hq => (h q hq).up hm
theorem PaysOk.snoc {n : Nat} {ps : List Pay} {p : Pay} (h : PaysOk n ps) (hp : PayOk n p) : PaysOk n (ps ++ [p]) := fun q hq => by
  rcases List.mem_append.mp hq with h1 | h1
  · exact h q h1
  · rw [List.mem_singleton.mp h1]
    exact hp
theorem PaysOk.nil {n : Nat} : PaysOk n [] := fun q hq => nomatch hq
/-- places of a list -/
def In {α : Type} (xs : List α) (ps : List Int) : Prop := ∀ p ∈ ps, 0 ≤ p ∧ p < (xs.length : Int)
theorem In.rng {α : Type} {xs : List α} : In xs (J.rng 0 (xs.length : Int)) := fun p hp => rng_mem.mp hp
theorem In.nil {α : Type} {xs : List α} : In xs [] := fun p hp => nomatch hp
theorem In.snoc {α : Type} {xs : List α} {ps : List Int} {p : Int} (h : In xs ps) (hp : 0 ≤ p ∧ p < (xs.length : Int)) : In xs (ps ++ [p]) := fun q hq => by
  rcases List.mem_append.mp hq with h1 | h1
  · exact h q h1
  · rw [List.mem_singleton.mp h1]
    exact hp
theorem In.erase {α : Type} {xs : List α} {ps : List Int} {p : Int} (h : In xs ps) : In xs (ps.erase p) := fun q hq => h q (List.mem_of_mem_erase hq)
theorem oget_mem {α : Type} [Inhabited α] {o : Option α} {l : List α} (h : o.isNone = false) (hq : ∀ q, o = some q → q ∈ l) : oGet o ∈ l := by
  cases o with
  | none => cases h
  | some a => exact hq a rfl
/-! what match answers: two lists that are new, and not the same -/
abbrev rPr (K : PySem.W.Frag) : (Int × Int) → Hp → V → Prop := rT K (cc rI (c0 rI))
def rMt (K : PySem.W.Frag) (G0 : Hp) (o : List (Int × Int) × List Int × List Int) : Hp → V → Prop := fun G v => ∃ (t l0 : Addr) (u0 : List V) (l1 : Addr) (u1 : List V) (v2 : V), v = .ref t ∧ SqT K G t [.ref l0, .ref l1, v2] ∧ G l0 = some (.lst u0) ∧ G0 l0 = none ∧ Rs (rPr K) G o.1 u0 ∧ G l1 = some (.lst u1) ∧ G0 l1 = none ∧ Rs rI G o.2.1 u1 ∧ l0 ≠ l1 ∧ rL K rI o.2.2 G v2
theorem rMt_rep {K : PySem.W.Frag} {G0 G : Hp} {o : List (Int × Int) × List Int × List Int} {v : V} (h : rMt K G0 o G v) : rT K (cc (rL K (rPr K)) (cc (rL K rI) (c0 (rL K rI)))) o G v := by
  obtain ⟨t, l0, u0, l1, u1, v2, rfl, ht, h1, _, h2, h3, _, h4, _, h5⟩ := h
  exact ⟨t, _, rfl, ht, _, _, rfl, ⟨l0, u0, rfl, SqL.of h1, h2⟩, _, _, rfl, ⟨l1, u1, rfl, SqL.of h3, h4⟩, _, rfl, h5⟩
def rLA (G0 : Hp) (l : Addr) (u : List V) {α : Type} (r : α → Hp → V → Prop) (xs : List α) : Hp → V → Prop := fun G v => v = .ref l ∧ G l = some (.lst u) ∧ G0 l = none ∧ Rs r G xs u
instance {G0 : Hp} {l : Addr} {u : List V} {α : Type} {r : α → Hp → V → Prop} [∀ x, Mono (r x)] {xs : List α} : Mono (rLA G0 l u r xs) := ⟨fun s ⟨e, h1, h2, h3⟩ => ⟨e, s _ _ h1, h2, h3.mono s⟩⟩
theorem rMt_of {K : PySem.W.Frag} {G0 G : Hp} {l0 l1 : Addr} {u0 u1 : List V} {o : List (Int × Int) × List Int × List Int} {v : V} (ne : l0 ≠ l1) (h : rT K (cc (rLA G0 l0 u0 (rPr K)) (cc (rLA G0 l1 u1 rI) (c0 (rL K rI)))) o G v) : rMt K G0 o G v := by
  obtain ⟨t, _, rfl, ht, _, _, rfl, ⟨rfl, a1, a2, a3⟩, _, _, rfl, ⟨rfl, b1, b2, b3⟩, v2, rfl, h5⟩ := h
  exact ⟨t, l0, u0, l1, u1, v2, rfl, ht, a1, a2, a3, b1, b2, b3, ne, h5⟩
theorem ne_by {G : Hp} {l0 l1 : Addr} {u : List V} (h0 : G l0 = none) (h1 : G l1 = some (.lst u)) : l0 ≠ l1 := fun q => by
  rw [q, h1] at h0
  cases h0
theorem same_back {G : Hp} {l0 l1 : Addr} {u0 u1 : List V} (h0 : G l0 = some (.lst u0)) (h1 : G l1 = some (.lst u1)) (ne : l0 ≠ l1) : Same G (upd (upd (del (del G l0) l1) l1 (.lst u1)) l0 (.lst u0)) := fun a o e => by
  by_cases q : a = l0
  · subst q
    rw [upd_same, ← h0]
    exact e
  · rw [upd_ne q]
    by_cases q1 : a = l1
    · subst q1
      rw [upd_same, ← h1]
      exact e
    · rw [upd_ne q1, del_ne q1, del_ne q]
      exact e
theorem thaw2 {G G1 : Hp} {l0 l1 : Addr} {u0 u1 : List V} (s : Same G G1) (a0 : G l0 = none) (a1 : G1 l0 = some (.lst u0)) (b0 : G l1 = none) (b1 : G1 l1 = some (.lst u1)) (ne : l0 ≠ l1) :
    Same G (del (del G1 l0) l1) ∧ ∀ (cs : Cells) (H : Hp), Desc G1 cs H → Desc (del (del G1 l0) l1) ((l1, .lst u1) :: (l0, .lst u0) :: cs) H := by
  obtain ⟨s1, d1⟩ := thaw s a0 a1
  obtain ⟨s2, d2⟩ := thaw s1 b0 (by rw [del_ne ne.symm]; exact b1)
  exact ⟨s2, fun cs H d => d2 _ H (d1 cs H d)⟩
theorem sqT_del2 {K : PySem.W.Frag} {G : Hp} {l0 l1 t : Addr} {u0 u1 vs : List V} (h0 : G l0 = some (.lst u0)) (h1 : G l1 = some (.lst u1)) (ne : l0 ≠ l1) (ht : SqT K G t vs) : SqT K (del (del G l0) l1) t vs :=
  sqT_del (by rw [del_ne ne.symm]; exact h1) (sqT_del h0 ht)
end Ck38

set_option synthInstance.maxSize 10000
namespace Ck38
open PySem L2 PyProof.Rows J
def nm_ : _root_.Fin 1 → Str := fun i => match i with
  | 0 => "BadValue"
def b_law_source (cell_here_ : Int) (k_ : Int) : Out Empty (List Int) Empty (List Int) :=
  if (decide (1000000000000000000 ≤ cell_here_)) = true then (.rt [(cell_here_ - 1000000000000000000), (k_ + 1)]) else
  .rt [0, ((((cell_here_ * 7919) + (k_ * 104729)) + 1) % 2147483647)]

def m_law_source (cell_here_ : Int) (k_ : Int) : (List Int) := (b_law_source cell_here_ k_).valM

def pre_law_source (K : PySem.W.Frag) : (Int × Int) → Hp → Cells → List V → Prop := fun i G mc vs => ∃ v0_ : V, ∃ v1_ : V, vs = [v0_, v1_] ∧ mc = [] ∧ rI i.1 G v0_ ∧ rI i.2 G v1_

def post_law_source (K : PySem.W.Frag) : (Int × Int) → List V → (List Int) → Hp → Cells → V → Prop := fun i vs o G mc v => ∃ v0_ : V, ∃ v1_ : V, ∃ ar_ : Addr, ∃ ur_ : List V, vs = [v0_, v1_] ∧ mc = [(ar_, HO.lst ur_)] ∧ v = .ref ar_ ∧ Rs rI G o ur_

abbrev sp_law_source (K : PySem.W.Frag) : Sp := SpM (pre_law_source K) (post_law_source K) fun i : (Int × Int) => m_law_source i.1 i.2

def b_same_key (one_ : ((List Nat) × Int × Int)) (other_ : ((List Nat) × Int × Int)) (window_ : Int) : Out Empty Unit Empty Bool :=
  .rt (((decide (one_.1 = other_.1))) && ((decide (one_.2.2 = other_.2.2))))

def m_same_key (one_ : ((List Nat) × Int × Int)) (other_ : ((List Nat) × Int × Int)) (window_ : Int) : Bool := (b_same_key one_ other_ window_).val

def pre_same_key (K : PySem.W.Frag) : (((List Nat) × Int × Int) × ((List Nat) × Int × Int) × Int) → Hp → List V → Prop := fun i G vs => ∃ v0_ v1_ v2_ : V, vs = [v0_, v1_, v2_] ∧ (rT K (cc rS (cc rI (c0 rI)))) i.1 G v0_ ∧ (rT K (cc rS (cc rI (c0 rI)))) i.2.1 G v1_ ∧ rI i.2.2 G v2_

abbrev sp_same_key (K : PySem.W.Frag) : Sp := SpP (pre_same_key K) (fun _ o => rB o) fun i : (((List Nat) × Int × Int) × ((List Nat) × Int × Int) × Int) => m_same_key i.1 i.2.1 i.2.2

def b_near_day (one_ : ((List Nat) × Int × Int)) (other_ : ((List Nat) × Int × Int)) (window_ : Int) : Out Empty Unit Empty Bool :=
  .rt (((decide (one_.2.2 = other_.2.2))) && ((decide ((if (one_.2.1 - other_.2.1) < 0 then -(one_.2.1 - other_.2.1) else (one_.2.1 - other_.2.1)) ≤ window_))))

def m_near_day (one_ : ((List Nat) × Int × Int)) (other_ : ((List Nat) × Int × Int)) (window_ : Int) : Bool := (b_near_day one_ other_ window_).val

def pre_near_day (K : PySem.W.Frag) : (((List Nat) × Int × Int) × ((List Nat) × Int × Int) × Int) → Hp → List V → Prop := fun i G vs => ∃ v0_ v1_ v2_ : V, vs = [v0_, v1_, v2_] ∧ (rT K (cc rS (cc rI (c0 rI)))) i.1 G v0_ ∧ (rT K (cc rS (cc rI (c0 rI)))) i.2.1 G v1_ ∧ rI i.2.2 G v2_

abbrev sp_near_day (K : PySem.W.Frag) : Sp := SpP (pre_near_day K) (fun _ o => rB o) fun i : (((List Nat) × Int × Int) × ((List Nat) × Int × Int) × Int) => m_near_day i.1 i.2.1 i.2.2

def st_first_partner_1 (payment_ : ((List Nat) × Int × Int)) (theirs_ : (List ((List Nat) × Int × Int))) (window_ : Int) (fits_ : Bool) (z1 : Unit) (x5 : Int) : Out Empty Unit Unit (Option Int) :=
  if ((if fits_ = true then (m_near_day payment_ (ixg theirs_ x5) window_) else (m_same_key payment_ (ixg theirs_ x5) window_))) = true then (.rt (some x5)) else
    .nx ()

def b_first_partner (payment_ : ((List Nat) × Int × Int)) (theirs_ : (List ((List Nat) × Int × Int))) (left_ : (List Int)) (window_ : Int) (fits_ : Bool) : Out Empty Unit Empty (Option Int) :=
  (forL (st_first_partner_1 payment_ theirs_ window_ fits_) () left_).bind fun z1 =>
  .rt none

def m_first_partner (payment_ : ((List Nat) × Int × Int)) (theirs_ : (List ((List Nat) × Int × Int))) (left_ : (List Int)) (window_ : Int) (fits_ : Bool) : (Option Int) := (b_first_partner payment_ theirs_ left_ window_ fits_).val

def pre_first_partner (K : PySem.W.Frag) (mg : Str → Option Value) : (((List Nat) × Int × Int) × (List ((List Nat) × Int × Int)) × (List Int) × Int × Bool) → Hp → Cells → List V → Prop := fun i G mc vs => ∃ v0_ : V, ∃ v1_ : V, ∃ v3_ : V, ∃ v4_ : V, ∃ a2_ : Addr, ∃ u2_ : List V, vs = [v0_, v1_, .ref a2_, v3_, v4_] ∧ mc = [(a2_, HO.lst u2_)] ∧ Rs rI G i.2.2.1 u2_ ∧ (rT K (cc rS (cc rI (c0 rI)))) i.1 G v0_ ∧ (rL K (rT K (cc rS (cc rI (c0 rI))))) i.2.1 G v1_ ∧ rI i.2.2.2.1 G v3_ ∧ (rFn mg "same_key" "near_day") i.2.2.2.2 G v4_ ∧ (∀ p ∈ i.2.2.1, 0 ≤ p ∧ p < (i.2.1.length : Int))

abbrev sp_first_partner (K : PySem.W.Frag) (mg : Str → Option Value) : Sp := SpR (pre_first_partner K mg) (fun _ o => (rO rI) o) fun i : (((List Nat) × Int × Int) × (List ((List Nat) × Int × Int)) × (List Int) × Int × Bool) => m_first_partner i.1 i.2.1 i.2.2.1 i.2.2.2.1 i.2.2.2.2

def st_match_2 (ours_ : (List ((List Nat) × Int × Int))) (theirs_ : (List ((List Nat) × Int × Int))) (window_ : Int) (x30 : Bool) (z39 : ((List (Int × Int)) × (List Int) × (List Int))) (x50 : Int) : Out (_root_.Fin 1) ((List (Int × Int)) × (List Int) × (List Int)) ((List (Int × Int)) × (List Int) × (List Int)) ((List (Int × Int)) × (List Int) × (List Int)) :=
  letV (m_first_partner (ixg ours_ x50) theirs_ z39.2.1 window_ x30) fun partner_54 =>
        if (partner_54.isNone) = true then (
          letV (z39.2.2 ++ [x50]) fun still_left_63 =>
          .nx (z39.1, z39.2.1, still_left_63)) else (
          letV (z39.1 ++ [(x50, (oGet partner_54))]) fun pairs_68 =>
          letV (z39.2.1.erase (oGet partner_54)) fun their_left_73 =>
          .nx (pairs_68, their_left_73, z39.2.2))

def st_match_1 (ours_ : (List ((List Nat) × Int × Int))) (theirs_ : (List ((List Nat) × Int × Int))) (window_ : Int) (z17 : ((List (Int × Int)) × (List Int) × (List Int))) (x30 : Bool) : Out (_root_.Fin 1) ((List (Int × Int)) × (List Int) × (List Int)) ((List (Int × Int)) × (List Int) × (List Int)) ((List (Int × Int)) × (List Int) × (List Int)) :=
  letV ([] : (List Int)) fun still_left_34 =>
      (forL (st_match_2 ours_ theirs_ window_ x30) (z17.1, z17.2.2, still_left_34) z17.2.1).bind fun z39 =>
      letV z39.2.2 fun our_left_78 =>
        .nx (z39.1, our_left_78, z39.2.1)

def b_match (ours_ : (List ((List Nat) × Int × Int))) (theirs_ : (List ((List Nat) × Int × Int))) (window_ : Int) : Out (_root_.Fin 1) Unit Empty ((List (Int × Int)) × (List Int) × (List Int)) :=
  if (decide (window_ < 0)) = true then (.er 0) else
  letV ([] : (List (Int × Int))) fun pairs_3 =>
    letV (rng 0 (ours_.length : Int)) fun our_left_8 =>
    letV (rng 0 (theirs_.length : Int)) fun their_left_12 =>
    (forL (st_match_1 ours_ theirs_ window_) (pairs_3, our_left_8, their_left_12) [(false, true).1, (false, true).2]).bind fun z17 =>
    .rt (z17.1, z17.2.1, z17.2.2)

def m_match (ours_ : (List ((List Nat) × Int × Int))) (theirs_ : (List ((List Nat) × Int × Int))) (window_ : Int) : Except (_root_.Fin 1) ((List (Int × Int)) × (List Int) × (List Int)) := (b_match ours_ theirs_ window_).res

def pre_match (K : PySem.W.Frag) : (((List ((List Nat) × Int × Int)) × (List ((List Nat) × Int × Int)) × Int) × Hp) → Hp → List V → Prop := fun i G vs => ∃ v0_ v1_ v2_ : V, vs = [v0_, v1_, v2_] ∧ (rL K (rT K (cc rS (cc rI (c0 rI))))) i.1.1 G v0_ ∧ (rL K (rT K (cc rS (cc rI (c0 rI))))) i.1.2.1 G v1_ ∧ rI i.1.2.2 G v2_ ∧ Same i.2 G ∧ (i.1.1.length ≤ 1000 ∧ i.1.2.1.length ≤ 1000)

abbrev sp_match (K : PySem.W.Frag) (adr : _root_.Fin 1 → Addr) : Sp := SpE (cE adr) (pre_match K) (fun i o => rMt K i.2 o) fun i : (((List ((List Nat) × Int × Int)) × (List ((List Nat) × Int × Int)) × Int) × Hp) => m_match i.1.1 i.1.2.1 i.1.2.2

def b_law_cell (script_ : (List Int)) (k_ : Int) : Out Empty Unit Empty Int :=
  if (decide (k_ < (script_.length : Int))) = true then (.rt (ixg script_ k_)) else
  .rt 0

def m_law_cell (script_ : (List Int)) (k_ : Int) : Int := (b_law_cell script_ k_).val

def pre_law_cell (K : PySem.W.Frag) : ((List Int) × Int) → Hp → List V → Prop := fun i G vs => ∃ v0_ v1_ : V, vs = [v0_, v1_] ∧ (rL K rI) i.1 G v0_ ∧ rI i.2 G v1_ ∧ (0 ≤ i.2)

abbrev sp_law_cell (K : PySem.W.Frag) : Sp := SpP (pre_law_cell K) (fun _ o => rI o) fun i : ((List Int) × Int) => m_law_cell i.1 i.2

def b_law_pick (source_here_ : (List Int)) (many_ : Int) : Out Empty (Int × (List Int)) Empty (Int × (List Int)) :=
  if (decide (1 < (ixg source_here_ 0))) = true then (letV ((ixg source_here_ 0) % many_) fun picked_3 =>
    letV (putL source_here_ 0 ((ixg source_here_ 0) / many_)) fun source_here_10 =>
    .rt (picked_3, source_here_10)) else
  letV (putL source_here_ 1 ((((ixg source_here_ 1) * 48271) + 12345) % 2147483647)) fun source_here_16 =>
    letV (((((ixg source_here_16 1) * 69621) + ((ixg source_here_16 1) / 127)) + 7) % 2147483629) fun mixed_18 =>
    .rt (((mixed_18 / 16) % many_), source_here_16)

def m_law_pick (source_here_ : (List Int)) (many_ : Int) : (Int × (List Int)) := (b_law_pick source_here_ many_).valM

def pre_law_pick (K : PySem.W.Frag) : ((List Int) × Int) → Hp → Cells → List V → Prop := fun i G mc vs => ∃ v1_ : V, ∃ a0_ : Addr, ∃ u0_ : List V, vs = [.ref a0_, v1_] ∧ mc = [(a0_, HO.lst u0_)] ∧ Rs rI G i.1 u0_ ∧ rI i.2 G v1_ ∧ (i.1.length = 2 ∧ 0 < i.2 ∧ i.2 ≤ 1000000000000000)

def post_law_pick (K : PySem.W.Frag) : ((List Int) × Int) → List V → (Int × (List Int)) → Hp → Cells → V → Prop := fun i vs o G mc v => ∃ v1_ : V, ∃ a0_ : Addr, ∃ u0_ : List V, vs = [.ref a0_, v1_] ∧ mc = [(a0_, HO.lst u0_)] ∧ Rs rI G o.2 u0_ ∧ rI o.1 G v

abbrev sp_law_pick (K : PySem.W.Frag) : Sp := SpM (pre_law_pick K) (post_law_pick K) fun i : ((List Int) × Int) => m_law_pick i.1 i.2

def st_law_matched_3 (ours_ : (List ((List Nat) × Int × Int))) (theirs_ : (List ((List Nat) × Int × Int))) (window_ : Int) (x40 : Int) (x59 : Int) (z63 : ((List (Int × Int)) × (List (Option Int)) × (List Bool))) (x77 : Int) : Out Empty ((List (Int × Int)) × (List (Option Int)) × (List Bool)) ((List (Int × Int)) × (List (Option Int)) × (List Bool)) ((List (Int × Int)) × (List Int) × (List Int)) :=
  if (((ixg z63.2.1 x59).isNone) && ((!((ixg z63.2.2 x77))) && (decide (((ixg ours_ x59).2.2) = ((ixg theirs_ x77).2.2))))) = true then (
          letV (decide (((ixg ours_ x59).1) = ((ixg theirs_ x77).1))) fun fits_85 =>
          (if (decide (x40 = 1)) = true then (
            letV (decide ((if ((ixg ours_ x59).2.1 - (ixg theirs_ x77).2.1) < 0 then -((ixg ours_ x59).2.1 - (ixg theirs_ x77).2.1) else ((ixg ours_ x59).2.1 - (ixg theirs_ x77).2.1)) ≤ window_)) fun fits_95 =>
            .nx (fits_95)) else (
            .nx (fits_85)) : Out Empty (Bool) ((List (Int × Int)) × (List (Option Int)) × (List Bool)) ((List (Int × Int)) × (List Int) × (List Int))).bind fun z91 =>
          if (z91) = true then (
              letV (putL z63.2.1 x59 (some x77)) fun mine_104 =>
              letV (putL z63.2.2 x77 true) fun used_109 =>
              letV (z63.1 ++ [(x59, x77)]) fun pairs_114 =>
              .nx (pairs_114, mine_104, used_109)) else (
              .nx (z63.1, z63.2.1, z63.2.2))) else (
          .nx (z63.1, z63.2.1, z63.2.2))

def st_law_matched_2 (ours_ : (List ((List Nat) × Int × Int))) (theirs_ : (List ((List Nat) × Int × Int))) (window_ : Int) (x40 : Int) (z44 : ((List (Int × Int)) × (List (Option Int)) × (List Bool))) (x59 : Int) : Out Empty ((List (Int × Int)) × (List (Option Int)) × (List Bool)) ((List (Int × Int)) × (List (Option Int)) × (List Bool)) ((List (Int × Int)) × (List Int) × (List Int)) :=
  (forL (st_law_matched_3 ours_ theirs_ window_ x40 x59) (z44.1, z44.2.1, z44.2.2) (rng 0 (theirs_.length : Int))).bind fun z63 =>
      .nx (z63.1, z63.2.1, z63.2.2)

def st_law_matched_1 (ours_ : (List ((List Nat) × Int × Int))) (theirs_ : (List ((List Nat) × Int × Int))) (window_ : Int) (z24 : ((List (Int × Int)) × (List (Option Int)) × (List Bool))) (x40 : Int) : Out Empty ((List (Int × Int)) × (List (Option Int)) × (List Bool)) ((List (Int × Int)) × (List (Option Int)) × (List Bool)) ((List (Int × Int)) × (List Int) × (List Int)) :=
  (forL (st_law_matched_2 ours_ theirs_ window_ x40) (z24.1, z24.2.1, z24.2.2) (rng 0 (ours_.length : Int))).bind fun z44 =>
    .nx (z44.1, z44.2.1, z44.2.2)

def b_law_matched (ours_ : (List ((List Nat) × Int × Int))) (theirs_ : (List ((List Nat) × Int × Int))) (window_ : Int) : Out Empty Unit Empty ((List (Int × Int)) × (List Int) × (List Int)) :=
  letV ([] : (List (Int × Int))) fun pairs_1 =>
  letV (ours_.map (fun one_ : ((List Nat) × Int × Int) => none)) fun mine_10 =>
  letV (theirs_.map (fun other_ : ((List Nat) × Int × Int) => false)) fun used_19 =>
  (forL (st_law_matched_1 ours_ theirs_ window_) (pairs_1, mine_10, used_19) (rng 0 2)).bind fun z24 =>
  letV (((rng 0 (ours_.length : Int)).filter (fun k_ : Int => (ixg z24.2.1 k_).isNone)).map (fun k_ : Int => k_)) fun left_137 =>
    .rt (z24.1, left_137, (((rng 0 (theirs_.length : Int)).filter (fun j_ : Int => !((ixg z24.2.2 j_)))).map (fun j_ : Int => j_)))

def m_law_matched (ours_ : (List ((List Nat) × Int × Int))) (theirs_ : (List ((List Nat) × Int × Int))) (window_ : Int) : ((List (Int × Int)) × (List Int) × (List Int)) := (b_law_matched ours_ theirs_ window_).val

def pre_law_matched (K : PySem.W.Frag) : ((List ((List Nat) × Int × Int)) × (List ((List Nat) × Int × Int)) × Int) → Hp → List V → Prop := fun i G vs => ∃ v0_ v1_ v2_ : V, vs = [v0_, v1_, v2_] ∧ (rL K (rT K (cc rS (cc rI (c0 rI))))) i.1 G v0_ ∧ (rL K (rT K (cc rS (cc rI (c0 rI))))) i.2.1 G v1_ ∧ rI i.2.2 G v2_ ∧ (i.1.length ≤ 1000 ∧ i.2.1.length ≤ 1000)

abbrev sp_law_matched (K : PySem.W.Frag) : Sp := SpP (pre_law_matched K) (fun _ o => (rT K (cc (rL K (rT K (cc rI (c0 rI)))) (cc (rL K rI) (c0 (rL K rI))))) o) fun i : ((List ((List Nat) × Int × Int)) × (List ((List Nat) × Int × Int)) × Int) => m_law_matched i.1 i.2.1 i.2.2

def b_law_payment (source_here_ : (List Int)) (others_ : (List ((List Nat) × Int × Int))) : Out Empty (((List Nat) × Int × Int) × (List Int)) Empty (((List Nat) × Int × Int) × (List Int)) :=
  letV (if (decide (0 < (others_.length : Int))) = true then (letV (m_law_pick source_here_ 2) fun r13 => (decide (r13.1 = 0), r13.2)) else (false, source_here_)) fun t3 =>
  if (t3.1) = true then (letV (m_law_pick t3.2 (others_.length : Int)) fun r39 =>
    letV (ixg others_ r39.1) fun like_53 =>
    letV (m_law_pick r39.2 4) fun r60 =>
    letV r60.1 fun which_71 =>
    if (decide (which_71 = 0)) = true then (.rt (like_53, r60.2)) else
    if (decide (which_71 = 1)) = true then (letV (m_law_pick r60.2 9) fun r89 =>
        .rt ((like_53.1, (like_53.2.1 + r89.1), like_53.2.2), r89.2)) else
      if (decide (which_71 = 2)) = true then (letV (m_law_pick r60.2 9) fun r123 =>
          .rt (((like_53.1 ++ [120]), (like_53.2.1 - r123.1), like_53.2.2), r123.2)) else
        .rt ((like_53.1, like_53.2.1, (0 - like_53.2.2)), r60.2)) else
  letV (m_law_pick t3.2 5) fun r153 =>
    letV (ixg [[97], [98], [97, 98], ([] : List Nat), [122, 57, 32, 47]] r153.1) fun key_167 =>
    letV (m_law_pick r153.2 20) fun r174 =>
    letV (m_law_pick r174.2 36525) fun r190 =>
    letV (m_law_pick r190.2 2) fun r211 =>
    letV (ixg [r174.1, r190.1] r211.1) fun day_225 =>
    letV (m_law_pick r211.2 10) fun r235 =>
    letV (m_law_pick r235.2 2000000000) fun r256 =>
    letV (m_law_pick r256.2 2) fun r279 =>
    letV (ixg [(5 - r235.1), (1000000000 - r256.1)] r279.1) fun units_293 =>
    .rt ((key_167, day_225, units_293), r279.2)

def m_law_payment (source_here_ : (List Int)) (others_ : (List ((List Nat) × Int × Int))) : (((List Nat) × Int × Int) × (List Int)) := (b_law_payment source_here_ others_).valM

def pre_law_payment (K : PySem.W.Frag) : (((List Int) × (List ((List Nat) × Int × Int))) × Cells) → Hp → Cells → List V → Prop := fun i G mc vs => ∃ a0_ : Addr, ∃ u0_ : List V, ∃ a1_ : Addr, ∃ u1_ : List V, vs = [.ref a0_, .ref a1_] ∧ mc = (a0_, HO.lst u0_) :: i.2 ∧ i.2 = [(a1_, HO.lst u1_)] ∧ Rs rI G i.1.1 u0_ ∧ Rs (rT K (cc rS (cc rI (c0 rI)))) G i.1.2 u1_ ∧ (i.1.1.length = 2 ∧ PaysOk 1000 i.1.2 ∧ i.1.2.length ≤ 1000)

def post_law_payment (K : PySem.W.Frag) : (((List Int) × (List ((List Nat) × Int × Int))) × Cells) → List V → (((List Nat) × Int × Int) × (List Int)) → Hp → Cells → V → Prop := fun i vs o G mc v => ∃ a0_ : Addr, ∃ u0_ : List V, ∃ a1_ : Addr, vs = [.ref a0_, .ref a1_] ∧ mc = (a0_, HO.lst u0_) :: i.2 ∧ Rs rI G o.2 u0_ ∧ (rT K (cc rS (cc rI (c0 rI)))) o.1 G v

abbrev sp_law_payment (K : PySem.W.Frag) : Sp := SpM (pre_law_payment K) (post_law_payment K) fun i : (((List Int) × (List ((List Nat) × Int × Int))) × Cells) => m_law_payment i.1.1 i.1.2

def st_law_1 (script_ : (List Int)) (z11 : ((List ((List Nat) × Int × Int)) × (List ((List Nat) × Int × Int)))) (x24 : Int) : Out Empty ((List ((List Nat) × Int × Int)) × (List ((List Nat) × Int × Int))) ((List ((List Nat) × Int × Int)) × (List ((List Nat) × Int × Int))) Bool :=
  if ((decide (x24 < (script_.length : Int))) || (decide (x24 < 8))) = true then (
      letV (m_law_source (m_law_cell script_ x24) x24) fun r38 =>
      letV r38 fun source_here_48 =>
      letV (m_law_pick source_here_48 2) fun r57 =>
      if (decide (r57.1 = 0)) = true then (
        letV (m_law_payment r57.2 z11.2) fun r77 =>
        letV (z11.1 ++ [r77.1]) fun ours_88 =>
        .nx (ours_88, z11.2)) else (
        letV (m_law_payment r57.2 z11.1) fun r95 =>
        letV (z11.2 ++ [r95.1]) fun theirs_106 =>
        .nx (z11.1, theirs_106))) else (
      .nx (z11.1, z11.2))

def st_law_2 (z11 : ((List ((List Nat) × Int × Int)) × (List ((List Nat) × Int × Int)))) (z218 : Unit) (x224 : (Int × Int)) : Out Empty Unit Unit Bool :=
  if (!decide (((ixg z11.1 x224.1).1) = ((ixg z11.1 x224.2).1))) = true then (.rt false) else
            .nx ()

def b_law (script_ : (List Int)) : Out Empty Unit Empty Bool :=
  letV ([] : (List ((List Nat) × Int × Int))) fun ours_1 =>
  letV ([] : (List ((List Nat) × Int × Int))) fun theirs_6 =>
  (forL (st_law_1 script_) (ours_1, theirs_6) (rng 2 62)).bind fun z11 =>
  letV (m_law_source (m_law_cell script_ 0) 0) fun r123 =>
    letV r123 fun source_here_133 =>
    letV (m_law_pick source_here_133 41) fun r146 =>
    letV (m_law_pick r146.2 40000) fun r162 =>
    letV (m_law_pick r162.2 4) fun r183 =>
    letV (ixg [0, 1, r146.1, r162.1] r183.1) fun window_197 =>
    letV (okV (m_match z11.1 z11.2 window_197)) fun first_199 =>
    if (!decide (first_199 = (m_law_matched z11.1 z11.2 window_197))) = true then (.rt false) else
      if (!decide ((okV (m_match z11.2 z11.1 0)) = (m_law_matched z11.2 z11.1 0))) = true then (.rt false) else
      letV (okV (m_match z11.1 z11.1 window_197)) fun same_210 =>
        if ((!decide (same_210.2.1 = ([] : (List Int)))) || ((!decide (same_210.2.2 = ([] : (List Int)))) || (!decide ((same_210.1.length : Int) = (z11.1.length : Int))))) = true then (.rt false) else
        (forL (st_law_2 z11) () same_210.1).bind fun z218 =>
          .rt (decide ((okV (m_match z11.1 z11.2 window_197)) = (m_law_matched z11.1 z11.2 window_197)))

def m_law (script_ : (List Int)) : Bool := (b_law script_).val

def pre_law (K : PySem.W.Frag) : ((List Int)) → Hp → List V → Prop := fun i G vs => ∃ v0_ : V, vs = [v0_] ∧ (rL K rI) i G v0_ ∧ (i.length ≤ 63)

abbrev sp_law (K : PySem.W.Frag) : Sp := SpP (pre_law K) (fun _ o => rB o) fun i : ((List Int)) => m_law i
end Ck38

namespace Ck38
open PySem L2 PyProof.Rows J
theorem source_len {c k : Int} : (m_law_source c k).length = 2 := by
  unfold m_law_source b_law_source
  split <;> rfl
theorem pick_ok {s : List Int} {n : Int} (hl : s.length = 2) (hn : 0 < n) : (m_law_pick s n).2.length = 2 ∧ 0 ≤ (m_law_pick s n).1 ∧ (m_law_pick s n).1 < n := by
  unfold m_law_pick b_law_pick letV
  split
  · simp only [valM_rt, putL_len]
    exact ⟨hl, Int.emod_nonneg _ (by omega), Int.emod_lt_of_pos _ hn⟩
  · simp only [valM_rt, putL_len]
    exact ⟨hl, Int.emod_nonneg _ (by omega), Int.emod_lt_of_pos _ hn⟩
theorem key_ok (i : Int) (h0 : 0 ≤ i) (h1 : i < 5) (a b : Int) : PayOk 5 (ixg [[97], [98], [97, 98], ([] : List Nat), [122, 57, 32, 47]] i, a, b) := by
  have h : i = 0 ∨ i = 1 ∨ i = 2 ∨ i = 3 ∨ i = 4 := by omega
  rcases h with rfl | rfl | rfl | rfl | rfl
  · exact ⟨by show (1 : Nat) ≤ 5; decide, fun c hc => by have e := List.mem_singleton.mp (show c ∈ [97] from hc); omega⟩
  · exact ⟨by show (1 : Nat) ≤ 5; decide, fun c hc => by have e := List.mem_singleton.mp (show c ∈ [98] from hc); omega⟩
  · refine ⟨by show (2 : Nat) ≤ 5; decide, fun c hc => ?_⟩
    have e : c ∈ [97, 98] := hc
    simp only [List.mem_cons, List.not_mem_nil, or_false] at e
    omega
  · exact ⟨by show (0 : Nat) ≤ 5; decide, fun c hc => nomatch (show c ∈ ([] : List Nat) from hc)⟩
  · refine ⟨by show (4 : Nat) ≤ 5; decide, fun c hc => ?_⟩
    have e : c ∈ [122, 57, 32, 47] := hc
    simp only [List.mem_cons, List.not_mem_nil, or_false] at e
    omega
theorem first_ok {s : List Int} {n : Nat} {t : Bool × List Int} (hl : s.length = 2) (e : t = (if (decide (0 < (n : Int))) = true then (letV (m_law_pick s 2) fun r13 => (decide (r13.1 = 0), r13.2)) else (false, s))) : t.2.length = 2 ∧ (t.1 = true → 0 < (n : Int)) := by
  subst e
  refine ite_p (P := fun t : Bool × List Int => t.2.length = 2 ∧ (t.1 = true → 0 < (n : Int))) (fun hc => ?_) (fun hc => ?_)
  · exact ⟨(pick_ok hl (by decide)).1, fun _ => by simpa using hc⟩
  · exact ⟨hl, fun z => nomatch z⟩
def PayQ (n : Nat) (m : Out Empty (Pay × List Int) Empty (Pay × List Int)) : Prop := m.valM.2.length = 2 ∧ PayOk (n + 1) m.valM.1
theorem payment_ok {s : List Int} {o : List Pay} {n : Nat} (hl : s.length = 2) (ho : PaysOk n o) (hn : 5 ≤ n) : (m_law_payment s o).2.length = 2 ∧ PayOk (n + 1) (m_law_payment s o).1 := by
  show PayQ n (b_law_payment s o)
  unfold b_law_payment
  refine letV_p fun t ht => ?_
  have h2 := first_ok hl ht
  clear ht
  refine ite_p (fun hc => ?_) (fun hc => ?_)
  · refine letV_p fun r1 e1 => letV_p fun lk elk => letV_p fun r2 e2 => letV_p fun w ew => ?_
    obtain ⟨l1, a1, b1⟩ := pick_ok (n := (o.length : Int)) h2.1 (h2.2 hc)
    rw [← e1] at l1 a1 b1
    obtain ⟨l2, a2, b2⟩ := pick_ok (n := 4) l1 (by decide)
    rw [← e2] at l2 a2 b2
    have hp : PayOk n lk := by rw [elk]; exact ho _ (ixg_mem a1 b1)
    have l3 := (pick_ok (n := 9) l2 (by decide)).1
    refine ite_p (fun _ => ?_) (fun _ => ite_p (fun _ => ?_) (fun _ => ite_p (fun _ => ?_) (fun _ => ?_)))
    · exact ⟨l2, hp.up (by omega)⟩
    · exact ⟨l3, ⟨Nat.le_trans hp.1 (by omega), hp.2⟩⟩
    · refine ⟨l3, ⟨?_, fun c hc => ?_⟩⟩
      · show (lk.1 ++ [120]).length ≤ n + 1
        rw [List.length_append]
        have := hp.1
        show _ + 1 ≤ n + 1
        omega
      · rcases List.mem_append.mp hc with h | h
        · exact hp.2 c h
        · have := List.mem_singleton.mp h
          omega
    · exact ⟨l2, ⟨Nat.le_trans hp.1 (by omega), hp.2⟩⟩
  · refine letV_p fun r1 e1 => letV_p fun key ek => letV_p fun r2 e2 => letV_p fun r3 e3 => letV_p fun r4 e4 => letV_p fun day ed => letV_p fun r5 e5 => letV_p fun r6 e6 => letV_p fun r7 e7 => letV_p fun u eu => ?_
    obtain ⟨l1, a1, b1⟩ := pick_ok (n := 5) h2.1 (by decide)
    rw [← e1] at l1 a1 b1
    have l2 := (pick_ok (n := 20) l1 (by decide)).1
    rw [← e2] at l2
    have l3 := (pick_ok (n := 36525) l2 (by decide)).1
    rw [← e3] at l3
    have l4 := (pick_ok (n := 2) l3 (by decide)).1
    rw [← e4] at l4
    have l5 := (pick_ok (n := 10) l4 (by decide)).1
    rw [← e5] at l5
    have l6 := (pick_ok (n := 2000000000) l5 (by decide)).1
    rw [← e6] at l6
    have l7 := (pick_ok (n := 2) l6 (by decide)).1
    rw [← e7] at l7
    refine ⟨l7, ?_⟩
    show PayOk (n + 1) (key, day, u)
    rw [ek]
    exact (key_ok _ a1 b1 _ _).up (by omega)
/-- what a first partner is -/
theorem partner_is {pay : Pay} {th : List Pay} {w : Int} {f : Bool} : ∀ (left : List Int),
    (m_first_partner pay th left w f = none ∧ ∀ x ∈ left, (if f = true then m_near_day pay (ixg th x) w else m_same_key pay (ixg th x) w) = false) ∨
    ∃ q, q ∈ left ∧ m_first_partner pay th left w f = some q ∧ (if f = true then m_near_day pay (ixg th q) w else m_same_key pay (ixg th q) w) = true
  | [] => .inl ⟨rfl, fun x hx => nomatch hx⟩
  | x :: xs => by
    have e : m_first_partner pay th (x :: xs) w f = (if (if f = true then m_near_day pay (ixg th x) w else m_same_key pay (ixg th x) w) = true then some x else m_first_partner pay th xs w f) := by
      unfold m_first_partner b_first_partner
      rw [forL_cons]
      unfold st_first_partner_1
      by_cases h : (if f = true then m_near_day pay (ixg th x) w else m_same_key pay (ixg th x) w) = true
      · rw [if_pos h, if_pos h]
        try rfl
      · rw [if_neg h, if_neg h]
        try rfl
    by_cases h : (if f = true then m_near_day pay (ixg th x) w else m_same_key pay (ixg th x) w) = true
    · rw [e, if_pos h]
      exact .inr ⟨x, List.mem_cons_self, rfl, h⟩
    · rw [e, if_neg h]
      rcases partner_is xs with ⟨h1, h2⟩ | ⟨q, h1, h2, h3⟩
      · refine .inl ⟨h1, fun y hy => ?_⟩
        rcases List.mem_cons.mp hy with rfl | hy
        · exact Bool.eq_false_iff.mpr h
        · exact h2 y hy
      · exact .inr ⟨q, List.mem_cons_of_mem _ h1, h2, h3⟩
theorem partner_mem {pay : Pay} {th : List Pay} {left : List Int} {w : Int} {f : Bool} {q : Int} (h : m_first_partner pay th left w f = some q) : q ∈ left := by
  rcases partner_is left with ⟨h1, h2⟩ | ⟨q', h1, h2, h3⟩
  · rw [h1] at h
    cases h
  · rw [h2] at h
    cases h
    exact h1
theorem win_ok {a b i : Int} (ha : 0 ≤ a) (hb : 0 ≤ b) (h0 : 0 ≤ i) (h1 : i < 4) : 0 ≤ ixg [0, 1, a, b] i := by
  have h : i = 0 ∨ i = 1 ∨ i = 2 ∨ i = 3 := by omega
  rcases h with rfl | rfl | rfl | rfl
  · exact Int.le_refl 0
  · exact Int.zero_le_ofNat 1
  · exact ha
  · exact hb
/-! ### match -/
def Fit (o t : List Pay) (w : Int) (k : Bool) (a b : Int) : Bool := if k = true then m_near_day (ixg o a) (ixg t b) w else m_same_key (ixg o a) (ixg t b) w
structure Inner (o t : List Pay) (w : Int) (k : Bool) (P P' : List (Int × Int)) (T T' S S' xs : List Int) : Prop where
  p1 : (P'.map (·.1) ++ S').Perm (P.map (·.1) ++ S ++ xs)
  p2 : (P'.map (·.2) ++ T').Perm (P.map (·.2) ++ T)
  st : T'.Sublist T
  ss : S'.Sublist (S ++ xs)
  pr : ∀ p ∈ P', p ∈ P ∨ (p.1 ∈ xs ∧ p.2 ∈ T ∧ Fit o t w k p.1 p.2 = true)
  no : ∀ a ∈ S', a ∈ S ∨ ∀ b ∈ T', Fit o t w k a b = false
theorem inner_is {L : Type} (o t : List Pay) (w : Int) (k : Bool) : ∀ (xs : List Int) (P : List (Int × Int)) (T S : List Int),
    ∃ P' T' S', (forL (st_match_2 o t w k) (P, T, S) xs : Out (_root_.Fin 1) _ L _) = .nx (P', T', S') ∧ Inner o t w k P P' T T' S S' xs
  | [], P, T, S => ⟨P, T, S, rfl, ⟨by rw [List.append_nil], List.Perm.refl _, List.Sublist.refl _, by rw [List.append_nil]; exact List.Sublist.refl _, fun p hp => .inl hp, fun a ha => .inl ha⟩⟩
  | x :: xs, P, T, S => by
    rw [forL_cons]
    rcases partner_is (pay := ixg o x) (th := t) (w := w) (f := k) T with ⟨h1, h2⟩ | ⟨q, h1, h2, h3⟩
    · have e : st_match_2 o t w k (P, T, S) x = .nx (P, T, S ++ [x]) := by
        unfold st_match_2 letV
        dsimp only
        rw [h1]
        rfl
      rw [e]
      obtain ⟨P', T', S', e', hI⟩ := inner_is (L := L) o t w k xs P T (S ++ [x])
      refine ⟨P', T', S', e', ⟨by rw [show P.map (·.1) ++ S ++ x :: xs = P.map (·.1) ++ (S ++ [x]) ++ xs by simp]; exact hI.p1, hI.p2, hI.st, by rw [show S ++ x :: xs = S ++ [x] ++ xs by simp]; exact hI.ss, fun p hp => ?_, fun a ha => ?_⟩⟩
      · exact (hI.pr p hp).imp id fun ⟨a, b, c⟩ => ⟨List.mem_cons_of_mem _ a, b, c⟩
      · rcases hI.no a ha with h | h
        · rcases List.mem_append.mp h with h | h
          · exact .inl h
          · rw [List.mem_singleton.mp h]
            exact .inr fun b hb => h2 b (hI.st.subset hb)
        · exact .inr h
    · have e : st_match_2 o t w k (P, T, S) x = .nx (P ++ [(x, q)], T.erase q, S) := by
        unfold st_match_2 letV
        dsimp only
        rw [h2]
        rfl
      rw [e]
      obtain ⟨P', T', S', e', hI⟩ := inner_is (L := L) o t w k xs (P ++ [(x, q)]) (T.erase q) S
      refine ⟨P', T', S', e', ⟨hI.p1.trans ?_, hI.p2.trans ?_, hI.st.trans List.erase_sublist, hI.ss.trans ((List.sublist_cons_self _ _).append_left _), fun p hp => ?_, hI.no⟩⟩
      · simp only [List.map_append, List.map_cons, List.map_nil, List.append_assoc]
        refine List.Perm.append_left _ ?_
        show (x :: (S ++ xs)).Perm (S ++ x :: xs)
        exact List.perm_middle.symm
      · simp only [List.map_append, List.map_cons, List.map_nil, List.append_assoc]
        refine List.Perm.append_left _ ?_
        exact (List.perm_cons_erase h1).symm
      · rcases hI.pr p hp with h | ⟨a, b, c⟩
        · rcases List.mem_append.mp h with h | h
          · exact .inl h
          · rw [List.mem_singleton.mp h]
            exact .inr ⟨List.mem_cons_self, h1, h3⟩
        · exact .inr ⟨List.mem_cons_of_mem _ a, List.mem_of_mem_erase b, c⟩
/-- what match answers -/
structure Good (o t : List Pay) (w : Int) (g : List (Int × Int) × List Int × List Int) : Prop where
  pr : ∀ p ∈ g.1, (0 ≤ p.1 ∧ p.1 < (o.length : Int)) ∧ (0 ≤ p.2 ∧ p.2 < (t.length : Int)) ∧ ∃ k, Fit o t w k p.1 p.2 = true
  p1 : (g.1.map (·.1) ++ g.2.1).Perm (rng 0 (o.length : Int))
  p2 : (g.1.map (·.2) ++ g.2.2).Perm (rng 0 (t.length : Int))
  no : ∀ a ∈ g.2.1, ∀ b ∈ g.2.2, ∀ k, Fit o t w k a b = false
  s1 : g.2.1.Sublist (rng 0 (o.length : Int))
  s2 : g.2.2.Sublist (rng 0 (t.length : Int))
theorem match_is {o t : List Pay} {w : Int} (hw : 0 ≤ w) : ∃ g, m_match o t w = .ok g ∧ Good o t w g := by
  obtain ⟨P1, T1, S1, e1, h1⟩ := inner_is (L := List (Int × Int) × List Int × List Int) o t w false (rng 0 (o.length : Int)) [] (rng 0 (t.length : Int)) []
  obtain ⟨P2, T2, S2, e2, h2⟩ := inner_is (L := List (Int × Int) × List Int × List Int) o t w true S1 P1 T1 []
  have s1 : S1.Sublist (rng 0 (o.length : Int)) := h1.ss
  have s2 : S2.Sublist S1 := h2.ss
  refine ⟨(P2, S2, T2), ?_, ⟨fun p hp => ?_, h2.p1.trans ?_, h2.p2.trans h1.p2, fun a ha b hb k => ?_, s2.trans s1, h2.st.trans h1.st⟩⟩
  · unfold m_match b_match
    rw [if_neg (by simp; omega)]
    show (Out.bind (forL (st_match_1 o t w) (([] : List (Int × Int)), rng 0 (o.length : Int), rng 0 (t.length : Int)) [false, true]) fun z17 => .rt (z17.1, z17.2.1, z17.2.2)).res = _
    have a1 : st_match_1 o t w ([], rng 0 (o.length : Int), rng 0 (t.length : Int)) false = .nx (P1, S1, T1) := by
      show (Out.bind (forL (st_match_2 o t w false) ([], rng 0 (t.length : Int), []) (rng 0 (o.length : Int))) fun z39 => .nx (z39.1, z39.2.2, z39.2.1)) = _
      rw [e1]
      rfl
    have a2 : st_match_1 o t w (P1, S1, T1) true = .nx (P2, S2, T2) := by
      show (Out.bind (forL (st_match_2 o t w true) (P1, T1, []) S1) fun z39 => .nx (z39.1, z39.2.2, z39.2.1)) = _
      rw [e2]
      rfl
    rw [forL_cons, a1]
    dsimp only
    rw [forL_cons, a2]
    rfl
  · rcases h2.pr p hp with h | ⟨a, b, c⟩
    · rcases h1.pr p h with h | ⟨a, b, c⟩
      · cases h
      · exact ⟨rng_mem.mp a, rng_mem.mp b, false, c⟩
    · exact ⟨rng_mem.mp (s1.subset a), rng_mem.mp (h1.st.subset b), true, c⟩
  · rw [List.append_nil]
    exact h1.p1
  · cases k with
    | false =>
      rcases h1.no a (s2.subset ha) with h | h
      · cases h
      · exact h b (h2.st.subset hb)
    | true =>
      rcases h2.no a ha with h | h
      · cases h
      · exact h b hb
theorem match_ok {o t : List Pay} {w : Int} (hw : 0 ≤ w) : m_match o t w = .ok (okV (m_match o t w)) ∧ Good o t w (okV (m_match o t w)) := by
  obtain ⟨g, e, h⟩ := match_is (o := o) (t := t) hw
  rw [e]
  exact ⟨rfl, h⟩
end Ck38
namespace Ck38
open PySem L2 PyProof.Rows J
end Ck38
namespace Ck38
open PySem L2 PyProof.Rows J
/-! ### the law's own matching is the same -/
theorem partner_find {pay : Pay} {th : List Pay} {w : Int} {f : Bool} : ∀ (left : List Int), m_first_partner pay th left w f = left.find? fun q => if f = true then m_near_day pay (ixg th q) w else m_same_key pay (ixg th q) w
  | [] => rfl
  | x :: xs => by
    have e : m_first_partner pay th (x :: xs) w f = (if (if f = true then m_near_day pay (ixg th x) w else m_same_key pay (ixg th x) w) = true then some x else m_first_partner pay th xs w f) := by
      unfold m_first_partner b_first_partner
      rw [forL_cons]
      unfold st_first_partner_1
      by_cases h : (if f = true then m_near_day pay (ixg th x) w else m_same_key pay (ixg th x) w) = true
      · rw [if_pos h, if_pos h]
        try rfl
      · rw [if_neg h, if_neg h]
        try rfl
    rw [e, List.find?_cons]
    by_cases h : (if f = true then m_near_day pay (ixg th x) w else m_same_key pay (ixg th x) w) = true
    · rw [if_pos h, h]
    · rw [if_neg h, partner_find xs]
      simp only [Bool.not_eq_true] at h
      rw [h]
theorem fit_find (o t : List Pay) (w : Int) (k : Bool) (a : Int) (T : List Int) : m_first_partner (ixg o a) t T w k = T.find? (Fit o t w k a) := by
  rw [partner_find]
  rfl
/-- the places not used -/
def Tof (used : List Bool) (m : Int) : List Int := (rng 0 m).filter fun j => !(ixg used j)
theorem rng_nd (a b : Int) : (rng a b).Nodup := by
  unfold rng
  show List.Pairwise (· ≠ ·) _
  rw [List.pairwise_map]
  exact List.pairwise_lt_range.imp fun {a b} h => by omega
theorem ixg_putL {α : Type} [Inhabited α] {xs : List α} {i j : Int} {v : α} (h0 : 0 ≤ i) (h1 : i < (xs.length : Int)) (g0 : 0 ≤ j) (g1 : j < (xs.length : Int)) : ixg (putL xs i v) j = if j = i then v else ixg xs j := by
  have hi : (ixN xs.length i).getD 0 = i.toNat := by
    unfold ixN
    rw [if_pos h0, if_pos h1]
    rfl
  unfold putL
  rw [hi, ixg_nat g0 (by rw [List.length_set]; exact g1), ixg_nat g0 g1]
  by_cases e : j = i
  · subst e
    rw [if_pos rfl, List.getD_eq_getElem?_getD, List.getElem?_set_self (by omega)]
    rfl
  · rw [if_neg e, List.getD_eq_getElem?_getD, List.getElem?_set_ne (by omega), ← List.getD_eq_getElem?_getD]
theorem tof_put {used : List Bool} {m j : Int} (hu : (used.length : Int) = m) (h0 : 0 ≤ j) (h1 : j < m) : Tof (putL used j true) m = (Tof used m).erase j := by
  unfold Tof
  rw [List.Nodup.erase_eq_filter (List.Pairwise.filter _ (rng_nd 0 m)), List.filter_filter]
  refine List.filter_congr fun x hx => ?_
  have hx' := rng_mem.mp hx
  rw [ixg_putL h0 (by omega) hx'.1 (by omega)]
  by_cases e : x = j
  · subst e
    rw [if_pos rfl]
    simp
  · rw [if_neg e]
    simp [e]
abbrev MSt := (List (Int × Int)) × (List (Option Int)) × (List Bool)
/-- does the innermost turn fit -/
theorem turn_fit (o t : List Pay) (w f x : Int) (hf : f = 0 ∨ f = 1) (z : MSt) (j : Int) : st_law_matched_3 o t w f x z j = if ((ixg z.2.1 x).isNone && ((!(ixg z.2.2 j)) && Fit o t w (decide (f = 1)) x j)) = true then .nx (z.1 ++ [(x, j)], putL z.2.1 x (some j), putL z.2.2 j true) else .nx z := by
  unfold st_law_matched_3 letV
  have hF : Fit o t w (decide (f = 1)) x j = (decide (((ixg o x).2.2) = ((ixg t j).2.2)) && (if f = 1 then decide ((if ((ixg o x).2.1 - (ixg t j).2.1) < 0 then -((ixg o x).2.1 - (ixg t j).2.1) else ((ixg o x).2.1 - (ixg t j).2.1)) ≤ w) else decide (((ixg o x).1) = ((ixg t j).1)))) := by
    unfold Fit
    rcases hf with rfl | rfl
    · show m_same_key _ _ _ = _
      rw [if_neg (by decide)]
      show (decide _ && decide _) = _
      rw [Bool.and_comm]
    · rfl
  rw [hF]
  cases (ixg z.2.1 x).isNone with
  | false => rfl
  | true =>
    cases (ixg z.2.2 j) with
    | true => rfl
    | false =>
      cases decide (((ixg o x).2.2) = ((ixg t j).2.2)) with
      | false => rfl
      | true =>
        rcases hf with rfl | rfl
        · cases decide (((ixg o x).1) = ((ixg t j).1)) <;> rfl
        · simp only [Bool.true_and, Bool.not_false, if_true, decide_true]
          cases decide ((if ((ixg o x).2.1 - (ixg t j).2.1) < 0 then -((ixg o x).2.1 - (ixg t j).2.1) else ((ixg o x).2.1 - (ixg t j).2.1)) ≤ w) <;> rfl
theorem in3_skip {L : Type} (o t : List Pay) (w f x : Int) (hf : f = 0 ∨ f = 1) (z : MSt) (h : (ixg z.2.1 x).isNone = false) : ∀ js : List Int, (forL (st_law_matched_3 o t w f x) z js : Out Empty MSt L _) = .nx z
  | [] => rfl
  | j :: js => by
    rw [forL_cons, turn_fit o t w f x hf, h]
    exact in3_skip o t w f x hf z h js
/-- the innermost loop: the first place that fits -/
theorem in3_is {L : Type} (o t : List Pay) (w f x : Int) (hf : f = 0 ∨ f = 1) (z : MSt) (h : (ixg z.2.1 x).isNone = true) (h0 : 0 ≤ x) (h1 : x < (z.2.1.length : Int)) : ∀ js : List Int,
    (forL (st_law_matched_3 o t w f x) z js : Out Empty MSt L _) = .nx (match (js.filter fun j => !(ixg z.2.2 j)).find? (Fit o t w (decide (f = 1)) x) with
      | none => z
      | some j => (z.1 ++ [(x, j)], putL z.2.1 x (some j), putL z.2.2 j true))
  | [] => rfl
  | j :: js => by
    rw [forL_cons, turn_fit o t w f x hf, h]
    by_cases hu : ixg z.2.2 j = true
    · rw [hu, if_neg (by simp), List.filter_cons_of_neg (by simp [hu])]
      exact in3_is o t w f x hf z h h0 h1 js
    · rw [Bool.not_eq_true] at hu
      rw [hu, List.filter_cons_of_pos (by simp [hu]), List.find?_cons]
      by_cases hF : Fit o t w (decide (f = 1)) x j = true
      · rw [hF, if_pos (by rfl)]
        refine in3_skip o t w f x hf _ ?_ js
        dsimp only
        rw [ixg_putL h0 h1 h0 h1, if_pos rfl]
        rfl
      · rw [Bool.not_eq_true] at hF
        rw [hF, if_neg (by simp)]
        exact in3_is o t w f x hf z h h0 h1 js
def stp (o t : List Pay) (w f : Int) (z : MSt) (x : Int) : MSt := if (ixg z.2.1 x).isNone = true then (match (Tof z.2.2 (t.length : Int)).find? (Fit o t w (decide (f = 1)) x) with
      | none => z
      | some j => (z.1 ++ [(x, j)], putL z.2.1 x (some j), putL z.2.2 j true)) else z
theorem in2_is (o t : List Pay) (w f x : Int) (hf : f = 0 ∨ f = 1) (z : MSt) (h0 : 0 ≤ x) (h1 : x < (z.2.1.length : Int)) : st_law_matched_2 o t w f z x = .nx (stp o t w f z x) := by
  unfold st_law_matched_2 stp
  have ez : (z.1, z.2.1, z.2.2) = z := rfl
  rw [ez]
  by_cases h : (ixg z.2.1 x).isNone = true
  · rw [in3_is o t w f x hf z h h0 h1, if_pos h]
    rfl
  · rw [Bool.not_eq_true] at h
    rw [in3_skip o t w f x hf z h, if_neg (by rw [h]; exact Bool.false_ne_true)]
    rfl
/-- the two matchings side by side, over places ks -/
theorem side {L L' : Type} (o t : List Pay) (w f : Int) (hf : f = 0 ∨ f = 1) : ∀ (ks : List Int) (z : MSt) (Sl : List Int), (∀ k ∈ ks, 0 ≤ k ∧ k < (z.2.1.length : Int)) → ks.Nodup → (z.2.2.length : Int) = (t.length : Int) →
    ∃ z' : MSt, (forL (st_law_matched_2 o t w f) z ks : Out Empty MSt L _) = .nx z' ∧
      (forL (st_match_2 o t w (decide (f = 1))) (z.1, Tof z.2.2 (t.length : Int), Sl) (ks.filter fun k => (ixg z.2.1 k).isNone) : Out (_root_.Fin 1) _ L' _) = .nx (z'.1, Tof z'.2.2 (t.length : Int), Sl ++ ks.filter fun k => (ixg z'.2.1 k).isNone) ∧
      z'.2.1.length = z.2.1.length ∧ z'.2.2.length = z.2.2.length ∧ ∀ k, 0 ≤ k → k < (z.2.1.length : Int) → k ∉ ks → ixg z'.2.1 k = ixg z.2.1 k
  | [], z, Sl, _, _, _ => ⟨z, rfl, by simp [forL], rfl, rfl, fun _ _ _ _ => rfl⟩
  | x :: xs, z, Sl, hk, hn, hu => by
    obtain ⟨h0, h1⟩ := hk x List.mem_cons_self
    obtain ⟨hx, hn'⟩ := List.nodup_cons.mp hn
    rw [forL_cons, in2_is o t w f x hf z h0 h1]
    have hmid : ∀ k ∈ xs, ∀ v : Option Int, ixg (putL z.2.1 x v) k = ixg z.2.1 k := fun k hkm v => by
      obtain ⟨g0, g1⟩ := hk k (List.mem_cons_of_mem _ hkm)
      rw [ixg_putL h0 h1 g0 g1, if_neg (fun e : k = x => hx (by rw [← e]; exact hkm))]
    by_cases hnn : (ixg z.2.1 x).isNone = true
    · rw [List.filter_cons_of_pos (by simpa using hnn), forL_cons]
      have ep : st_match_2 o t w (decide (f = 1)) (z.1, Tof z.2.2 (t.length : Int), Sl) x = .nx (match (Tof z.2.2 (t.length : Int)).find? (Fit o t w (decide (f = 1)) x) with
          | none => (z.1, Tof z.2.2 (t.length : Int), Sl ++ [x])
          | some j => (z.1 ++ [(x, j)], (Tof z.2.2 (t.length : Int)).erase j, Sl)) := by
        unfold st_match_2 letV
        dsimp only
        rw [fit_find]
        cases (Tof z.2.2 (t.length : Int)).find? (Fit o t w (decide (f = 1)) x) <;> rfl
      rw [ep]
      unfold stp
      rw [if_pos hnn]
      cases hfd : (Tof z.2.2 (t.length : Int)).find? (Fit o t w (decide (f = 1)) x) with
      | none =>
        obtain ⟨z', e1, e2, e3, e4, e5⟩ := side (L := L) (L' := L') o t w f hf xs z (Sl ++ [x]) (fun k hk' => hk k (List.mem_cons_of_mem _ hk')) hn' hu
        refine ⟨z', e1, ?_, e3, e4, fun k g0 g1 g2 => e5 k g0 g1 fun q => g2 (List.mem_cons_of_mem _ q)⟩
        have hx' : (ixg z'.2.1 x).isNone = true := by rw [e5 x h0 h1 hx]; exact hnn
        rw [List.filter_cons_of_pos (by simpa using hx')]
        rw [show Sl ++ x :: xs.filter (fun k => (ixg z'.2.1 k).isNone) = (Sl ++ [x]) ++ xs.filter (fun k => (ixg z'.2.1 k).isNone) by simp]
        exact e2
      | some j =>
        have hj := List.mem_of_find?_eq_some hfd
        have hj' := rng_mem.mp (List.mem_filter.mp hj).1
        have hlen : (putL z.2.1 x (some j)).length = z.2.1.length := putL_len _ _ _
        obtain ⟨z', e1, e2, e3, e4, e5⟩ := side (L := L) (L' := L') o t w f hf xs (z.1 ++ [(x, j)], putL z.2.1 x (some j), putL z.2.2 j true) Sl (fun k hk' => by rw [hlen]; exact hk k (List.mem_cons_of_mem _ hk')) hn' (by rw [putL_len]; exact hu)
        dsimp only at e2 e3 e4 e5
        rw [hlen] at e3 e5
        rw [putL_len] at e4
        refine ⟨z', e1, ?_, e3, e4, fun k g0 g1 g2 => ?_⟩
        · have hx' : (ixg z'.2.1 x).isNone = false := by
            rw [e5 x h0 h1 hx, ixg_putL h0 h1 h0 h1, if_pos rfl]
            rfl
          rw [List.filter_cons_of_neg (by rw [hx']; exact Bool.false_ne_true)]
          rw [tof_put hu hj'.1 hj'.2] at e2
          rw [← List.filter_congr (p := fun k => (ixg (putL z.2.1 x (some j)) k).isNone) (q := fun k => (ixg z.2.1 k).isNone) (fun k hkm => by rw [hmid k hkm])]
          exact e2
        · rw [e5 k g0 g1 fun q => g2 (List.mem_cons_of_mem _ q), ixg_putL h0 h1 g0 g1, if_neg (fun e : k = x => g2 (by rw [e]; exact List.mem_cons_self))]
    · have hs : stp o t w f z x = z := by
        unfold stp
        rw [if_neg hnn]
      rw [hs, List.filter_cons_of_neg (by simpa using hnn)]
      obtain ⟨z', e1, e2, e3, e4, e5⟩ := side (L := L) (L' := L') o t w f hf xs z Sl (fun k hk' => hk k (List.mem_cons_of_mem _ hk')) hn' hu
      refine ⟨z', e1, ?_, e3, e4, fun k g0 g1 g2 => e5 k g0 g1 fun q => g2 (List.mem_cons_of_mem _ q)⟩
      have hx' : ¬ (ixg z'.2.1 x).isNone = true := by rw [e5 x h0 h1 hx]; exact hnn
      rw [List.filter_cons_of_neg (by simpa using hx')]
      exact e2
theorem map_self (l : List Int) : l.map (fun k : Int => k) = l := List.map_id'' (fun _ => rfl) l
/-- match answers what the law's own matching does -/
theorem match_eq {o t : List Pay} {w : Int} (hw : 0 ≤ w) : m_match o t w = .ok (m_law_matched o t w) := by
  have hm0 : (o.map (fun _ : Pay => (none : Option Int))).length = o.length := List.length_map _
  have hu0 : (t.map (fun _ : Pay => false)).length = t.length := List.length_map _
  have hk : ∀ k ∈ rng 0 (o.length : Int), 0 ≤ k ∧ k < ((o.map (fun _ : Pay => (none : Option Int))).length : Int) := fun k hk => by rw [hm0]; exact rng_mem.mp hk
  have ixn : ∀ k ∈ rng 0 (o.length : Int), (ixg (o.map (fun _ : Pay => (none : Option Int))) k).isNone = true := fun k hkm => by
    have hq := rng_mem.mp hkm
    have := ixg_mem (xs := o.map (fun _ : Pay => (none : Option Int))) hq.1 (by rw [hm0]; exact hq.2)
    obtain ⟨_, _, e⟩ := List.mem_map.mp this
    rw [← e]
    rfl
  have ixf : ∀ k ∈ rng 0 (t.length : Int), (!(ixg (t.map (fun _ : Pay => false)) k)) = true := fun k hkm => by
    have hq := rng_mem.mp hkm
    have := ixg_mem (xs := t.map (fun _ : Pay => false)) hq.1 (by rw [hu0]; exact hq.2)
    obtain ⟨_, _, e⟩ := List.mem_map.mp this
    rw [← e]
    rfl
  obtain ⟨z1, a1, b1, c1, d1, _⟩ := side (L := MSt) (L' := (List (Int × Int)) × (List Int) × (List Int)) o t w 0 (.inl rfl) (rng 0 (o.length : Int)) ([], o.map (fun _ => none), t.map (fun _ => false)) [] hk (rng_nd _ _) (by rw [hu0])
  dsimp only at b1 c1 d1
  rw [hm0] at c1
  rw [hu0] at d1
  obtain ⟨z2, a2, b2, c2, d2, _⟩ := side (L := MSt) (L' := (List (Int × Int)) × (List Int) × (List Int)) o t w 1 (.inr rfl) (rng 0 (o.length : Int)) z1 [] (fun k hkm => by rw [c1]; exact rng_mem.mp hkm) (rng_nd _ _) (by rw [d1])
  have et : Tof (t.map (fun _ : Pay => false)) (t.length : Int) = rng 0 (t.length : Int) := List.filter_eq_self.mpr ixf
  have es : (rng 0 (o.length : Int)).filter (fun k => (ixg (o.map (fun _ : Pay => (none : Option Int))) k).isNone) = rng 0 (o.length : Int) := List.filter_eq_self.mpr ixn
  rw [et, es, List.nil_append] at b1
  rw [List.nil_append] at b2
  have em : m_match o t w = .ok (z2.1, (rng 0 (o.length : Int)).filter (fun k => (ixg z2.2.1 k).isNone), Tof z2.2.2 (t.length : Int)) := by
    unfold m_match b_match
    rw [if_neg (by simp; omega)]
    show (Out.bind (forL (st_match_1 o t w) (([] : List (Int × Int)), rng 0 (o.length : Int), rng 0 (t.length : Int)) [false, true]) fun z17 => .rt (z17.1, z17.2.1, z17.2.2)).res = _
    have x1 : st_match_1 o t w ([], rng 0 (o.length : Int), rng 0 (t.length : Int)) false = .nx (z1.1, (rng 0 (o.length : Int)).filter (fun k => (ixg z1.2.1 k).isNone), Tof z1.2.2 (t.length : Int)) := by
      show (Out.bind (forL (st_match_2 o t w false) ([], rng 0 (t.length : Int), []) (rng 0 (o.length : Int))) fun z39 => .nx (z39.1, z39.2.2, z39.2.1)) = _
      have b1' := b1
      rw [show (decide ((0 : Int) = 1)) = false from rfl] at b1'
      rw [b1']
      rfl
    have x2 : st_match_1 o t w (z1.1, (rng 0 (o.length : Int)).filter (fun k => (ixg z1.2.1 k).isNone), Tof z1.2.2 (t.length : Int)) true = .nx (z2.1, (rng 0 (o.length : Int)).filter (fun k => (ixg z2.2.1 k).isNone), Tof z2.2.2 (t.length : Int)) := by
      show (Out.bind (forL (st_match_2 o t w true) (z1.1, Tof z1.2.2 (t.length : Int), []) ((rng 0 (o.length : Int)).filter (fun k => (ixg z1.2.1 k).isNone))) fun z39 => .nx (z39.1, z39.2.2, z39.2.1)) = _
      have b2' := b2
      rw [show (decide ((1 : Int) = 1)) = true from rfl] at b2'
      rw [b2']
      rfl
    rw [forL_cons, x1]
    dsimp only
    rw [forL_cons, x2]
    rfl
  rw [em]
  unfold m_law_matched b_law_matched letV
  dsimp only
  have er : rng 0 2 = [0, 1] := by decide +kernel
  have y1 : st_law_matched_1 o t w ([], o.map (fun _ => none), t.map (fun _ => false)) 0 = .nx z1 := by
    unfold st_law_matched_1
    dsimp only
    rw [a1]
    rfl
  have y2 : st_law_matched_1 o t w z1 1 = .nx z2 := by
    unfold st_law_matched_1
    have ez : (z1.1, z1.2.1, z1.2.2) = z1 := rfl
    rw [ez, a2]
    rfl
  rw [er, forL_cons, y1]
  dsimp only
  rw [forL_cons, y2]
  dsimp only
  have ef : (forL (st_law_matched_1 o t w) z2 [] : Out Empty MSt Empty _) = .nx z2 := rfl
  rw [ef]
  show Except.ok _ = Except.ok (z2.1, ((rng 0 (o.length : Int)).filter fun k => (ixg z2.2.1 k).isNone).map (fun k : Int => k), ((rng 0 (t.length : Int)).filter fun j => !(ixg z2.2.2 j)).map (fun k : Int => k))
  rw [map_self, map_self]
  rfl
/-! ### a list with itself -/
theorem self_is {L : Type} (o : List Pay) (w : Int) : ∀ (ks : List Int) (P : List (Int × Int)), (forL (st_match_2 o o w false) (P, ks, []) ks : Out (_root_.Fin 1) _ L _) = .nx (P ++ ks.map fun k => (k, k), [], [])
  | [], P => by simp [forL]
  | x :: xs, P => by
    have e : st_match_2 o o w false (P, x :: xs, []) x = .nx (P ++ [(x, x)], xs, []) := by
      unfold st_match_2 letV
      dsimp only
      rw [fit_find, List.find?_cons]
      have hF : Fit o o w false x x = true := by
        show (decide _ && decide _) = true
        simp
      rw [hF]
      dsimp only
      rw [if_neg (by simp)]
      show Out.nx (P ++ [(x, oGet (some x))], (x :: xs).erase (oGet (some x)), []) = _
      have eo : oGet (some x) = x := rfl
      rw [eo, List.erase_cons_head]
    rw [forL_cons, e]
    dsimp only
    rw [self_is o w xs (P ++ [(x, x)])]
    simp
theorem match_self {o : List Pay} {w : Int} (hw : 0 ≤ w) : m_match o o w = .ok ((rng 0 (o.length : Int)).map fun k => (k, k), [], []) := by
  unfold m_match b_match
  rw [if_neg (by simp; omega)]
  show (Out.bind (forL (st_match_1 o o w) (([] : List (Int × Int)), rng 0 (o.length : Int), rng 0 (o.length : Int)) [false, true]) fun z17 => .rt (z17.1, z17.2.1, z17.2.2)).res = _
  have x1 : st_match_1 o o w ([], rng 0 (o.length : Int), rng 0 (o.length : Int)) false = .nx ((rng 0 (o.length : Int)).map fun k => (k, k), [], []) := by
    show (Out.bind (forL (st_match_2 o o w false) ([], rng 0 (o.length : Int), []) (rng 0 (o.length : Int))) fun z39 => .nx (z39.1, z39.2.2, z39.2.1)) = _
    rw [self_is]
    rfl
  rw [forL_cons, x1]
  rfl
end Ck38

namespace Ck38
open PySem L2 PyProof.Rows J
def LQ (m : Out Empty Unit Empty Bool) : Prop := m.val = true
theorem step_ok (ns : List Int) (z : List Pay × List Pay) (x : Int) : ∃ z', st_law_1 ns z x = .nx z' := by
  show ∃ z', st_law_1 ns z x = .nx z'
  unfold st_law_1 letV
  dsimp only
  split
  · split <;> exact ⟨_, rfl⟩
  · exact ⟨_, rfl⟩
theorem law_true (ns : List Int) : m_law ns = true := by
  show LQ (b_law ns)
  unfold b_law
  refine letV_p fun o0 _ => letV_p fun t0 _ => ?_
  obtain ⟨z, e, _⟩ := forL_all (ε := Empty) (L := Empty) (R := Bool) (f := st_law_1 ns) (fun _ => True) (xs := rng 2 62) (s := (o0, t0)) trivial fun z x _ _ => by
    obtain ⟨z', e⟩ := step_ok ns z x
    exact ⟨z', e, trivial⟩
  refine bind_p (fun _ => True) ⟨z, e, trivial⟩ fun z _ => ?_
  refine letV_p fun r1 e1 => letV_p fun s es => letV_p fun r2 e2 => letV_p fun r3 e3 => letV_p fun r4 e4 => letV_p fun w ew => letV_p fun f ef => ?_
  have l0 : s.length = 2 := by rw [es, e1]; exact source_len
  obtain ⟨l2, a2, b2⟩ := pick_ok (n := 41) l0 (by decide)
  rw [← e2] at l2 a2 b2
  obtain ⟨l3, a3, b3⟩ := pick_ok (n := 40000) l2 (by decide)
  rw [← e3] at l3 a3 b3
  obtain ⟨l4, a4, b4⟩ := pick_ok (n := 4) l3 (by decide)
  rw [← e4] at l4 a4 b4
  have hw : 0 ≤ w := by rw [ew]; exact win_ok (by omega) (by omega) (by omega) (by omega)
  have hf : f = m_law_matched z.1 z.2 w := by rw [ef, match_eq hw]; rfl
  rw [hf]
  refine ite_p (fun q => by simp at q) (fun _ => ?_)
  refine ite_p (fun q => by rw [match_eq (Int.le_refl 0)] at q; simp at q) (fun _ => ?_)
  refine letV_p fun g eg => ?_
  have hg : g = ((rng 0 (z.1.length : Int)).map (fun k => (k, k)), [], []) := by rw [eg, match_self hw]; rfl
  rw [hg]
  refine ite_p (fun q => ?_) (fun _ => ?_)
  · rw [List.length_map, rng_length] at q
    simp at q
  have e5 : (forL (st_law_2 z) () ((rng 0 (z.1.length : Int)).map (fun k => (k, k))) : Out Empty Unit Empty Bool) = .nx () := forL_unit fun x hx => by
    obtain ⟨k, _, rfl⟩ := List.mem_map.mp hx
    unfold st_law_2
    rw [if_neg (by simp)]
  refine bind_p (fun _ => True) ⟨(), e5, trivial⟩ fun _ _ => ?_
  show decide _ = true
  rw [match_eq hw]
  simp
end Ck38

set_option synthInstance.maxSize 10000
namespace Ck38
open PySem L2 PyProof.Rows J
abbrev s_law_source : Stmt := PySem.Challenge.pw_corebank_k38_match_exact.main.body.getD 10 (.Pass ⟨0, 0, 0, 0⟩)
abbrev N_law_source : List Str := ["_law_cell_here", "_law_k"]
theorem sc_law_source : FnScope ["_law_cell_here", "_law_k"] ["_law_cell_here", "_law_k"] (defScope s_law_source) := ⟨rfl, rfl, rfl, by decide +kernel, rfl, by decide +kernel, by decide +kernel⟩
theorem ok_law_source {P : Program} {w : World} {K : PySem.W.Frag} {mg : Str → Option Value} {base : Heap} {f : Addr} {fd : FuncData} (F : Fun K "_law_source" "_law_source" s_law_source f fd) (b : Binds K fd ["_law_cell_here", "_law_k"] []) (hmg : mg "_law_source" = some (.ref f)) {adr : _root_.Fin 1 → Addr} {B0 : Addr} (Er : Errs K mg nm_ adr B0) (m_int : mg "int" = none) :
    Fn0 P w K mg base CX0 1 "_law_source" 2 (sp_law_source K) := by
  have hsl := sizeLine_eq
  refine ⟨f, fd, ["_law_cell_here", "_law_k"], fn_okM (pre := pre_law_source K) (post := post_law_source K) F sc_law_source b (fun i : (Int × Int) => b_law_source i.1 i.2) (fun i G mc vs h => ?_) (fun cdv A outer s H E i G mc cs vs hr hp => ?_), hmg, F.kp, b, rfl⟩
  · obtain ⟨_, _, h, _⟩ := h
    rw [h]
    rfl
  obtain ⟨cell_here_, k_⟩ := i
  obtain ⟨v0_, v1_, rfl, rfl, h0_, h1_⟩ := hp
  cases h0_
  cases h1_
  show B _ _ _ [some (.int cell_here_), some (.int k_)] G (cs) _ (b_law_source cell_here_ k_)
  unfold b_law_source
  refine b_ifx (t_cmp op_ge (nomark _) (d_var 0 (P := rI cell_here_) rfl rfl) (d_pow (z := 1000000000000000000) d_int d_int ⟨by decide, by decide, by decide⟩ (by decide +kernel)) fun _ _ _ _ _ _ hx hy _ q => c_ge hx hy q) ?_ ?_
  · intro hc1 Gs2 s2
    have dhc1 := hc1
    try simp only [decide_eq_true_eq, decide_eq_false_iff_not, Bool.and_eq_true, Bool.and_eq_false_imp, Bool.or_eq_true, Bool.or_eq_false_iff, Bool.not_eq_true', Bool.not_eq_false', Bool.not_not, ne_eq, Int.not_lt, Int.not_le] at dhc1
    exact b_retC (ec_N (n_lst (r := rI) (xs := [(cell_here_ - 1000000000000000000), (k_ + 1)]) (a_cons (P := rI (cell_here_ - 1000000000000000000)) (d_sub (d_var 0 (P := rI cell_here_) rfl rfl) (d_pow (z := 1000000000000000000) d_int d_int ⟨by decide, by decide, by decide⟩ (by decide +kernel))) (a_cons (P := rI (k_ + 1)) (d_add (d_var 1 (P := rI k_) rfl rfl) d_int) a_nil)) (ls_c (ls_c ls_n))) (fun l4 us5 Gs3 s3 h6 _ => ⟨[], [(l4, HO.lst us5)], (List.Perm.refl _), ⟨_, _, _, _, rfl, rfl, rfl, h6⟩⟩))
  · intro hc1 Gs2 s2
    have dhc1 := hc1
    try simp only [decide_eq_true_eq, decide_eq_false_iff_not, Bool.and_eq_true, Bool.and_eq_false_imp, Bool.or_eq_true, Bool.or_eq_false_iff, Bool.not_eq_true', Bool.not_eq_false', Bool.not_not, ne_eq, Int.not_lt, Int.not_le] at dhc1
    exact b_retC (ec_N (n_lst (r := rI) (xs := [0, ((((cell_here_ * 7919) + (k_ * 104729)) + 1) % 2147483647)]) (a_cons (P := rI 0) d_int (a_cons (P := rI ((((cell_here_ * 7919) + (k_ * 104729)) + 1) % 2147483647)) (d_mod (d_int1 m_int (d_add (d_add (d_mul (d_var 0 (P := rI cell_here_) rfl rfl) d_int (.inr ⟨by omega, by omega⟩)) (d_mul (d_var 1 (P := rI k_) rfl rfl) d_int (.inr ⟨by omega, by omega⟩))) d_int)) d_int (by decide)) a_nil)) (ls_c (ls_c ls_n))) (fun l8 us9 Gs7 s7 h10 _ => ⟨[], [(l8, HO.lst us9)], (List.Perm.refl _), ⟨_, _, _, _, rfl, rfl, rfl, h10⟩⟩))
end Ck38

set_option synthInstance.maxSize 10000
namespace Ck38
open PySem L2 PyProof.Rows J
abbrev s_same_key : Stmt := PySem.Challenge.pw_corebank_k38_match_exact.main.body.getD 4 (.Pass ⟨0, 0, 0, 0⟩)
abbrev N_same_key : List Str := ["one", "other", "window"]
theorem sc_same_key : FnScope ["one", "other", "window"] ["one", "other", "window"] (defScope s_same_key) := ⟨rfl, rfl, rfl, by decide +kernel, rfl, by decide +kernel, by decide +kernel⟩
theorem ok_same_key {P : Program} {w : World} {K : PySem.W.Frag} {mg : Str → Option Value} {base : Heap} {f : Addr} {fd : FuncData} (F : Fun K "same_key" "same_key" s_same_key f fd) (b : Binds K fd ["one", "other", "window"] []) (hmg : mg "same_key" = some (.ref f)) {adr : _root_.Fin 1 → Addr} {B0 : Addr} (Er : Errs K mg nm_ adr B0)  :
    Fn0 P w K mg base CX0 1 "same_key" 3 (sp_same_key K) := by
  have hsl := sizeLine_eq
  refine fn_mk F sc_same_key b hmg (fun i : (((List Nat) × Int × Int) × ((List Nat) × Int × Int) × Int) => b_same_key i.1 i.2.1 i.2.2) (fun i G vs h => ?_) (fun cdv A outer s H E i G cs vs hr hp => ?_)
  · obtain ⟨v0_, v1_, v2_, h, _⟩ := h
    rw [h]
    rfl
  obtain ⟨one_, other_, window_⟩ := i
  obtain ⟨v0_, v1_, v2_, rfl, h0_, h1_, h2_⟩ := hp
  cases h2_
  show B _ _ _ [some v0_, some v1_, some (.int window_)] G cs _ (b_same_key one_ other_ window_)
  unfold b_same_key
  exact b_ret (P := rB (((decide (one_.1 = other_.1))) && ((decide (one_.2.2 = other_.2.2))))) (d_and (d_cmp op_eq (nomark _) (d_ixT (r := (cc rS (cc rI (c0 rI)))) (x := one_) (n := 0) (P := rS one_.1) (d_var 0 (P := (rT K (cc rS (cc rI (c0 rI)))) one_) rfl h0_) d_int at_z) (d_ixT (r := (cc rS (cc rI (c0 rI)))) (x := other_) (n := 0) (P := rS other_.1) (d_var 1 (P := (rT K (cc rS (cc rI (c0 rI)))) other_) rfl h1_) d_int at_z) fun _ _ _ _ _ _ hx hy _ q => c_eqS hx hy q) fun hk1 => (d_one (d_cmp op_eq (nomark _) (d_ixT (r := (cc rS (cc rI (c0 rI)))) (x := one_) (n := 2) (P := rI one_.2.2) (d_var 0 (P := (rT K (cc rS (cc rI (c0 rI)))) one_) rfl h0_) d_int (at_s (at_s at_1))) (d_ixT (r := (cc rS (cc rI (c0 rI)))) (x := other_) (n := 2) (P := rI other_.2.2) (d_var 1 (P := (rT K (cc rS (cc rI (c0 rI)))) other_) rfl h1_) d_int (at_s (at_s at_1))) fun _ _ _ _ _ _ hx hy _ q => c_eqI hx hy q))) (fun _ _ _ h => ⟨⟨[], rfl⟩, h⟩)
end Ck38

set_option synthInstance.maxSize 10000
namespace Ck38
open PySem L2 PyProof.Rows J
abbrev s_near_day : Stmt := PySem.Challenge.pw_corebank_k38_match_exact.main.body.getD 5 (.Pass ⟨0, 0, 0, 0⟩)
abbrev N_near_day : List Str := ["one", "other", "window"]
theorem sc_near_day : FnScope ["one", "other", "window"] ["one", "other", "window"] (defScope s_near_day) := ⟨rfl, rfl, rfl, by decide +kernel, rfl, by decide +kernel, by decide +kernel⟩
theorem ok_near_day {P : Program} {w : World} {K : PySem.W.Frag} {mg : Str → Option Value} {base : Heap} {f : Addr} {fd : FuncData} (F : Fun K "near_day" "near_day" s_near_day f fd) (b : Binds K fd ["one", "other", "window"] []) (hmg : mg "near_day" = some (.ref f)) {adr : _root_.Fin 1 → Addr} {B0 : Addr} (Er : Errs K mg nm_ adr B0) (m_abs : mg "abs" = none) :
    Fn0 P w K mg base CX0 1 "near_day" 3 (sp_near_day K) := by
  have hsl := sizeLine_eq
  refine fn_mk F sc_near_day b hmg (fun i : (((List Nat) × Int × Int) × ((List Nat) × Int × Int) × Int) => b_near_day i.1 i.2.1 i.2.2) (fun i G vs h => ?_) (fun cdv A outer s H E i G cs vs hr hp => ?_)
  · obtain ⟨v0_, v1_, v2_, h, _⟩ := h
    rw [h]
    rfl
  obtain ⟨one_, other_, window_⟩ := i
  obtain ⟨v0_, v1_, v2_, rfl, h0_, h1_, h2_⟩ := hp
  cases h2_
  show B _ _ _ [some v0_, some v1_, some (.int window_)] G cs _ (b_near_day one_ other_ window_)
  unfold b_near_day
  exact b_ret (P := rB (((decide (one_.2.2 = other_.2.2))) && ((decide ((if (one_.2.1 - other_.2.1) < 0 then -(one_.2.1 - other_.2.1) else (one_.2.1 - other_.2.1)) ≤ window_))))) (d_and (d_cmp op_eq (nomark _) (d_ixT (r := (cc rS (cc rI (c0 rI)))) (x := one_) (n := 2) (P := rI one_.2.2) (d_var 0 (P := (rT K (cc rS (cc rI (c0 rI)))) one_) rfl h0_) d_int (at_s (at_s at_1))) (d_ixT (r := (cc rS (cc rI (c0 rI)))) (x := other_) (n := 2) (P := rI other_.2.2) (d_var 1 (P := (rT K (cc rS (cc rI (c0 rI)))) other_) rfl h1_) d_int (at_s (at_s at_1))) fun _ _ _ _ _ _ hx hy _ q => c_eqI hx hy q) fun hk1 => (d_one (d_cmp op_le (nomark _) (d_abs m_abs (d_sub (d_ixT (r := (cc rS (cc rI (c0 rI)))) (x := one_) (n := 1) (P := rI one_.2.1) (d_var 0 (P := (rT K (cc rS (cc rI (c0 rI)))) one_) rfl h0_) d_int (at_s at_z)) (d_ixT (r := (cc rS (cc rI (c0 rI)))) (x := other_) (n := 1) (P := rI other_.2.1) (d_var 1 (P := (rT K (cc rS (cc rI (c0 rI)))) other_) rfl h1_) d_int (at_s at_z)))) (d_var 2 (P := rI window_) rfl rfl) fun _ _ _ _ _ _ hx hy _ q => c_le hx hy q))) (fun _ _ _ h => ⟨⟨[], rfl⟩, h⟩)
end Ck38

set_option synthInstance.maxSize 10000
namespace Ck38
open PySem L2 PyProof.Rows J
abbrev s_first_partner : Stmt := PySem.Challenge.pw_corebank_k38_match_exact.main.body.getD 6 (.Pass ⟨0, 0, 0, 0⟩)
abbrev N_first_partner : List Str := ["payment", "theirs", "left", "window", "fits", "place"]
theorem sc_first_partner : FnScope ["payment", "theirs", "left", "window", "fits", "place"] ["payment", "theirs", "left", "window", "fits"] (defScope s_first_partner) := ⟨rfl, rfl, rfl, by decide +kernel, rfl, by decide +kernel, by decide +kernel⟩
theorem ok_first_partner {P : Program} {w : World} {K : PySem.W.Frag} {mg : Str → Option Value} {base : Heap} {f : Addr} {fd : FuncData} (F : Fun K "first_partner" "first_partner" s_first_partner f fd) (b : Binds K fd ["payment", "theirs", "left", "window", "fits"] []) (hmg : mg "first_partner" = some (.ref f)) {adr : _root_.Fin 1 → Addr} {B0 : Addr} (Er : Errs K mg nm_ adr B0) (F_near_day : Fn0 P w K mg base CX0 1 "near_day" 3 (sp_near_day K)) (F_same_key : Fn0 P w K mg base CX0 1 "same_key" 3 (sp_same_key K)) :
    Fn0 P w K mg base CX0 2 "first_partner" 5 (sp_first_partner K mg) := by
  have hsl := sizeLine_eq
  refine ⟨f, fd, ["payment", "theirs", "left", "window", "fits"], fn_okR (pre := pre_first_partner K mg) (r := fun _ o => (rO rI) o) F sc_first_partner (fun i : (((List Nat) × Int × Int) × (List ((List Nat) × Int × Int)) × (List Int) × Int × Bool) => b_first_partner i.1 i.2.1 i.2.2.1 i.2.2.2.1 i.2.2.2.2) (fun i G mc vs h => ?_) (fun cdv A outer s H E i G mc cs vs hr hp => ?_), hmg, F.kp, b, rfl⟩
  · obtain ⟨_, _, _, _, _, _, h, _⟩ := h
    rw [h]
    rfl
  obtain ⟨payment_, theirs_, left_, window_, fits_⟩ := i
  obtain ⟨v0_, v1_, v3_, v4_, a2_, u2_, rfl, rfl, h2_, h0_, h1_, h3_, h4_, hpre⟩ := hp
  replace h2_ : Rs rI G left_ u2_ := h2_
  cases h3_
  show B _ _ _ [some v0_, some v1_, some (.ref a2_), some (.int window_), some v4_, none] G ((a2_, HO.lst u2_) :: cs) _ (b_first_partner payment_ theirs_ left_ window_ fits_)
  unfold b_first_partner
  try dsimp only at hpre
  refine b_for (f := (st_first_partner_1 payment_ theirs_ window_ fits_)) (s0 := ()) (xs := left_) (fun n_ (z1 : Unit) σ_ G_ cs_ => ∃ o4 : Option V, σ_ = [some v0_, some v1_, some (.ref a2_), some (.int window_), some v4_, o4] ∧ (a2_, HO.lst u2_) :: cs = cs_) (i_listC (r := rI) (d_var 2 (P := rV (.ref a2_)) rfl rfl) List.mem_cons_self h2_) (tg_name 5 sc_first_partner.nd) rfl PassesOwn.never ?_ ?_ ?_ ?_
  · intro _ s11
    exact ⟨_, rfl, rfl⟩
  · intro _ z1 _ _ _ hN
    obtain ⟨o4, rfl, rfl⟩ := hN
    exact List.mem_cons_self
  · intro pre_ x5 post_ z1 _ _ _ _ _ hxsz1 hrez1 s6 hNz1 s7 hSz1
    obtain ⟨o4, rfl, rfl⟩ := hNz1
    obtain ⟨v2, h3, rfl⟩ := hSz1
    have hltz1 : pre_.length < left_.length := by rw [hxsz1, List.length_append, List.length_cons]; omega
    have hmemz1 : x5 ∈ left_ := by rw [hxsz1]; exact List.mem_append_right _ List.mem_cons_self
    try simp only [rng_length, rng_mem, enumL_length] at hltz1 hmemz1
    show B _ _ _ _ _ _ _ (st_first_partner_1 payment_ theirs_ window_ fits_ z1 x5)
    unfold st_first_partner_1
    cases h3
    have hq := hpre _ hmemz1
    refine b_ifx (t_val (by
    obtain ⟨f_, hm_, rfl⟩ := (Mono.mono (s6.trans s7) h4_)
    cases fits_ with
    | false => exact d_callF (s := 4) (P := rB (m_same_key payment_ (ixg theirs_ x5) window_)) (payment_, (ixg theirs_ x5), window_) F_same_key hm_ rfl hr (by decide) (a_cons (P := (rT K (cc rS (cc rI (c0 rI)))) payment_) (d_var 0 (P := (rT K (cc rS (cc rI (c0 rI)))) payment_) rfl (Mono.mono (s6.trans s7) h0_)) (a_cons (P := (rT K (cc rS (cc rI (c0 rI)))) (ixg theirs_ x5)) (d_ixL (r := (rT K (cc rS (cc rI (c0 rI))))) (xs := theirs_) (i := x5) (x := (ixg theirs_ x5)) (D.imp (P := (rL K (rT K (cc rS (cc rI (c0 rI))))) theirs_) (d_var 1 (P := (rL K (rT K (cc rS (cc rI (c0 rI))))) theirs_) rfl (Mono.mono (s6.trans s7) h1_)) fun _ _ => rdL_of) (d_var 5 (P := rI x5) rfl rfl) (atI_ixg (by first | (constructor <;> omega) | (simp only [List.length_cons, List.length_nil]; constructor <;> omega) | exact ix_mod (by omega) | (simp only [decide_eq_true_eq, decide_eq_false_iff_not] at *; constructor <;> omega) | (simp only [decide_eq_true_eq, decide_eq_false_iff_not, Bool.and_eq_true, Bool.or_eq_true, Bool.or_eq_false_iff, Bool.not_eq_true', Bool.not_eq_false', Bool.not_not, ne_eq, Int.not_lt, Int.not_le] at *; constructor <;> omega)))) (a_cons (P := rI window_) (d_var 3 (P := rI window_) rfl rfl) a_nil))) (fun _ _ s_ h => by obtain ⟨v0, w0, rfl, h0, v1, w1, rfl, h1, v2, w2, rfl, h2, rfl⟩ := h; exact ⟨v0, v1, v2, rfl, h0, h1, h2⟩) fun _ _ h => h
    | true => exact d_callF (s := 4) (P := rB (m_near_day payment_ (ixg theirs_ x5) window_)) (payment_, (ixg theirs_ x5), window_) F_near_day hm_ rfl hr (by decide) (a_cons (P := (rT K (cc rS (cc rI (c0 rI)))) payment_) (d_var 0 (P := (rT K (cc rS (cc rI (c0 rI)))) payment_) rfl (Mono.mono (s6.trans s7) h0_)) (a_cons (P := (rT K (cc rS (cc rI (c0 rI)))) (ixg theirs_ x5)) (d_ixL (r := (rT K (cc rS (cc rI (c0 rI))))) (xs := theirs_) (i := x5) (x := (ixg theirs_ x5)) (D.imp (P := (rL K (rT K (cc rS (cc rI (c0 rI))))) theirs_) (d_var 1 (P := (rL K (rT K (cc rS (cc rI (c0 rI))))) theirs_) rfl (Mono.mono (s6.trans s7) h1_)) fun _ _ => rdL_of) (d_var 5 (P := rI x5) rfl rfl) (atI_ixg (by first | (constructor <;> omega) | (simp only [List.length_cons, List.length_nil]; constructor <;> omega) | exact ix_mod (by omega) | (simp only [decide_eq_true_eq, decide_eq_false_iff_not] at *; constructor <;> omega) | (simp only [decide_eq_true_eq, decide_eq_false_iff_not, Bool.and_eq_true, Bool.or_eq_true, Bool.or_eq_false_iff, Bool.not_eq_true', Bool.not_eq_false', Bool.not_not, ne_eq, Int.not_lt, Int.not_le] at *; constructor <;> omega)))) (a_cons (P := rI window_) (d_var 3 (P := rI window_) rfl rfl) a_nil))) (fun _ _ s_ h => by obtain ⟨v0, w0, rfl, h0, v1, w1, rfl, h1, v2, w2, rfl, h2, rfl⟩ := h; exact ⟨v0, v1, v2, rfl, h0, h1, h2⟩) fun _ _ h => h)) ?_ ?_
    · intro hc9 Gs10 s10
      have dhc9 := hc9
      try simp only [decide_eq_true_eq, decide_eq_false_iff_not, Bool.and_eq_true, Bool.and_eq_false_imp, Bool.or_eq_true, Bool.or_eq_false_iff, Bool.not_eq_true', Bool.not_eq_false', Bool.not_not, ne_eq, Int.not_lt, Int.not_le] at dhc9
      exact b_ret (P := (rO rI) (some x5)) (d_toO (r := rI) (d_var 5 (P := rI x5) rfl rfl)) (fun _ _ _ h => ⟨⟨[], rfl⟩, h⟩)
    · intro hc9 Gs10 s10
      have dhc9 := hc9
      try simp only [decide_eq_true_eq, decide_eq_false_iff_not, Bool.and_eq_true, Bool.and_eq_false_imp, Bool.or_eq_true, Bool.or_eq_false_iff, Bool.not_eq_true', Bool.not_eq_false', Bool.not_not, ne_eq, Int.not_lt, Int.not_le] at dhc9
      exact b_nil (by refine ⟨_, rfl, rfl⟩)
  · intro n_ z1 _ _ _ hnz1 s12 hNz1 hfz1
    obtain ⟨o4, rfl, rfl⟩ := hNz1
    try simp only [rng_length, enumL_length] at hnz1
    exact b_ret (P := (rO rI) none) (d_toN (r := rI) d_non) (fun _ _ _ h => ⟨⟨[], rfl⟩, h⟩)
end Ck38

set_option synthInstance.maxSize 10000
namespace Ck38
open PySem L2 PyProof.Rows J
abbrev s_match : Stmt := PySem.Challenge.pw_corebank_k38_match_exact.main.body.getD 7 (.Pass ⟨0, 0, 0, 0⟩)
abbrev N_match : List Str := ["ours", "theirs", "window", "pairs", "our_left", "their_left", "fits", "still_left", "place", "partner"]
theorem sc_match : FnScope ["ours", "theirs", "window", "pairs", "our_left", "their_left", "fits", "still_left", "place", "partner"] ["ours", "theirs", "window"] (defScope s_match) := ⟨rfl, rfl, rfl, by decide +kernel, rfl, by decide +kernel, by decide +kernel⟩
theorem ok_match {P : Program} {w : World} {K : PySem.W.Frag} {mg : Str → Option Value} {base : Heap} {f : Addr} {fd : FuncData} (F : Fun K "match" "match" s_match f fd) (b : Binds K fd ["ours", "theirs", "window"] []) (hmg : mg "match" = some (.ref f)) {adr : _root_.Fin 1 → Addr} {B0 : Addr} (Er : Errs K mg nm_ adr B0) (m_len : mg "len" = none) (m_list : mg "list" = none) (m_range : mg "range" = none) (F_first_partner : Fn0 P w K mg base CX0 2 "first_partner" 5 (sp_first_partner K mg)) (F_near_day : Fn0 P w K mg base CX0 1 "near_day" 3 (sp_near_day K)) (F_same_key : Fn0 P w K mg base CX0 1 "same_key" 3 (sp_same_key K)) :
    Fn0 P w K mg base (L2.CX P w) 3 "match" 3 (sp_match K adr) := by
  have hsl := sizeLine_eq
  refine fn_mkE (cE := cE adr) F sc_match b hmg (fun i : (((List ((List Nat) × Int × Int)) × (List ((List Nat) × Int × Int)) × Int) × Hp) => b_match i.1.1 i.1.2.1 i.1.2.2) (fun i G vs h => ?_) (fun cdv A outer s H E i G cs vs hr hp => ?_)
  · obtain ⟨v0_, v1_, v2_, h, _⟩ := h
    rw [h]
    rfl
  obtain ⟨⟨ours_, theirs_, window_⟩, G0_⟩ := i
  obtain ⟨v0_, v1_, v2_, rfl, h0_, h1_, h2_, hG0, hpre⟩ := hp
  cases h2_
  show B _ (wE2 adr (fun c d _ H => E c d H)) _ [some v0_, some v1_, some (.int window_), none, none, none, none, none, none, none] G cs _ (b_match ours_ theirs_ window_)
  unfold b_match
  try dsimp only at hpre
  have hp1 := hpre.1
  have hp2 := hpre.2
  refine b_ifx (t_cmp op_lt (nomark _) (d_var 2 (P := rI window_) rfl rfl) d_int fun _ _ _ _ _ _ hx hy _ q => c_lt hx hy q) ?_ ?_
  · intro hc1 Gs2 s2
    have dhc1 := hc1
    try simp only [decide_eq_true_eq, decide_eq_false_iff_not, Bool.and_eq_true, Bool.and_eq_false_imp, Bool.or_eq_true, Bool.or_eq_false_iff, Bool.not_eq_true', Bool.not_eq_false', Bool.not_not, ne_eq, Int.not_lt, Int.not_le] at dhc1
    exact b_raise 0 Er rfl (takes_of rfl rfl rfl rfl) rfl ⟨[], rfl⟩
  · intro hc1 Gs2 s2
    have dhc1 := hc1
    try simp only [decide_eq_true_eq, decide_eq_false_iff_not, Bool.and_eq_true, Bool.and_eq_false_imp, Bool.or_eq_true, Bool.or_eq_false_iff, Bool.not_eq_true', Bool.not_eq_false', Bool.not_not, ne_eq, Int.not_lt, Int.not_le] at dhc1
    refine b_setN 3 sc_match.nd (n_lst (r := (rT K (cc rI (c0 rI)))) (xs := ([] : (List (Int × Int)))) a_nil ls_n) (fun l4 us5 Gs6 s6 h7 => ?_)
    refine letV_intro (fun pairs_3 epairs_3 => ?_)
    rw [← epairs_3] at h7
    have npairs_3 : pairs_3.length = 0 := by rw [epairs_3]; rfl
    refine b_setV (r := (rLF G0_ rI)) 4 sc_match.nd (d_newF (hG0.trans (s2.trans s6)) (n_listRg rfl m_list m_range (d_lenL (r := (rT K (cc rS (cc rI (c0 rI))))) m_len (D.imp (P := (rL K (rT K (cc rS (cc rI (c0 rI))))) ours_) (d_var 0 (P := (rL K (rT K (cc rS (cc rI (c0 rI))))) ours_) rfl (Mono.mono (s2.trans s6) h0_)) fun _ _ => rdL_of)) (by constructor <;> omega))) (fun our_left_8 eour_left_8 v10 Gs9 s9 h11 => ?_)
    refine b_setN 5 sc_match.nd (n_listRg rfl m_list m_range (d_lenL (r := (rT K (cc rS (cc rI (c0 rI))))) m_len (D.imp (P := (rL K (rT K (cc rS (cc rI (c0 rI))))) theirs_) (d_var 1 (P := (rL K (rT K (cc rS (cc rI (c0 rI))))) theirs_) rfl (Mono.mono (s2.trans (s6.trans s9)) h1_)) fun _ _ => rdL_of)) (by constructor <;> omega)) (fun l13 us14 Gs15 s15 h16 => ?_)
    refine letV_intro (fun their_left_12 etheir_left_12 => ?_)
    rw [← etheir_left_12] at h16
    refine b_for (f := (st_match_1 ours_ theirs_ window_)) (s0 := (pairs_3, our_left_8, their_left_12)) (xs := [(false, true).1, (false, true).2]) (fun n_ (z17 : ((List (Int × Int)) × (List Int) × (List Int))) σ_ G_ cs_ => ∃ us20 : List V, ∃ v22 : V, ∃ us24 : List V, ∃ o26 : Option V, ∃ o27 : Option V, ∃ o28 : Option V, ∃ o29 : Option V, σ_ = [some v0_, some v1_, some (.int window_), some (.ref l4), some v22, some (.ref l13), o26, o27, o28, o29] ∧ (l13, HO.lst us24) :: (l4, HO.lst us20) :: cs = cs_ ∧ Rs (rT K (cc rI (c0 rI))) G_ z17.1 us20 ∧ (rLF G0_ rI) z17.2.1 G_ v22 ∧ Rs rI G_ z17.2.2 us24 ∧ (In ours_ z17.2.1 ∧ In theirs_ z17.2.2 ∧ z17.2.1.length ≤ 1000 ∧ z17.1.length ≤ 1000 * n_)) (i_tupU (r := (rFn mg "same_key" "near_day")) (d_homT (r := (cc (rFn mg "same_key" "near_day") (c0 (rFn mg "same_key" "near_day")))) (d_tup (r := (cc (rFn mg "same_key" "near_day") (c0 (rFn mg "same_key" "near_day")))) (x := (false, true)) (a_cons (P := (rFn mg "same_key" "near_day") false) (d_fn (x := "same_key") (y := "near_day") (c := false) F_same_key rfl) (a_cons (P := (rFn mg "same_key" "near_day") true) (d_fn (x := "same_key") (y := "near_day") (c := true) F_near_day rfl) a_nil)) (tp_c tp_1)))) (tg_name 6 sc_match.nd) rfl (passes_of rfl) ?_ ?_ ?_ ?_
    · intro _ s82
      exact ⟨_, _, _, _, _, _, _, rfl, rfl, (Rs.mono (s9.trans (s15.trans s82)) h7), (Mono.mono (s15.trans s82) h11), (Rs.mono s82 h16), by (subst_vars; exact ⟨In.rng, In.rng, by rw [rng_length]; omega, by simp⟩)⟩
    · intro _ _ _ _ _ _
      trivial
    · intro pre_ x30 post_ z17 _ _ _ _ _ hxsz17 hrez17 s31 hNz17 s32 hSz17
      obtain ⟨us20, v22, us24, o26, o27, o28, o29, rfl, rfl, h21, h23, h25, hbz17⟩ := hNz17
      obtain ⟨v18, h19, rfl⟩ := hSz17
      have hltz17 : pre_.length < [(false, true).1, (false, true).2].length := by rw [hxsz17, List.length_append, List.length_cons]; omega
      have hmemz17 : x30 ∈ [(false, true).1, (false, true).2] := by rw [hxsz17]; exact List.mem_append_right _ List.mem_cons_self
      try simp only [rng_length, rng_mem, enumL_length] at hltz17 hmemz17
      show B _ _ _ _ _ _ _ (st_match_1 ours_ theirs_ window_ z17 x30)
      unfold st_match_1
      have hA := hbz17
      have hA2 : z17.1.length ≤ 1000 := by
              have h2l : pre_.length < 2 := by simpa using hltz17
              omega
      refine b_setN 7 sc_match.nd (n_lst (r := rI) (xs := ([] : (List Int))) a_nil ls_n) (fun l35 us36 Gs37 s37 h38 => ?_)
      refine letV_intro (fun still_left_34 estill_left_34 => ?_)
      rw [← estill_left_34] at h38
      have nstill_left_34 : still_left_34.length = 0 := by rw [estill_left_34]; rfl
      refine b_for (f := (st_match_2 ours_ theirs_ window_ x30)) (s0 := (z17.1, z17.2.2, still_left_34)) (xs := z17.2.1) (fun n_ (z39 : ((List (Int × Int)) × (List Int) × (List Int))) σ_ G_ cs_ => ∃ us42 : List V, ∃ us44 : List V, ∃ us46 : List V, ∃ o48 : Option V, ∃ o49 : Option V, σ_ = [some v0_, some v1_, some (.int window_), some (.ref l4), some v22, some (.ref l13), some v18, some (.ref l35), o48, o49] ∧ (l35, HO.lst us46) :: (l13, HO.lst us44) :: (l4, HO.lst us42) :: cs = cs_ ∧ Rs (rT K (cc rI (c0 rI))) G_ z39.1 us42 ∧ Rs rI G_ z39.2.1 us44 ∧ Rs rI G_ z39.2.2 us46 ∧ z39.1.length ≤ z17.1.length + 1 * n_ ∧ z39.2.1.length ≤ z17.2.2.length + 1 * n_ ∧ z39.2.2.length ≤ still_left_34.length + 1 * n_ ∧ (In theirs_ z39.2.1 ∧ In ours_ z39.2.2)) (i_listF (r := rI) (D.imp (d_var 4 (P := (rLF G0_ rI) z17.2.1) rfl (Mono.mono (s32.trans s37) h23)) fun _ _ h => rLF.rL h)) (tg_name 8 sc_match.nd) rfl (passes_of rfl) ?_ ?_ ?_ ?_
      · intro _ s74
        exact ⟨_, _, _, _, _, rfl, rfl, (Rs.mono (s32.trans (s37.trans s74)) h21), (Rs.mono (s32.trans (s37.trans s74)) h25), (Rs.mono s74 h38), ⟨Nat.le_add_right _ _, Nat.le_add_right _ _, Nat.le_add_right _ _, by (exact ⟨hA.2.1, by rw [estill_left_34]; exact In.nil⟩)⟩⟩
      · intro _ _ _ _ _ _
        trivial
      · intro pre_ x50 post_ z39 _ _ _ _ _ hxsz39 hrez39 s51 hNz39 s52 hSz39
        obtain ⟨us42, us44, us46, o48, o49, rfl, rfl, h43, h45, h47, hbz39⟩ := hNz39
        obtain ⟨v40, h41, rfl⟩ := hSz39
        have hltz39 : pre_.length < z17.2.1.length := by rw [hxsz39, List.length_append, List.length_cons]; omega
        have hmemz39 : x50 ∈ z17.2.1 := by rw [hxsz39]; exact List.mem_append_right _ List.mem_cons_self
        try simp only [rng_length, rng_mem, enumL_length] at hltz39 hmemz39
        show B _ _ _ _ _ _ _ (st_match_2 ours_ theirs_ window_ x30 z39 x50)
        unfold st_match_2
        cases h41
        have hB := hbz39.2.2.2
        have hq := hA.1 _ hmemz39
        refine b_setV (r := (rO rI)) 9 sc_match.nd (d_callR (P := (rO rI) (m_first_partner (ixg ours_ x50) theirs_ z39.2.1 window_ x30)) ((ixg ours_ x50), theirs_, z39.2.1, window_, x30) F_first_partner hr (by decide) (a_cons (P := (rT K (cc rS (cc rI (c0 rI)))) (ixg ours_ x50)) (d_ixL (r := (rT K (cc rS (cc rI (c0 rI))))) (xs := ours_) (i := x50) (x := (ixg ours_ x50)) (D.imp (P := (rL K (rT K (cc rS (cc rI (c0 rI))))) ours_) (d_var 0 (P := (rL K (rT K (cc rS (cc rI (c0 rI))))) ours_) rfl (Mono.mono (s2.trans (s6.trans (s9.trans (s15.trans (s31.trans (s32.trans (s37.trans (s51.trans s52)))))))) h0_)) fun _ _ => rdL_of) (d_var 8 (P := rI x50) rfl rfl) (atI_ixg (by first | (constructor <;> omega) | (simp only [List.length_cons, List.length_nil]; constructor <;> omega) | exact ix_mod (by omega) | (simp only [decide_eq_true_eq, decide_eq_false_iff_not] at *; constructor <;> omega) | (simp only [decide_eq_true_eq, decide_eq_false_iff_not, Bool.and_eq_true, Bool.or_eq_true, Bool.or_eq_false_iff, Bool.not_eq_true', Bool.not_eq_false', Bool.not_not, ne_eq, Int.not_lt, Int.not_le] at *; constructor <;> omega)))) (a_cons (P := (rL K (rT K (cc rS (cc rI (c0 rI))))) theirs_) (d_var 1 (P := (rL K (rT K (cc rS (cc rI (c0 rI))))) theirs_) rfl (Mono.mono (s2.trans (s6.trans (s9.trans (s15.trans (s31.trans (s32.trans (s37.trans (s51.trans s52)))))))) h1_)) (a_cons (P := rV (.ref l13)) (d_var 5 (P := rV (.ref l13)) rfl rfl) (a_cons (P := rI window_) (d_var 2 (P := rI window_) rfl rfl) (a_cons (P := (rFn mg "same_key" "near_day") x30) (d_var 6 (P := (rFn mg "same_key" "near_day") x30) rfl (Mono.mono (s37.trans (s51.trans s52)) h19)) a_nil))))) (fun _ _ s_ h => by obtain ⟨v0, w0, rfl, h0, v1, w1, rfl, h1, v2, w2, rfl, h2, v3, w3, rfl, h3, v4, w4, rfl, h4, rfl⟩ := h; cases h2; exact ⟨[(l13, HO.lst us44)], (l35, HO.lst us46) :: (l4, HO.lst us42) :: cs, (perm_to (k := 1) rfl (List.Perm.refl _)), ⟨_, _, _, _, _, _, rfl, rfl, (Rs.mono (s52.trans s_) h45), h0, h1, h3, h4, (by exact hB.1)⟩⟩) fun _ _ h => h) (fun partner_54 epartner_54 v56 Gs55 s55 h57 => ?_)
        have hpt : ∀ q, partner_54 = some q → q ∈ z39.2.1 := fun q hq => partner_mem (by rw [← epartner_54]; exact hq)
        refine b_ifl (t_isN (r := rI) (d_var 9 (P := (rO rI) partner_54) rfl h57)) ?_ ?_
        · intro hc58 Gs59 s59
          have dhc58 := hc58
          try simp only [decide_eq_true_eq, decide_eq_false_iff_not, Bool.and_eq_true, Bool.and_eq_false_imp, Bool.or_eq_true, Bool.or_eq_false_iff, Bool.not_eq_true', Bool.not_eq_false', Bool.not_not, ne_eq, Int.not_lt, Int.not_le] at dhc58
          refine b_app 0 (P := rI x50) rfl (d_var 7 (P := rV (.ref l35)) rfl rfl) (d_var 8 (P := rI x50) rfl rfl) (by have hq := Rs.length h47; omega) (fun v60 Gs61 s61 h62 => ?_)
          have h64 := Rs.snoc h62 (Rs.mono (s52.trans (s55.trans (s59.trans s61))) h47)
          refine letV_intro (fun still_left_63 estill_left_63 => ?_)
          rw [← estill_left_63] at h64
          have nstill_left_63 : still_left_63.length = z39.2.2.length + 1 := by rw [estill_left_63, List.length_append]; rfl
          exact b_nil (by refine ⟨_, _, _, _, _, rfl, rfl, (Rs.mono (s52.trans (s55.trans (s59.trans s61))) h43), (Rs.mono (s52.trans (s55.trans (s59.trans s61))) h45), h64, ⟨by first | omega | (simp only [List.length_append, List.length_cons, List.length_nil] at *; omega), by first | omega | (simp only [List.length_append, List.length_cons, List.length_nil] at *; omega), by first | omega | (simp only [List.length_append, List.length_cons, List.length_nil] at *; omega), by first | exact ⟨hB.1, In.snoc hB.2 (by assumption)⟩ | exact ⟨In.erase hB.1, hB.2⟩ | (subst_vars; first | exact ⟨hB.1, In.snoc hB.2 (by assumption)⟩ | exact ⟨In.erase hB.1, hB.2⟩)⟩⟩)
        · intro hc58 Gs59 s59
          have dhc58 := hc58
          try simp only [decide_eq_true_eq, decide_eq_false_iff_not, Bool.and_eq_true, Bool.and_eq_false_imp, Bool.or_eq_true, Bool.or_eq_false_iff, Bool.not_eq_true', Bool.not_eq_false', Bool.not_not, ne_eq, Int.not_lt, Int.not_le] at dhc58
          refine b_app 2 (P := (rT K (cc rI (c0 rI))) (x50, (oGet partner_54))) rfl (d_var 3 (P := rV (.ref l4)) rfl rfl) (d_tup (r := (cc rI (c0 rI))) (x := (x50, (oGet partner_54))) (a_cons (P := rI x50) (d_var 8 (P := rI x50) rfl rfl) (a_cons (P := rI (oGet partner_54)) (d_unO (r := rI) (d_var 9 (P := (rO rI) partner_54) rfl (Mono.mono s59 h57)) (by first | exact oS1 (by assumption) | exact oS2 (by assumption))) a_nil)) (tp_c tp_1)) (by have hq := Rs.length h43; omega) (fun v65 Gs66 s66 h67 => ?_)
          have h69 := Rs.snoc h67 (Rs.mono (s52.trans (s55.trans (s59.trans s66))) h43)
          refine letV_intro (fun pairs_68 epairs_68 => ?_)
          rw [← epairs_68] at h69
          have npairs_68 : pairs_68.length = z39.1.length + 1 := by rw [epairs_68, List.length_append]; rfl
          refine b_remove 1 (ns := z39.2.1) (i := (oGet partner_54)) rfl (d_var 5 (P := rV (.ref l13)) rfl rfl) (d_unO (r := rI) (d_var 9 (P := (rO rI) partner_54) rfl (Mono.mono (s59.trans s66) h57)) (by first | exact oS1 (by assumption) | exact oS2 (by assumption))) (Rs.mono (s52.trans (s55.trans (s59.trans s66))) h45) (by exact oget_mem (by assumption) hpt) (fun us70 Gs71 s71 h72 => ?_)
          refine letV_intro (fun their_left_73 etheir_left_73 => ?_)
          rw [← etheir_left_73] at h72
          have ntheir_left_73 : their_left_73.length ≤ z39.2.1.length := by rw [etheir_left_73]; exact List.length_erase_le
          exact b_nil (by refine ⟨_, _, _, _, _, rfl, rfl, (Rs.mono s71 h69), h72, (Rs.mono (s52.trans (s55.trans (s59.trans (s66.trans s71)))) h47), ⟨by first | omega | (simp only [List.length_append, List.length_cons, List.length_nil] at *; omega), by first | omega | (simp only [List.length_append, List.length_cons, List.length_nil] at *; omega), by first | omega | (simp only [List.length_append, List.length_cons, List.length_nil] at *; omega), by first | exact ⟨hB.1, In.snoc hB.2 (by assumption)⟩ | exact ⟨In.erase hB.1, hB.2⟩ | (subst_vars; first | exact ⟨hB.1, In.snoc hB.2 (by assumption)⟩ | exact ⟨In.erase hB.1, hB.2⟩)⟩⟩)
      · intro n_ z39 _ _ _ hnz39 s75 hNz39 hfz39
        obtain ⟨us42, us44, us46, o48, o49, rfl, rfl, h43, h45, h47, hbz39⟩ := hNz39
        try simp only [rng_length, enumL_length] at hnz39
        have hzs76 := h47
        refine b_freezeF 0 rfl (fun s76 h77 hns76 => ?_)
        have kh77 : (rLF G0_ rI) z39.2.2 _ (.ref l35) := ⟨_, _, rfl, h77, none_of (hG0.trans (s2.trans (s6.trans (s9.trans (s15.trans (s31.trans (s32.trans (s37.trans s75)))))))) hns76, Rs.mono s76 hzs76⟩
        refine b_setV (r := (rLF G0_ rI)) 4 sc_match.nd (d_var 7 (P := (rLF G0_ rI) z39.2.2) rfl kh77) (fun our_left_78 eour_left_78 v80 Gs79 s79 h81 => ?_)
        exact b_nil (by refine ⟨_, _, _, _, _, _, _, rfl, rfl, (Rs.mono (s76.trans s79) h43), h81, (Rs.mono (s76.trans s79) h45), by (refine ⟨?_, hbz39.2.2.2.1, ?_, ?_⟩ <;> first | (rw [eour_left_78]; exact hbz39.2.2.2.2) | (dsimp only; rw [eour_left_78]; omega) | (dsimp only; omega))⟩)
    · intro n_ z17 _ _ _ hnz17 s83 hNz17 hfz17
      obtain ⟨us20, v22, us24, o26, o27, o28, o29, rfl, rfl, h21, h23, h25, hbz17⟩ := hNz17
      try simp only [rng_length, enumL_length] at hnz17
      have hzs84 := h25
      refine b_freeze 0 rfl (fun s84 h85 => ?_)
      have kh85 : (rL K rI) z17.2.2 _ (.ref l13) := ⟨_, _, rfl, SqL.of h85, Rs.mono s84 hzs84⟩
      obtain ⟨l1_, us1_, ev1_, hl1_, hn1_, hr1_⟩ := (Mono.mono s84 h23)
      have hr0_ := (Rs.mono s84 h21)
      refine b_freezeF 0 rfl (fun s86 h87 hn_ => ?_)
      have ne_ := ne_by hn_ hl1_
      exact b_ret (P := rMt K G0_ (z17.1, z17.2.1, z17.2.2)) (D.imp (d_tup (r := (cc (rLA G0_ l4 us20 (rPr K)) (cc (rLA G0_ l1_ us1_ rI) (c0 (rL K rI))))) (x := (z17.1, z17.2.1, z17.2.2)) (a_cons (d_var 3 (P := rLA G0_ l4 us20 (rPr K) z17.1) rfl ⟨rfl, h87, none_of (hG0.trans ((s2.trans (s6.trans (s9.trans (s15.trans (s83.trans s84))))))) hn_, Rs.mono s86 hr0_⟩) (a_cons (d_var 4 (P := rLA G0_ l1_ us1_ rI z17.2.1) rfl ⟨ev1_, s86 _ _ hl1_, hn1_, Rs.mono s86 hr1_⟩) (a_cons (d_var 5 (P := rL K rI z17.2.2) rfl (Mono.mono s86 kh85)) a_nil))) (tp_c (tp_c tp_1))) fun _ _ h => rMt_of ne_ h) (fun _ _ _ h => ⟨⟨[], rfl⟩, h⟩)
end Ck38

set_option synthInstance.maxSize 10000
namespace Ck38
open PySem L2 PyProof.Rows J
abbrev s_law_cell : Stmt := PySem.Challenge.pw_corebank_k38_match_exact.main.body.getD 9 (.Pass ⟨0, 0, 0, 0⟩)
abbrev N_law_cell : List Str := ["_law_script", "_law_k"]
theorem sc_law_cell : FnScope ["_law_script", "_law_k"] ["_law_script", "_law_k"] (defScope s_law_cell) := ⟨rfl, rfl, rfl, by decide +kernel, rfl, by decide +kernel, by decide +kernel⟩
theorem ok_law_cell {P : Program} {w : World} {K : PySem.W.Frag} {mg : Str → Option Value} {base : Heap} {f : Addr} {fd : FuncData} (F : Fun K "_law_cell" "_law_cell" s_law_cell f fd) (b : Binds K fd ["_law_script", "_law_k"] []) (hmg : mg "_law_cell" = some (.ref f)) {adr : _root_.Fin 1 → Addr} {B0 : Addr} (Er : Errs K mg nm_ adr B0) (m_len : mg "len" = none) :
    Fn0 P w K mg base CX0 1 "_law_cell" 2 (sp_law_cell K) := by
  have hsl := sizeLine_eq
  refine fn_mk F sc_law_cell b hmg (fun i : ((List Int) × Int) => b_law_cell i.1 i.2) (fun i G vs h => ?_) (fun cdv A outer s H E i G cs vs hr hp => ?_)
  · obtain ⟨v0_, v1_, h, _⟩ := h
    rw [h]
    rfl
  obtain ⟨script_, k_⟩ := i
  obtain ⟨v0_, v1_, rfl, h0_, h1_, hpre⟩ := hp
  cases h1_
  show B _ _ _ [some v0_, some (.int k_)] G cs _ (b_law_cell script_ k_)
  unfold b_law_cell
  try dsimp only at hpre
  refine b_ifx (t_cmp op_lt (nomark _) (d_var 1 (P := rI k_) rfl rfl) (d_lenL (r := rI) m_len (D.imp (P := (rL K rI) script_) (d_var 0 (P := (rL K rI) script_) rfl h0_) fun _ _ => rdL_of)) fun _ _ _ _ _ _ hx hy _ q => c_lt hx hy q) ?_ ?_
  · intro hc1 Gs2 s2
    have dhc1 := hc1
    try simp only [decide_eq_true_eq, decide_eq_false_iff_not, Bool.and_eq_true, Bool.and_eq_false_imp, Bool.or_eq_true, Bool.or_eq_false_iff, Bool.not_eq_true', Bool.not_eq_false', Bool.not_not, ne_eq, Int.not_lt, Int.not_le] at dhc1
    exact b_ret (P := rI (ixg script_ k_)) (d_ixL (r := rI) (xs := script_) (i := k_) (x := (ixg script_ k_)) (D.imp (P := (rL K rI) script_) (d_var 0 (P := (rL K rI) script_) rfl (Mono.mono s2 h0_)) fun _ _ => rdL_of) (d_var 1 (P := rI k_) rfl rfl) (atI_ixg (by (constructor <;> omega)))) (fun _ _ _ h => ⟨⟨[], rfl⟩, h⟩)
  · intro hc1 Gs2 s2
    have dhc1 := hc1
    try simp only [decide_eq_true_eq, decide_eq_false_iff_not, Bool.and_eq_true, Bool.and_eq_false_imp, Bool.or_eq_true, Bool.or_eq_false_iff, Bool.not_eq_true', Bool.not_eq_false', Bool.not_not, ne_eq, Int.not_lt, Int.not_le] at dhc1
    exact b_ret (P := rI 0) d_int (fun _ _ _ h => ⟨⟨[], rfl⟩, h⟩)
end Ck38

set_option synthInstance.maxSize 10000
namespace Ck38
open PySem L2 PyProof.Rows J
abbrev s_law_pick : Stmt := PySem.Challenge.pw_corebank_k38_match_exact.main.body.getD 11 (.Pass ⟨0, 0, 0, 0⟩)
abbrev N_law_pick : List Str := ["_law_source_here", "_law_many", "_law_picked", "_law_mixed"]
theorem sc_law_pick : FnScope ["_law_source_here", "_law_many", "_law_picked", "_law_mixed"] ["_law_source_here", "_law_many"] (defScope s_law_pick) := ⟨rfl, rfl, rfl, by decide +kernel, rfl, by decide +kernel, by decide +kernel⟩
theorem ok_law_pick {P : Program} {w : World} {K : PySem.W.Frag} {mg : Str → Option Value} {base : Heap} {f : Addr} {fd : FuncData} (F : Fun K "_law_pick" "_law_pick" s_law_pick f fd) (b : Binds K fd ["_law_source_here", "_law_many"] []) (hmg : mg "_law_pick" = some (.ref f)) {adr : _root_.Fin 1 → Addr} {B0 : Addr} (Er : Errs K mg nm_ adr B0) (m_int : mg "int" = none) :
    Fn0 P w K mg base CX0 1 "_law_pick" 2 (sp_law_pick K) := by
  have hsl := sizeLine_eq
  refine ⟨f, fd, ["_law_source_here", "_law_many"], fn_okM (pre := pre_law_pick K) (post := post_law_pick K) F sc_law_pick b (fun i : ((List Int) × Int) => b_law_pick i.1 i.2) (fun i G mc vs h => ?_) (fun cdv A outer s H E i G mc cs vs hr hp => ?_), hmg, F.kp, b, rfl⟩
  · obtain ⟨_, _, _, h, _⟩ := h
    rw [h]
    rfl
  obtain ⟨source_here_, many_⟩ := i
  obtain ⟨v1_, a0_, u0_, rfl, rfl, h0_, h1_, hpre⟩ := hp
  replace h0_ : Rs rI G source_here_ u0_ := h0_
  cases h1_
  show B _ _ _ [some (.ref a0_), some (.int many_), none, none] G ((a0_, HO.lst u0_) :: cs) _ (b_law_pick source_here_ many_)
  unfold b_law_pick
  try dsimp only at hpre
  have hl := hpre.1
  have hm := hpre.2.1
  have hm2 := hpre.2.2
  refine b_ifx (t_cmp op_gt (nomark _) (d_ixL (r := rI) (xs := source_here_) (i := 0) (x := (ixg source_here_ 0)) (d_var 0 (P := rdL K _ rI source_here_) rfl (rdL_cell List.mem_cons_self h0_)) d_int (atI_ixg (by (constructor <;> omega)))) d_int fun _ _ _ _ _ _ hx hy _ q => c_gt hx hy q) ?_ ?_
  · intro hc1 Gs2 s2
    have dhc1 := hc1
    try simp only [decide_eq_true_eq, decide_eq_false_iff_not, Bool.and_eq_true, Bool.and_eq_false_imp, Bool.or_eq_true, Bool.or_eq_false_iff, Bool.not_eq_true', Bool.not_eq_false', Bool.not_not, ne_eq, Int.not_lt, Int.not_le] at dhc1
    refine b_setV (r := rI) 2 sc_law_pick.nd (d_mod (d_int1 m_int (d_ixL (r := rI) (xs := source_here_) (i := 0) (x := (ixg source_here_ 0)) (d_var 0 (P := rdL K _ rI source_here_) rfl (rdL_cell List.mem_cons_self (Rs.mono s2 h0_))) d_int (atI_ixg (by (constructor <;> omega))))) (d_var 1 (P := rI many_) rfl rfl) (by omega)) (fun picked_3 epicked_3 v5 Gs4 s4 h6 => ?_)
    cases h6
    refine b_put 0 (P := rI ((ixg source_here_ 0) / many_)) (z := 0) (j := ((ixN u0_.length 0).getD 0)) rfl (d_fdiv (d_ixL (r := rI) (xs := source_here_) (i := 0) (x := (ixg source_here_ 0)) (d_var 0 (P := rdL K _ rI source_here_) rfl (rdL_cell List.mem_cons_self (Rs.mono (s2.trans s4) h0_))) d_int (atI_ixg (by (constructor <;> omega)))) (d_var 1 (P := rI many_) rfl rfl) (divS (by omega) (by omega))) (d_var 0 (P := rV (.ref a0_)) rfl rfl) d_int (ixN_ok (by rw [← Rs.length h0_]; exact (by (constructor <;> omega)))) (fun v7 Gs8 s8 h9 => ?_)
    have h11 := Rs.put h9 (Rs.mono (s2.trans (s4.trans s8)) h0_) 0
    refine letV_intro (fun source_here_10 esource_here_10 => ?_)
    rw [← esource_here_10] at h11
    have nsource_here_10 : source_here_10.length = source_here_.length := by rw [esource_here_10, putL_len]
    exact b_ret (P := rI picked_3) (d_var 2 (P := rI picked_3) rfl rfl) (fun v_ Gs12 s12 h_ => ⟨[], [(a0_, HO.lst (u0_.set ((ixN u0_.length 0).getD 0) v7))], (List.Perm.refl _), ⟨_, _, _, rfl, rfl, (Rs.mono s12 h11), h_⟩⟩)
  · intro hc1 Gs2 s2
    have dhc1 := hc1
    try simp only [decide_eq_true_eq, decide_eq_false_iff_not, Bool.and_eq_true, Bool.and_eq_false_imp, Bool.or_eq_true, Bool.or_eq_false_iff, Bool.not_eq_true', Bool.not_eq_false', Bool.not_not, ne_eq, Int.not_lt, Int.not_le] at dhc1
    refine b_put 0 (P := rI ((((ixg source_here_ 1) * 48271) + 12345) % 2147483647)) (z := 1) (j := ((ixN u0_.length 1).getD 0)) rfl (d_mod (d_int1 m_int (d_add (d_mul (d_ixL (r := rI) (xs := source_here_) (i := 1) (x := (ixg source_here_ 1)) (d_var 0 (P := rdL K _ rI source_here_) rfl (rdL_cell List.mem_cons_self (Rs.mono s2 h0_))) d_int (atI_ixg (by (constructor <;> omega)))) d_int (.inr ⟨by omega, by omega⟩)) d_int)) d_int (by decide)) (d_var 0 (P := rV (.ref a0_)) rfl rfl) d_int (ixN_ok (by rw [← Rs.length h0_]; exact (by (constructor <;> omega)))) (fun v13 Gs14 s14 h15 => ?_)
    have h17 := Rs.put h15 (Rs.mono (s2.trans s14) h0_) 1
    refine letV_intro (fun source_here_16 esource_here_16 => ?_)
    rw [← esource_here_16] at h17
    have nsource_here_16 : source_here_16.length = source_here_.length := by rw [esource_here_16, putL_len]
    refine b_setV (r := rI) 3 sc_law_pick.nd (d_mod (d_int1 m_int (d_add (d_add (d_mul (d_ixL (r := rI) (xs := source_here_16) (i := 1) (x := (ixg source_here_16 1)) (d_var 0 (P := rdL K _ rI source_here_16) rfl (rdL_cell List.mem_cons_self h17)) d_int (atI_ixg (by (constructor <;> omega)))) d_int (.inr ⟨by omega, by omega⟩)) (d_fdiv (d_ixL (r := rI) (xs := source_here_16) (i := 1) (x := (ixg source_here_16 1)) (d_var 0 (P := rdL K _ rI source_here_16) rfl (rdL_cell List.mem_cons_self h17)) d_int (atI_ixg (by (constructor <;> omega)))) d_int (divW (by decide) (by decide +kernel)))) d_int)) d_int (by decide)) (fun mixed_18 emixed_18 v20 Gs19 s19 h21 => ?_)
    cases h21
    exact b_ret (P := rI ((mixed_18 / 16) % many_)) (d_mod (d_int1 m_int (d_fdiv (d_var 3 (P := rI mixed_18) rfl rfl) d_int (divW (by decide) (by decide +kernel)))) (d_var 1 (P := rI many_) rfl rfl) (by omega)) (fun v_ Gs22 s22 h_ => ⟨[], [(a0_, HO.lst (u0_.set ((ixN u0_.length 1).getD 0) v13))], (List.Perm.refl _), ⟨_, _, _, rfl, rfl, (Rs.mono (s19.trans s22) h17), h_⟩⟩)
end Ck38

set_option synthInstance.maxSize 10000
namespace Ck38
open PySem L2 PyProof.Rows J
abbrev s_law_matched : Stmt := PySem.Challenge.pw_corebank_k38_match_exact.main.body.getD 13 (.Pass ⟨0, 0, 0, 0⟩)
abbrev N_law_matched : List Str := ["_law_ours", "_law_theirs", "_law_window", "_law_pairs", "_law_mine", "_law_used", "_law_turn", "_law_k", "_law_j", "_law_fits", "_law_left", "_law_one", "_law_other"]
theorem sc_law_matched : FnScope ["_law_ours", "_law_theirs", "_law_window", "_law_pairs", "_law_mine", "_law_used", "_law_turn", "_law_k", "_law_j", "_law_fits", "_law_left", "_law_one", "_law_other"] ["_law_ours", "_law_theirs", "_law_window"] (defScope s_law_matched) := ⟨rfl, rfl, rfl, by decide +kernel, rfl, by decide +kernel, by decide +kernel⟩
theorem ok_law_matched {P : Program} {w : World} {K : PySem.W.Frag} {mg : Str → Option Value} {base : Heap} {f : Addr} {fd : FuncData} (F : Fun K "_law_matched" "_law_matched" s_law_matched f fd) (b : Binds K fd ["_law_ours", "_law_theirs", "_law_window"] []) (hmg : mg "_law_matched" = some (.ref f)) {adr : _root_.Fin 1 → Addr} {B0 : Addr} (Er : Errs K mg nm_ adr B0) (m_abs : mg "abs" = none) (m_len : mg "len" = none) (m_range : mg "range" = none) :
    Fn0 P w K mg base CX0 1 "_law_matched" 3 (sp_law_matched K) := by
  have hsl := sizeLine_eq
  refine fn_mk F sc_law_matched b hmg (fun i : ((List ((List Nat) × Int × Int)) × (List ((List Nat) × Int × Int)) × Int) => b_law_matched i.1 i.2.1 i.2.2) (fun i G vs h => ?_) (fun cdv A outer s H E i G cs vs hr hp => ?_)
  · obtain ⟨v0_, v1_, v2_, h, _⟩ := h
    rw [h]
    rfl
  obtain ⟨ours_, theirs_, window_⟩ := i
  obtain ⟨v0_, v1_, v2_, rfl, h0_, h1_, h2_, hpre⟩ := hp
  cases h2_
  show B _ _ _ [some v0_, some v1_, some (.int window_), none, none, none, none, none, none, none, none, none, none] G cs _ (b_law_matched ours_ theirs_ window_)
  unfold b_law_matched
  try dsimp only at hpre
  have hp1 := hpre.1
  have hp2 := hpre.2
  refine b_setN 3 sc_law_matched.nd (n_lst (r := (rT K (cc rI (c0 rI)))) (xs := ([] : (List (Int × Int)))) a_nil ls_n) (fun l2 us3 Gs4 s4 h5 => ?_)
  refine letV_intro (fun pairs_1 epairs_1 => ?_)
  rw [← epairs_1] at h5
  have npairs_1 : pairs_1.length = 0 := by rw [epairs_1]; rfl
  refine b_setN 4 sc_law_matched.nd (n_lc (C := fun _ => True) (own := [("_law_one", 11)]) (xs := ours_) (r := (rO rI)) (f := (fun one_ : ((List Nat) × Int × Int) => none)) rfl sc_law_matched.nd (blkOk_by (N := N_law_matched) (sc := defScope s_law_matched) (by decide +kernel)) (i_listF (r := (rT K (cc rS (cc rI (c0 rI))))) (d_var 0 (P := (rL K (rT K (cc rS (cc rI (c0 rI))))) ours_) rfl (Mono.mono s4 h0_))) (tgb_name 11 sc_law_matched.nd) (fun _ _ => trivial) (fun _ _ _ ⟨_, _, e⟩ => by subst e; exact wipe1) (fun (one_ : ((List Nat) × Int × Int)) hx9 _ _ _ s8 ⟨c0_, ec⟩ hS _ _ _ _ _ => by subst ec; obtain ⟨v6, h7, rfl⟩ := hS;  have hmhx9 := hx9; (try simp only [rng_mem, rng_length] at hmhx9); exact (d_toN (r := rI) d_non)) (by first | omega | (simp only [rng_length, enumL_length, List.length_map]; omega) | (simp; done) | (simp; omega))) (fun l11 us12 Gs13 s13 h14 => ?_)
  refine letV_intro (fun mine_10 emine_10 => ?_)
  rw [← emine_10] at h14
  have lm : mine_10.length = ours_.length := by rw [emine_10, List.length_map]
  refine b_setN 5 sc_law_matched.nd (n_lc (C := fun _ => True) (own := [("_law_other", 12)]) (xs := theirs_) (r := rB) (f := (fun other_ : ((List Nat) × Int × Int) => false)) rfl sc_law_matched.nd (blkOk_by (N := N_law_matched) (sc := defScope s_law_matched) (by decide +kernel)) (i_listF (r := (rT K (cc rS (cc rI (c0 rI))))) (d_var 1 (P := (rL K (rT K (cc rS (cc rI (c0 rI))))) theirs_) rfl (Mono.mono (s4.trans s13) h1_))) (tgb_name 12 sc_law_matched.nd) (fun _ _ => trivial) (fun _ _ _ ⟨_, _, e⟩ => by subst e; exact wipe1) (fun (other_ : ((List Nat) × Int × Int)) hx18 _ _ _ s17 ⟨c0_, ec⟩ hS _ _ _ _ _ => by subst ec; obtain ⟨v15, h16, rfl⟩ := hS;  have hmhx18 := hx18; (try simp only [rng_mem, rng_length] at hmhx18); exact d_bl) (by first | omega | (simp only [rng_length, enumL_length, List.length_map]; omega) | (simp; done) | (simp; omega))) (fun l20 us21 Gs22 s22 h23 => ?_)
  refine letV_intro (fun used_19 eused_19 => ?_)
  rw [← eused_19] at h23
  have lu : used_19.length = theirs_.length := by rw [eused_19, List.length_map]
  refine b_for (f := (st_law_matched_1 ours_ theirs_ window_)) (s0 := (pairs_1, mine_10, used_19)) (xs := (rng 0 2)) (fun n_ (z24 : ((List (Int × Int)) × (List (Option Int)) × (List Bool))) σ_ G_ cs_ => ∃ us27 : List V, ∃ us29 : List V, ∃ us31 : List V, ∃ o33 : Option V, ∃ o34 : Option V, ∃ o35 : Option V, ∃ o36 : Option V, ∃ o37 : Option V, ∃ o38 : Option V, ∃ o39 : Option V, σ_ = [some v0_, some v1_, some (.int window_), some (.ref l2), some (.ref l11), some (.ref l20), o33, o34, o35, o36, o37, o38, o39] ∧ (l20, HO.lst us31) :: (l11, HO.lst us29) :: (l2, HO.lst us27) :: cs = cs_ ∧ Rs (rT K (cc rI (c0 rI))) G_ z24.1 us27 ∧ Rs (rO rI) G_ z24.2.1 us29 ∧ Rs rB G_ z24.2.2 us31 ∧ (z24.2.1.length = ours_.length) ∧ (z24.2.2.length = theirs_.length) ∧ (z24.1.length ≤ 1000000 * n_)) (i_rng1 m_range d_int (by omega) (by omega)) (tg_name 6 sc_law_matched.nd) rfl PassesOwn.never ?_ ?_ ?_ ?_
  · intro _ s120
    exact ⟨_, _, _, _, _, _, _, _, _, _, rfl, rfl, (Rs.mono (s13.trans (s22.trans s120)) h5), (Rs.mono (s22.trans s120) h14), (Rs.mono s120 h23), (by first | assumption | omega | (simp only [List.length_cons, List.length_nil] at *; omega)), (by first | assumption | omega | (simp only [List.length_cons, List.length_nil] at *; omega)), by (rw [epairs_1]; exact Nat.zero_le _)⟩
  · intro _ _ _ _ _ _
    trivial
  · intro pre_ x40 post_ z24 _ _ _ _ _ hxsz24 hrez24 s41 hNz24 s42 hSz24
    obtain ⟨us27, us29, us31, o33, o34, o35, o36, o37, o38, o39, rfl, rfl, h28, h30, h32, hiz24_1, hiz24_2, hbz24⟩ := hNz24
    obtain ⟨v25, h26, rfl⟩ := hSz24
    have hltz24 : pre_.length < (rng 0 2).length := by rw [hxsz24, List.length_append, List.length_cons]; omega
    have hmemz24 : x40 ∈ (rng 0 2) := by rw [hxsz24]; exact List.mem_append_right _ List.mem_cons_self
    try simp only [rng_length, rng_mem, enumL_length] at hltz24 hmemz24
    show B _ _ _ _ _ _ _ (st_law_matched_1 ours_ theirs_ window_ z24 x40)
    unfold st_law_matched_1
    cases h26
    refine b_for (f := (st_law_matched_2 ours_ theirs_ window_ x40)) (s0 := (z24.1, z24.2.1, z24.2.2)) (xs := (rng 0 (ours_.length : Int))) (fun n_ (z44 : ((List (Int × Int)) × (List (Option Int)) × (List Bool))) σ_ G_ cs_ => ∃ us47 : List V, ∃ us49 : List V, ∃ us51 : List V, ∃ o53 : Option V, ∃ o54 : Option V, ∃ o55 : Option V, ∃ o56 : Option V, ∃ o57 : Option V, ∃ o58 : Option V, σ_ = [some v0_, some v1_, some (.int window_), some (.ref l2), some (.ref l11), some (.ref l20), some (.int x40), o53, o54, o55, o56, o57, o58] ∧ (l20, HO.lst us51) :: (l11, HO.lst us49) :: (l2, HO.lst us47) :: cs = cs_ ∧ Rs (rT K (cc rI (c0 rI))) G_ z44.1 us47 ∧ Rs (rO rI) G_ z44.2.1 us49 ∧ Rs rB G_ z44.2.2 us51 ∧ (z44.2.1.length = ours_.length) ∧ (z44.2.2.length = theirs_.length) ∧ (z44.1.length ≤ z24.1.length + 1000 * n_)) (i_rng1 m_range (d_lenL (r := (rT K (cc rS (cc rI (c0 rI))))) m_len (D.imp (P := (rL K (rT K (cc rS (cc rI (c0 rI))))) ours_) (d_var 0 (P := (rL K (rT K (cc rS (cc rI (c0 rI))))) ours_) rfl (Mono.mono (s4.trans (s13.trans (s22.trans (s41.trans s42)))) h0_)) fun _ _ => rdL_of)) (by omega) (by omega)) (tg_name 7 sc_law_matched.nd) rfl PassesOwn.never ?_ ?_ ?_ ?_
    · intro _ s118
      exact ⟨_, _, _, _, _, _, _, _, _, rfl, rfl, (Rs.mono (s42.trans s118) h28), (Rs.mono (s42.trans s118) h30), (Rs.mono (s42.trans s118) h32), (by first | assumption | omega | (simp only [List.length_cons, List.length_nil] at *; omega)), (by first | assumption | omega | (simp only [List.length_cons, List.length_nil] at *; omega)), by (dsimp only; omega)⟩
    · intro _ _ _ _ _ _
      trivial
    · intro pre_ x59 post_ z44 _ _ _ _ _ hxsz44 hrez44 s60 hNz44 s61 hSz44
      obtain ⟨us47, us49, us51, o53, o54, o55, o56, o57, o58, rfl, rfl, h48, h50, h52, hiz44_1, hiz44_2, hbz44⟩ := hNz44
      obtain ⟨v45, h46, rfl⟩ := hSz44
      have hltz44 : pre_.length < (rng 0 (ours_.length : Int)).length := by rw [hxsz44, List.length_append, List.length_cons]; omega
      have hmemz44 : x59 ∈ (rng 0 (ours_.length : Int)) := by rw [hxsz44]; exact List.mem_append_right _ List.mem_cons_self
      try simp only [rng_length, rng_mem, enumL_length] at hltz44 hmemz44
      show B _ _ _ _ _ _ _ (st_law_matched_2 ours_ theirs_ window_ x40 z44 x59)
      unfold st_law_matched_2
      cases h46
      refine b_for (f := (st_law_matched_3 ours_ theirs_ window_ x40 x59)) (s0 := (z44.1, z44.2.1, z44.2.2)) (xs := (rng 0 (theirs_.length : Int))) (fun n_ (z63 : ((List (Int × Int)) × (List (Option Int)) × (List Bool))) σ_ G_ cs_ => ∃ us66 : List V, ∃ us68 : List V, ∃ us70 : List V, ∃ o72 : Option V, ∃ o73 : Option V, ∃ o74 : Option V, ∃ o75 : Option V, ∃ o76 : Option V, σ_ = [some v0_, some v1_, some (.int window_), some (.ref l2), some (.ref l11), some (.ref l20), some (.int x40), some (.int x59), o72, o73, o74, o75, o76] ∧ (l20, HO.lst us70) :: (l11, HO.lst us68) :: (l2, HO.lst us66) :: cs = cs_ ∧ Rs (rT K (cc rI (c0 rI))) G_ z63.1 us66 ∧ Rs (rO rI) G_ z63.2.1 us68 ∧ Rs rB G_ z63.2.2 us70 ∧ (z63.2.1.length = ours_.length) ∧ (z63.2.2.length = theirs_.length) ∧ z63.1.length ≤ z44.1.length + 1 * n_ ∧ z63.2.1.length ≤ z44.2.1.length + 0 * n_ ∧ z63.2.2.length ≤ z44.2.2.length + 0 * n_) (i_rng1 m_range (d_lenL (r := (rT K (cc rS (cc rI (c0 rI))))) m_len (D.imp (P := (rL K (rT K (cc rS (cc rI (c0 rI))))) theirs_) (d_var 1 (P := (rL K (rT K (cc rS (cc rI (c0 rI))))) theirs_) rfl (Mono.mono (s4.trans (s13.trans (s22.trans (s41.trans (s42.trans (s60.trans s61)))))) h1_)) fun _ _ => rdL_of)) (by omega) (by omega)) (tg_name 8 sc_law_matched.nd) rfl PassesOwn.never ?_ ?_ ?_ ?_
      · intro _ s116
        exact ⟨_, _, _, _, _, _, _, _, rfl, rfl, (Rs.mono (s61.trans s116) h48), (Rs.mono (s61.trans s116) h50), (Rs.mono (s61.trans s116) h52), (by first | assumption | omega | (simp only [List.length_cons, List.length_nil] at *; omega)), (by first | assumption | omega | (simp only [List.length_cons, List.length_nil] at *; omega)), ⟨Nat.le_add_right _ _, Nat.le_add_right _ _, Nat.le_add_right _ _⟩⟩
      · intro _ _ _ _ _ _
        trivial
      · intro pre_ x77 post_ z63 _ _ _ _ _ hxsz63 hrez63 s78 hNz63 s79 hSz63
        obtain ⟨us66, us68, us70, o72, o73, o74, o75, o76, rfl, rfl, h67, h69, h71, hiz63_1, hiz63_2, hbz63⟩ := hNz63
        obtain ⟨v64, h65, rfl⟩ := hSz63
        have hltz63 : pre_.length < (rng 0 (theirs_.length : Int)).length := by rw [hxsz63, List.length_append, List.length_cons]; omega
        have hmemz63 : x77 ∈ (rng 0 (theirs_.length : Int)) := by rw [hxsz63]; exact List.mem_append_right _ List.mem_cons_self
        try simp only [rng_length, rng_mem, enumL_length] at hltz63 hmemz63
        show B _ _ _ _ _ _ _ (st_law_matched_3 ours_ theirs_ window_ x40 x59 z63 x77)
        unfold st_law_matched_3
        cases h65
        refine b_ifl (t_w (w_and (t_isN (r := rI) (d_ixL (r := (rO rI)) (xs := z63.2.1) (i := x59) (x := (ixg z63.2.1 x59)) (d_var 4 (P := rdL K _ (rO rI) z63.2.1) rfl (rdL_cell (List.mem_cons_of_mem _ List.mem_cons_self) (Rs.mono s79 h69))) (d_var 7 (P := rI x59) rfl rfl) (atI_ixg (by first | (constructor <;> omega) | (simp only [List.length_cons, List.length_nil]; constructor <;> omega) | exact ix_mod (by omega) | (simp only [decide_eq_true_eq, decide_eq_false_iff_not] at *; constructor <;> omega) | (simp only [decide_eq_true_eq, decide_eq_false_iff_not, Bool.and_eq_true, Bool.or_eq_true, Bool.or_eq_false_iff, Bool.not_eq_true', Bool.not_eq_false', Bool.not_not, ne_eq, Int.not_lt, Int.not_le] at *; constructor <;> omega))))) fun hk84 => (w_and (t_not (t_val (d_ixL (r := rB) (xs := z63.2.2) (i := x77) (x := (ixg z63.2.2 x77)) (d_var 5 (P := rdL K _ rB z63.2.2) rfl (rdL_cell List.mem_cons_self (Rs.mono s79 h71))) (d_var 8 (P := rI x77) rfl rfl) (atI_ixg (by first | (constructor <;> omega) | (simp only [List.length_cons, List.length_nil]; constructor <;> omega) | exact ix_mod (by omega) | (simp only [decide_eq_true_eq, decide_eq_false_iff_not] at *; constructor <;> omega) | (simp only [decide_eq_true_eq, decide_eq_false_iff_not, Bool.and_eq_true, Bool.or_eq_true, Bool.or_eq_false_iff, Bool.not_eq_true', Bool.not_eq_false', Bool.not_not, ne_eq, Int.not_lt, Int.not_le] at *; constructor <;> omega)))))) fun hk83 => (w_and1 (t_cmp op_eq (nomark _) (d_ixT (r := (cc rS (cc rI (c0 rI)))) (x := (ixg ours_ x59)) (n := 2) (P := rI ((ixg ours_ x59).2.2)) (d_ixL (r := (rT K (cc rS (cc rI (c0 rI))))) (xs := ours_) (i := x59) (x := (ixg ours_ x59)) (D.imp (P := (rL K (rT K (cc rS (cc rI (c0 rI))))) ours_) (d_var 0 (P := (rL K (rT K (cc rS (cc rI (c0 rI))))) ours_) rfl (Mono.mono (s4.trans (s13.trans (s22.trans (s41.trans (s42.trans (s60.trans (s61.trans (s78.trans s79)))))))) h0_)) fun _ _ => rdL_of) (d_var 7 (P := rI x59) rfl rfl) (atI_ixg (by first | (constructor <;> omega) | (simp only [List.length_cons, List.length_nil]; constructor <;> omega) | exact ix_mod (by omega) | (simp only [decide_eq_true_eq, decide_eq_false_iff_not] at *; constructor <;> omega) | (simp only [decide_eq_true_eq, decide_eq_false_iff_not, Bool.and_eq_true, Bool.or_eq_true, Bool.or_eq_false_iff, Bool.not_eq_true', Bool.not_eq_false', Bool.not_not, ne_eq, Int.not_lt, Int.not_le] at *; constructor <;> omega)))) d_int (at_s (at_s at_1))) (d_ixT (r := (cc rS (cc rI (c0 rI)))) (x := (ixg theirs_ x77)) (n := 2) (P := rI ((ixg theirs_ x77).2.2)) (d_ixL (r := (rT K (cc rS (cc rI (c0 rI))))) (xs := theirs_) (i := x77) (x := (ixg theirs_ x77)) (D.imp (P := (rL K (rT K (cc rS (cc rI (c0 rI))))) theirs_) (d_var 1 (P := (rL K (rT K (cc rS (cc rI (c0 rI))))) theirs_) rfl (Mono.mono (s4.trans (s13.trans (s22.trans (s41.trans (s42.trans (s60.trans (s61.trans (s78.trans s79)))))))) h1_)) fun _ _ => rdL_of) (d_var 8 (P := rI x77) rfl rfl) (atI_ixg (by first | (constructor <;> omega) | (simp only [List.length_cons, List.length_nil]; constructor <;> omega) | exact ix_mod (by omega) | (simp only [decide_eq_true_eq, decide_eq_false_iff_not] at *; constructor <;> omega) | (simp only [decide_eq_true_eq, decide_eq_false_iff_not, Bool.and_eq_true, Bool.or_eq_true, Bool.or_eq_false_iff, Bool.not_eq_true', Bool.not_eq_false', Bool.not_not, ne_eq, Int.not_lt, Int.not_le] at *; constructor <;> omega)))) d_int (at_s (at_s at_1))) fun _ _ _ _ _ _ hx hy _ q => c_eqI hx hy q))))) ?_ ?_
        · intro hc81 Gs82 s82
          have dhc81 := hc81
          try simp only [decide_eq_true_eq, decide_eq_false_iff_not, Bool.and_eq_true, Bool.and_eq_false_imp, Bool.or_eq_true, Bool.or_eq_false_iff, Bool.not_eq_true', Bool.not_eq_false', Bool.not_not, ne_eq, Int.not_lt, Int.not_le] at dhc81
          refine b_setV (r := rB) 9 sc_law_matched.nd (d_cmp op_eq (nomark _) (d_ixT (r := (cc rS (cc rI (c0 rI)))) (x := (ixg ours_ x59)) (n := 0) (P := rS ((ixg ours_ x59).1)) (d_ixL (r := (rT K (cc rS (cc rI (c0 rI))))) (xs := ours_) (i := x59) (x := (ixg ours_ x59)) (D.imp (P := (rL K (rT K (cc rS (cc rI (c0 rI))))) ours_) (d_var 0 (P := (rL K (rT K (cc rS (cc rI (c0 rI))))) ours_) rfl (Mono.mono (s4.trans (s13.trans (s22.trans (s41.trans (s42.trans (s60.trans (s61.trans (s78.trans (s79.trans s82))))))))) h0_)) fun _ _ => rdL_of) (d_var 7 (P := rI x59) rfl rfl) (atI_ixg (by first | (constructor <;> omega) | (simp only [List.length_cons, List.length_nil]; constructor <;> omega) | exact ix_mod (by omega) | (simp only [decide_eq_true_eq, decide_eq_false_iff_not] at *; constructor <;> omega) | (simp only [decide_eq_true_eq, decide_eq_false_iff_not, Bool.and_eq_true, Bool.or_eq_true, Bool.or_eq_false_iff, Bool.not_eq_true', Bool.not_eq_false', Bool.not_not, ne_eq, Int.not_lt, Int.not_le] at *; constructor <;> omega)))) d_int at_z) (d_ixT (r := (cc rS (cc rI (c0 rI)))) (x := (ixg theirs_ x77)) (n := 0) (P := rS ((ixg theirs_ x77).1)) (d_ixL (r := (rT K (cc rS (cc rI (c0 rI))))) (xs := theirs_) (i := x77) (x := (ixg theirs_ x77)) (D.imp (P := (rL K (rT K (cc rS (cc rI (c0 rI))))) theirs_) (d_var 1 (P := (rL K (rT K (cc rS (cc rI (c0 rI))))) theirs_) rfl (Mono.mono (s4.trans (s13.trans (s22.trans (s41.trans (s42.trans (s60.trans (s61.trans (s78.trans (s79.trans s82))))))))) h1_)) fun _ _ => rdL_of) (d_var 8 (P := rI x77) rfl rfl) (atI_ixg (by first | (constructor <;> omega) | (simp only [List.length_cons, List.length_nil]; constructor <;> omega) | exact ix_mod (by omega) | (simp only [decide_eq_true_eq, decide_eq_false_iff_not] at *; constructor <;> omega) | (simp only [decide_eq_true_eq, decide_eq_false_iff_not, Bool.and_eq_true, Bool.or_eq_true, Bool.or_eq_false_iff, Bool.not_eq_true', Bool.not_eq_false', Bool.not_not, ne_eq, Int.not_lt, Int.not_le] at *; constructor <;> omega)))) d_int at_z) fun _ _ _ _ _ _ hx hy _ q => c_eqS hx hy q) (fun fits_85 efits_85 v87 Gs86 s86 h88 => ?_)
          cases h88
          refine b_if (S' := (Bool)) (fun (z91 : (Bool)) σ_ G_ cs_ => ∃ o92 : Option V, ∃ o93 : Option V, ∃ o94 : Option V, σ_ = [some v0_, some v1_, some (.int window_), some (.ref l2), some (.ref l11), some (.ref l20), some (.int x40), some (.int x59), some (.int x77), some (.bl z91), o92, o93, o94] ∧ (l20, HO.lst us70) :: (l11, HO.lst us68) :: (l2, HO.lst us66) :: cs = cs_) (t_cmp op_eq (nomark _) (d_var 6 (P := rI x40) rfl rfl) d_int fun _ _ _ _ _ _ hx hy _ q => c_eqI hx hy q) ?_ ?_ ?_
          · intro hc89 Gs90 s90
            have dhc89 := hc89
            try simp only [decide_eq_true_eq, decide_eq_false_iff_not, Bool.and_eq_true, Bool.and_eq_false_imp, Bool.or_eq_true, Bool.or_eq_false_iff, Bool.not_eq_true', Bool.not_eq_false', Bool.not_not, ne_eq, Int.not_lt, Int.not_le] at dhc89
            refine b_setV (r := rB) 9 sc_law_matched.nd (d_cmp op_le (nomark _) (d_abs m_abs (d_sub (d_ixT (r := (cc rS (cc rI (c0 rI)))) (x := (ixg ours_ x59)) (n := 1) (P := rI ((ixg ours_ x59).2.1)) (d_ixL (r := (rT K (cc rS (cc rI (c0 rI))))) (xs := ours_) (i := x59) (x := (ixg ours_ x59)) (D.imp (P := (rL K (rT K (cc rS (cc rI (c0 rI))))) ours_) (d_var 0 (P := (rL K (rT K (cc rS (cc rI (c0 rI))))) ours_) rfl (Mono.mono (s4.trans (s13.trans (s22.trans (s41.trans (s42.trans (s60.trans (s61.trans (s78.trans (s79.trans (s82.trans (s86.trans s90))))))))))) h0_)) fun _ _ => rdL_of) (d_var 7 (P := rI x59) rfl rfl) (atI_ixg (by first | (constructor <;> omega) | (simp only [List.length_cons, List.length_nil]; constructor <;> omega) | exact ix_mod (by omega) | (simp only [decide_eq_true_eq, decide_eq_false_iff_not] at *; constructor <;> omega) | (simp only [decide_eq_true_eq, decide_eq_false_iff_not, Bool.and_eq_true, Bool.or_eq_true, Bool.or_eq_false_iff, Bool.not_eq_true', Bool.not_eq_false', Bool.not_not, ne_eq, Int.not_lt, Int.not_le] at *; constructor <;> omega)))) d_int (at_s at_z)) (d_ixT (r := (cc rS (cc rI (c0 rI)))) (x := (ixg theirs_ x77)) (n := 1) (P := rI ((ixg theirs_ x77).2.1)) (d_ixL (r := (rT K (cc rS (cc rI (c0 rI))))) (xs := theirs_) (i := x77) (x := (ixg theirs_ x77)) (D.imp (P := (rL K (rT K (cc rS (cc rI (c0 rI))))) theirs_) (d_var 1 (P := (rL K (rT K (cc rS (cc rI (c0 rI))))) theirs_) rfl (Mono.mono (s4.trans (s13.trans (s22.trans (s41.trans (s42.trans (s60.trans (s61.trans (s78.trans (s79.trans (s82.trans (s86.trans s90))))))))))) h1_)) fun _ _ => rdL_of) (d_var 8 (P := rI x77) rfl rfl) (atI_ixg (by first | (constructor <;> omega) | (simp only [List.length_cons, List.length_nil]; constructor <;> omega) | exact ix_mod (by omega) | (simp only [decide_eq_true_eq, decide_eq_false_iff_not] at *; constructor <;> omega) | (simp only [decide_eq_true_eq, decide_eq_false_iff_not, Bool.and_eq_true, Bool.or_eq_true, Bool.or_eq_false_iff, Bool.not_eq_true', Bool.not_eq_false', Bool.not_not, ne_eq, Int.not_lt, Int.not_le] at *; constructor <;> omega)))) d_int (at_s at_z)))) (d_var 2 (P := rI window_) rfl rfl) fun _ _ _ _ _ _ hx hy _ q => c_le hx hy q) (fun fits_95 efits_95 v97 Gs96 s96 h98 => ?_)
            cases h98
            exact b_nil (by refine ⟨_, _, _, rfl, rfl⟩)
          · intro hc89 Gs90 s90
            have dhc89 := hc89
            try simp only [decide_eq_true_eq, decide_eq_false_iff_not, Bool.and_eq_true, Bool.and_eq_false_imp, Bool.or_eq_true, Bool.or_eq_false_iff, Bool.not_eq_true', Bool.not_eq_false', Bool.not_not, ne_eq, Int.not_lt, Int.not_le] at dhc89
            exact b_nil (by refine ⟨_, _, _, rfl, rfl⟩)
          · intro z91 _ _ _ sz91 hNz91 hmz91
            obtain ⟨o92, o93, o94, rfl, rfl⟩ := hNz91
            refine b_ifl (t_val (d_var 9 (P := rB z91) rfl rfl)) ?_ ?_
            · intro hc99 Gs100 s100
              have dhc99 := hc99
              try simp only [decide_eq_true_eq, decide_eq_false_iff_not, Bool.and_eq_true, Bool.and_eq_false_imp, Bool.or_eq_true, Bool.or_eq_false_iff, Bool.not_eq_true', Bool.not_eq_false', Bool.not_not, ne_eq, Int.not_lt, Int.not_le] at dhc99
              refine b_put 1 (P := (rO rI) (some x77)) (z := x59) (j := ((ixN us68.length x59).getD 0)) rfl (d_toO (r := rI) (d_var 8 (P := rI x77) rfl rfl)) (d_var 4 (P := rV (.ref l11)) rfl rfl) (d_var 7 (P := rI x59) rfl rfl) (ixN_ok (by rw [← Rs.length h69]; exact (by first | (constructor <;> omega) | exact ix_mod (by omega)))) (fun v101 Gs102 s102 h103 => ?_)
              have h105 := Rs.put h103 (Rs.mono (s79.trans (s82.trans (s86.trans (sz91.trans (s100.trans s102))))) h69) x59
              refine letV_intro (fun mine_104 emine_104 => ?_)
              rw [← emine_104] at h105
              have nmine_104 : mine_104.length = z63.2.1.length := by rw [emine_104, putL_len]
              refine b_put 0 (P := rB true) (z := x77) (j := ((ixN us70.length x77).getD 0)) rfl d_bl (d_var 5 (P := rV (.ref l20)) rfl rfl) (d_var 8 (P := rI x77) rfl rfl) (ixN_ok (by rw [← Rs.length h71]; exact (by first | (constructor <;> omega) | exact ix_mod (by omega)))) (fun v106 Gs107 s107 h108 => ?_)
              have h110 := Rs.put h108 (Rs.mono (s79.trans (s82.trans (s86.trans (sz91.trans (s100.trans (s102.trans s107)))))) h71) x77
              refine letV_intro (fun used_109 eused_109 => ?_)
              rw [← eused_109] at h110
              have nused_109 : used_109.length = z63.2.2.length := by rw [eused_109, putL_len]
              refine b_app 2 (P := (rT K (cc rI (c0 rI))) (x59, x77)) rfl (d_var 3 (P := rV (.ref l2)) rfl rfl) (d_tup (r := (cc rI (c0 rI))) (x := (x59, x77)) (a_cons (P := rI x59) (d_var 7 (P := rI x59) rfl rfl) (a_cons (P := rI x77) (d_var 8 (P := rI x77) rfl rfl) a_nil)) (tp_c tp_1)) (by have hq := Rs.length h67; omega) (fun v111 Gs112 s112 h113 => ?_)
              have h115 := Rs.snoc h113 (Rs.mono (s79.trans (s82.trans (s86.trans (sz91.trans (s100.trans (s102.trans (s107.trans s112))))))) h67)
              refine letV_intro (fun pairs_114 epairs_114 => ?_)
              rw [← epairs_114] at h115
              have npairs_114 : pairs_114.length = z63.1.length + 1 := by rw [epairs_114, List.length_append]; rfl
              exact b_nil (by refine ⟨_, _, _, _, _, _, _, _, rfl, rfl, h115, (Rs.mono (s107.trans s112) h105), (Rs.mono s112 h110), (by first | assumption | omega | (simp only [List.length_cons, List.length_nil] at *; omega)), (by first | assumption | omega | (simp only [List.length_cons, List.length_nil] at *; omega)), ⟨by first | omega | (simp only [List.length_append, List.length_cons, List.length_nil] at *; omega), by first | omega | (simp only [List.length_append, List.length_cons, List.length_nil] at *; omega), by first | omega | (simp only [List.length_append, List.length_cons, List.length_nil] at *; omega)⟩⟩)
            · intro hc99 Gs100 s100
              have dhc99 := hc99
              try simp only [decide_eq_true_eq, decide_eq_false_iff_not, Bool.and_eq_true, Bool.and_eq_false_imp, Bool.or_eq_true, Bool.or_eq_false_iff, Bool.not_eq_true', Bool.not_eq_false', Bool.not_not, ne_eq, Int.not_lt, Int.not_le] at dhc99
              exact b_nil (by refine ⟨_, _, _, _, _, _, _, _, rfl, rfl, (Rs.mono (s79.trans (s82.trans (s86.trans (sz91.trans s100)))) h67), (Rs.mono (s79.trans (s82.trans (s86.trans (sz91.trans s100)))) h69), (Rs.mono (s79.trans (s82.trans (s86.trans (sz91.trans s100)))) h71), (by first | assumption | omega | (simp only [List.length_cons, List.length_nil] at *; omega)), (by first | assumption | omega | (simp only [List.length_cons, List.length_nil] at *; omega)), ⟨by first | omega | (simp only [List.length_append, List.length_cons, List.length_nil] at *; omega), by first | omega | (simp only [List.length_append, List.length_cons, List.length_nil] at *; omega), by first | omega | (simp only [List.length_append, List.length_cons, List.length_nil] at *; omega)⟩⟩)
        · intro hc81 Gs82 s82
          have dhc81 := hc81
          try simp only [decide_eq_true_eq, decide_eq_false_iff_not, Bool.and_eq_true, Bool.and_eq_false_imp, Bool.or_eq_true, Bool.or_eq_false_iff, Bool.not_eq_true', Bool.not_eq_false', Bool.not_not, ne_eq, Int.not_lt, Int.not_le] at dhc81
          exact b_nil (by refine ⟨_, _, _, _, _, _, _, _, rfl, rfl, (Rs.mono (s79.trans s82) h67), (Rs.mono (s79.trans s82) h69), (Rs.mono (s79.trans s82) h71), (by first | assumption | omega | (simp only [List.length_cons, List.length_nil] at *; omega)), (by first | assumption | omega | (simp only [List.length_cons, List.length_nil] at *; omega)), ⟨by first | omega | (simp only [List.length_append, List.length_cons, List.length_nil] at *; omega), by first | omega | (simp only [List.length_append, List.length_cons, List.length_nil] at *; omega), by first | omega | (simp only [List.length_append, List.length_cons, List.length_nil] at *; omega)⟩⟩)
      · intro n_ z63 _ _ _ hnz63 s117 hNz63 hfz63
        obtain ⟨us66, us68, us70, o72, o73, o74, o75, o76, rfl, rfl, h67, h69, h71, hiz63_1, hiz63_2, hbz63⟩ := hNz63
        try simp only [rng_length, enumL_length] at hnz63
        exact b_nil (by refine ⟨_, _, _, _, _, _, _, _, _, rfl, rfl, h67, h69, h71, (by first | assumption | omega | (simp only [List.length_cons, List.length_nil] at *; omega)), (by first | assumption | omega | (simp only [List.length_cons, List.length_nil] at *; omega)), by (dsimp only; omega)⟩)
    · intro n_ z44 _ _ _ hnz44 s119 hNz44 hfz44
      obtain ⟨us47, us49, us51, o53, o54, o55, o56, o57, o58, rfl, rfl, h48, h50, h52, hiz44_1, hiz44_2, hbz44⟩ := hNz44
      try simp only [rng_length, enumL_length] at hnz44
      exact b_nil (by refine ⟨_, _, _, _, _, _, _, _, _, _, rfl, rfl, h48, h50, h52, (by first | assumption | omega | (simp only [List.length_cons, List.length_nil] at *; omega)), (by first | assumption | omega | (simp only [List.length_cons, List.length_nil] at *; omega)), by (dsimp only; omega)⟩)
  · intro n_ z24 _ _ _ hnz24 s121 hNz24 hfz24
    obtain ⟨us27, us29, us31, o33, o34, o35, o36, o37, o38, o39, rfl, rfl, h28, h30, h32, hiz24_1, hiz24_2, hbz24⟩ := hNz24
    try simp only [rng_length, enumL_length] at hnz24
    have hzs122 := h28
    refine b_freeze 2 rfl (fun s122 h123 => ?_)
    have kh123 : (rL K (rT K (cc rI (c0 rI)))) z24.1 _ (.ref l2) := ⟨_, _, rfl, SqL.of h123, Rs.mono s122 hzs122⟩
    have hzs124 := (Rs.mono s122 h30)
    refine b_freeze 1 rfl (fun s124 h125 => ?_)
    have kh125 : (rL K (rO rI)) z24.2.1 _ (.ref l11) := ⟨_, _, rfl, SqL.of h125, Rs.mono s124 hzs124⟩
    have hzs126 := (Rs.mono (s122.trans s124) h32)
    refine b_freeze 0 rfl (fun s126 h127 => ?_)
    have kh127 : (rL K rB) z24.2.2 _ (.ref l20) := ⟨_, _, rfl, SqL.of h127, Rs.mono s126 hzs126⟩
    refine b_setLcIf 10 (C := fun _ => True) (own := [("_law_k", 7)]) (xs := (rng 0 (ours_.length : Int))) (r := rI) (f := (fun k_ : Int => k_)) (q := fun k_ : Int => (ixg z24.2.1 k_).isNone) rfl sc_law_matched.nd rfl (sw_true rfl rfl rfl (by decide +kernel)) (blkOk_by (N := N_law_matched) (sc := defScope s_law_matched) (by decide +kernel)) (i_rng1 m_range (d_lenL (r := (rT K (cc rS (cc rI (c0 rI))))) m_len (D.imp (P := (rL K (rT K (cc rS (cc rI (c0 rI))))) ours_) (d_var 0 (P := (rL K (rT K (cc rS (cc rI (c0 rI))))) ours_) rfl (Mono.mono (s4.trans (s13.trans (s22.trans (s121.trans (s122.trans (s124.trans s126)))))) h0_)) fun _ _ => rdL_of)) (by omega) (by omega)) (tgb_name 7 sc_law_matched.nd) (fun _ _ => trivial) (fun _ _ _ ⟨_, _, e⟩ => by subst e; exact wipe1) (fun (k_ : Int) hx131 _ _ _ s130 ⟨c0_, ec⟩ hS _ _ _ _ _ => by subst ec; obtain ⟨v128, h129, rfl⟩ := hS; cases h129; have hmhx131 := hx131; (try simp only [rng_mem, rng_length] at hmhx131); exact (t_isN (r := rI) (d_ixL (r := (rO rI)) (xs := z24.2.1) (i := k_) (x := (ixg z24.2.1 k_)) (D.imp (P := (rL K (rO rI)) z24.2.1) (d_var 4 (P := (rL K (rO rI)) z24.2.1) rfl (Mono.mono (s126.trans s130) kh125)) fun _ _ => rdL_of) (d_var 7 (P := rI k_) rfl rfl) (atI_ixg (by first | (constructor <;> omega) | (simp only [List.length_cons, List.length_nil]; constructor <;> omega) | exact ix_mod (by omega) | (simp only [decide_eq_true_eq, decide_eq_false_iff_not] at *; constructor <;> omega) | (simp only [decide_eq_true_eq, decide_eq_false_iff_not, Bool.and_eq_true, Bool.or_eq_true, Bool.or_eq_false_iff, Bool.not_eq_true', Bool.not_eq_false', Bool.not_not, ne_eq, Int.not_lt, Int.not_le] at *; constructor <;> omega)))))) (fun (k_ : Int) hx131 hq132 _ _ _ s130 ⟨c0_, ec⟩ hS _ _ _ _ _ => by subst ec; obtain ⟨v128, h129, rfl⟩ := hS; cases h129; have hmhx131 := hx131; (try simp only [rng_mem, rng_length] at hmhx131); exact (d_var 7 (P := rI k_) rfl rfl)) (by first | omega | (simp only [rng_length, enumL_length, List.length_map]; omega) | (simp; done) | (simp; omega)) (fun l133 us134 Gs135 s135 h136 => ?_)
    refine letV_intro (fun left_137 eleft_137 => ?_)
    rw [← eleft_137] at h136
    have hzs138 := h136
    refine b_freeze 0 rfl (fun s138 h139 => ?_)
    have kh139 : (rL K rI) left_137 _ (.ref l133) := ⟨_, _, rfl, SqL.of h139, Rs.mono s138 hzs138⟩
    exact b_ret (P := (rT K (cc (rL K (rT K (cc rI (c0 rI)))) (cc (rL K rI) (c0 (rL K rI))))) (z24.1, left_137, (((rng 0 (theirs_.length : Int)).filter (fun j_ : Int => !((ixg z24.2.2 j_)))).map (fun j_ : Int => j_)))) (d_tup (r := (cc (rL K (rT K (cc rI (c0 rI)))) (cc (rL K rI) (c0 (rL K rI))))) (x := (z24.1, left_137, (((rng 0 (theirs_.length : Int)).filter (fun j_ : Int => !((ixg z24.2.2 j_)))).map (fun j_ : Int => j_)))) (a_cons (P := (rL K (rT K (cc rI (c0 rI)))) z24.1) (d_var 3 (P := (rL K (rT K (cc rI (c0 rI)))) z24.1) rfl (Mono.mono (s124.trans (s126.trans (s135.trans s138))) kh123)) (a_cons (P := (rL K rI) left_137) (d_var 10 (P := (rL K rI) left_137) rfl kh139) (a_cons (P := (rL K rI) (((rng 0 (theirs_.length : Int)).filter (fun j_ : Int => !((ixg z24.2.2 j_)))).map (fun j_ : Int => j_))) (d_new (n_lcIf (C := fun _ => True) (own := [("_law_j", 8)]) (xs := (rng 0 (theirs_.length : Int))) (r := rI) (f := (fun j_ : Int => j_)) (q := fun j_ : Int => !((ixg z24.2.2 j_))) rfl sc_law_matched.nd (blkOk_by (N := N_law_matched) (sc := defScope s_law_matched) (by decide +kernel)) (i_rng1 m_range (d_lenL (r := (rT K (cc rS (cc rI (c0 rI))))) m_len (D.imp (P := (rL K (rT K (cc rS (cc rI (c0 rI))))) theirs_) (d_var 1 (P := (rL K (rT K (cc rS (cc rI (c0 rI))))) theirs_) rfl (Mono.mono (s4.trans (s13.trans (s22.trans (s121.trans (s122.trans (s124.trans (s126.trans (s135.trans s138)))))))) h1_)) fun _ _ => rdL_of)) (by omega) (by omega)) (tgb_name 8 sc_law_matched.nd) (fun _ _ => trivial) (fun _ _ _ ⟨_, _, e⟩ => by subst e; exact wipe1) (fun (j_ : Int) hx143 _ _ _ s142 ⟨c0_, ec⟩ hS _ _ _ _ _ => by subst ec; obtain ⟨v140, h141, rfl⟩ := hS; cases h141; have hmhx143 := hx143; (try simp only [rng_mem, rng_length] at hmhx143); exact (t_not (t_val (d_ixL (r := rB) (xs := z24.2.2) (i := j_) (x := (ixg z24.2.2 j_)) (D.imp (P := (rL K rB) z24.2.2) (d_var 5 (P := (rL K rB) z24.2.2) rfl (Mono.mono (s135.trans (s138.trans s142)) kh127)) fun _ _ => rdL_of) (d_var 8 (P := rI j_) rfl rfl) (atI_ixg (by first | (constructor <;> omega) | (simp only [List.length_cons, List.length_nil]; constructor <;> omega) | exact ix_mod (by omega) | (simp only [decide_eq_true_eq, decide_eq_false_iff_not] at *; constructor <;> omega) | (simp only [decide_eq_true_eq, decide_eq_false_iff_not, Bool.and_eq_true, Bool.or_eq_true, Bool.or_eq_false_iff, Bool.not_eq_true', Bool.not_eq_false', Bool.not_not, ne_eq, Int.not_lt, Int.not_le] at *; constructor <;> omega))))))) (fun (j_ : Int) hx143 hq144 _ _ _ s142 ⟨c0_, ec⟩ hS _ _ _ _ _ => by subst ec; obtain ⟨v140, h141, rfl⟩ := hS; cases h141; have hmhx143 := hx143; (try simp only [rng_mem, rng_length] at hmhx143); exact (d_var 8 (P := rI j_) rfl rfl)) (by first | omega | (simp only [rng_length, enumL_length, List.length_map]; omega) | (simp; done) | (simp; omega)))) a_nil))) (tp_c (tp_c tp_1))) (fun _ _ _ h => ⟨⟨[], rfl⟩, h⟩)
end Ck38

set_option synthInstance.maxSize 10000
namespace Ck38
open PySem L2 PyProof.Rows J
abbrev s_law_payment : Stmt := PySem.Challenge.pw_corebank_k38_match_exact.main.body.getD 12 (.Pass ⟨0, 0, 0, 0⟩)
abbrev N_law_payment : List Str := ["_law_source_here", "_law_others", "_law_like", "_law_which", "_law_key", "_law_day", "_law_units"]
theorem sc_law_payment : FnScope ["_law_source_here", "_law_others", "_law_like", "_law_which", "_law_key", "_law_day", "_law_units"] ["_law_source_here", "_law_others"] (defScope s_law_payment) := ⟨rfl, rfl, rfl, by decide +kernel, rfl, by decide +kernel, by decide +kernel⟩
theorem ok_law_payment {P : Program} {w : World} {K : PySem.W.Frag} {mg : Str → Option Value} {base : Heap} {f : Addr} {fd : FuncData} (F : Fun K "_law_payment" "_law_payment" s_law_payment f fd) (b : Binds K fd ["_law_source_here", "_law_others"] []) (hmg : mg "_law_payment" = some (.ref f)) {adr : _root_.Fin 1 → Addr} {B0 : Addr} (Er : Errs K mg nm_ adr B0) (m_len : mg "len" = none) (F_law_pick : Fn0 P w K mg base CX0 1 "_law_pick" 2 (sp_law_pick K)) :
    Fn0 P w K mg base CX0 2 "_law_payment" 2 (sp_law_payment K) := by
  have hsl := sizeLine_eq
  refine ⟨f, fd, ["_law_source_here", "_law_others"], fn_okM (pre := pre_law_payment K) (post := post_law_payment K) F sc_law_payment b (fun i : (((List Int) × (List ((List Nat) × Int × Int))) × Cells) => b_law_payment i.1.1 i.1.2) (fun i G mc vs h => ?_) (fun cdv A outer s H E i G mc cs vs hr hp => ?_), hmg, F.kp, b, rfl⟩
  · obtain ⟨_, _, _, _, h, _⟩ := h
    rw [h]
    rfl
  obtain ⟨⟨source_here_, others_⟩, ro_⟩ := i
  unfold pre_law_payment at hp
  dsimp only at hp
  obtain ⟨a0_, u0_, a1_, u1_, rfl, rfl, rfl, h0_, h1_, hpre⟩ := hp
  replace h0_ : Rs rI G source_here_ u0_ := h0_
  replace h1_ : Rs (rT K (cc rS (cc rI (c0 rI)))) G others_ u1_ := h1_
  show B _ _ _ [some (.ref a0_), some (.ref a1_), none, none, none, none, none] G ((a0_, HO.lst u0_) :: (a1_, HO.lst u1_) :: cs) _ (b_law_payment source_here_ others_)
  unfold b_law_payment
  try dsimp only at hpre
  have hl := hpre.1
  have ho := hpre.2.1
  have hol := hpre.2.2
  refine letV_intro (fun t3 et3 => ?_)
  have h2t := first_ok hl et3
  have h3t := h2t.1
  refine b_ifxC (fun G_ cs_ => ∃ us31 : List V, cs_ = (a0_, HO.lst us31) :: (a1_, HO.lst u1_) :: cs ∧ Rs rI G_ t3.2 us31) ?_ ?_ ?_
  · refine tc_k (kb' := fun z_ G_ cs_ => z_ = t3.1 ∧ ∃ us4 : List V, cs_ = (a0_, HO.lst us4) :: (a1_, HO.lst u1_) :: cs ∧ Rs rI G_ t3.2 us4) ?_ ?_
    · refine tc_w ?_
      refine wc_and ?_
      refine tc_T (t_cmp op_gt (nomark _) (d_lenL (r := (rT K (cc rS (cc rI (c0 rI))))) m_len (d_var 1 (P := rdL K _ (rT K (cc rS (cc rI (c0 rI)))) others_) rfl (rdL_cell (List.mem_cons_of_mem _ List.mem_cons_self) h1_))) d_int fun _ _ _ _ _ _ hx hy _ q => c_gt hx hy q) (fun Gs6 s6 => ?_)
      refine ⟨fun hz7 => ?_, fun hz7 => ?_⟩
      · have dhz7 := hz7
        try simp only [decide_eq_true_eq, decide_eq_false_iff_not, Bool.and_eq_true, Bool.and_eq_false_imp, Bool.or_eq_true, Bool.or_eq_false_iff, Bool.not_eq_true', Bool.not_eq_false', Bool.not_not, ne_eq, Int.not_lt, Int.not_le] at dhz7
        obtain ⟨r13, er13⟩ : ∃ z_, z_ = (m_law_pick source_here_ 2) := ⟨_, rfl⟩
        have fr13 := pick_ok (s := source_here_) (n := 2) (by first | assumption | omega) (by first | omega | exact h2t.2 (by assumption))
        rw [← er13] at fr13
        obtain ⟨lr13, ar13, br13⟩ := fr13
        refine wc_and1 ?_
        refine tc_cmp op_eq (nomark _) ?_
        refine ec_callM F_law_pick hr (by decide) ?_
        refine ac_cons ?_
        refine ec_D (P := rV (.ref a0_)) (d_var 0 (P := rV (.ref a0_)) rfl rfl) (fun v_ Gs8 s8 hv_ => ?_)
        cases hv_
        refine ac_cons ?_
        refine ec_D (P := rI 2) d_int (fun v10 Gs9 s9 h11 => ?_)
        refine ac_nil' (fun Gs12 s12 => ?_)
        refine ⟨(source_here_, 2), [(a0_, HO.lst u0_)], (a1_, HO.lst u1_) :: cs, (List.Perm.refl _), ⟨_, _, _, rfl, rfl, (Rs.mono (s6.trans (s8.trans (s9.trans s12))) h0_), (Mono.mono s12 h11), (by exact ⟨by first | assumption | omega, by first | omega | exact h2t.2 (by assumption), by omega⟩)⟩, ?_⟩
        rintro v20 Gs14 mc15 s14 ⟨v16, a17, us18, e_, rfl, h19, h21⟩
        cases e_
        have h22 : Rs rI Gs14 r13.2 us18 := by rw [er13]; exact h19
        have h23 : rI r13.1 Gs14 v20 := by rw [er13]; exact h21
        refine ⟨(a0_, HO.lst us18) :: (a1_, HO.lst u1_) :: cs, (List.Perm.refl _), ?_⟩
        refine ec_D (P := rI 0) d_int (fun v25 Gs24 s24 h26 => ?_)
        refine rc_eqI (i := r13.1) (j := 0) (Mono.mono s24 h23) h26 (fun Gs27 s27 => ?_)
        refine ⟨_, rfl, ?_⟩
        have hq28 : t3 = (decide (r13.1 = 0), r13.2) := by rw [et3]; (try simp only [letV]); subst er13; rw [if_pos hz7]; (try rfl)
        exact ⟨by rw [hq28], us18, rfl, (by rw [hq28]; exact (Rs.mono (s24.trans s27) h22))⟩
      · have dhz7 := hz7
        have hq29 : t3 = (false, source_here_) := by rw [et3]; (try simp only [letV]); rw [if_neg (by rw [hz7]; exact Bool.false_ne_true)]; (try rfl)
        exact ⟨by rw [hq29], u0_, rfl, (by rw [hq29]; exact (Rs.mono s6 h0_))⟩
    rintro _ Gs30 _ s30 ⟨rfl, us4, rfl, h5⟩
    refine ⟨_, List.Perm.refl _, ?_⟩
    exact ⟨rfl, us4, rfl, h5⟩
  · rintro hc1 Gs2 _ s2 ⟨us31, rfl, h32⟩
    have dhc1 := hc1
    try simp only [decide_eq_true_eq, decide_eq_false_iff_not, Bool.and_eq_true, Bool.and_eq_false_imp, Bool.or_eq_true, Bool.or_eq_false_iff, Bool.not_eq_true', Bool.not_eq_false', Bool.not_not, ne_eq, Int.not_lt, Int.not_le] at dhc1
    refine letV_intro (fun r39 er39 => ?_)
    have fr39 := pick_ok (s := t3.2) (n := (others_.length : Int)) (by first | assumption | omega) (by first | omega | exact h2t.2 (by assumption))
    rw [← er39] at fr39
    obtain ⟨lr39, ar39, br39⟩ := fr39
    refine b_setC 2 sc_law_payment.nd ?_
    refine ec_ix ix_list ?_
    refine ec_D (P := rV (.ref a1_)) (d_var 1 (P := rV (.ref a1_)) rfl rfl) (fun v_ Gs33 s33 hv_ => ?_)
    cases hv_
    refine ec_callM F_law_pick hr (by decide) ?_
    refine ac_cons ?_
    refine ec_D (P := rV (.ref a0_)) (d_var 0 (P := rV (.ref a0_)) rfl rfl) (fun v_ Gs34 s34 hv_ => ?_)
    cases hv_
    refine ac_cons ?_
    refine ec_D (P := rI (others_.length : Int)) (d_lenL (r := (rT K (cc rS (cc rI (c0 rI))))) m_len (d_var 1 (P := rdL K _ (rT K (cc rS (cc rI (c0 rI)))) others_) rfl (rdL_cell (List.mem_cons_of_mem _ List.mem_cons_self) (Rs.mono (s2.trans (s33.trans s34)) h1_)))) (fun v36 Gs35 s35 h37 => ?_)
    refine ac_nil' (fun Gs38 s38 => ?_)
    refine ⟨(t3.2, (others_.length : Int)), [(a0_, HO.lst us31)], (a1_, HO.lst u1_) :: cs, (List.Perm.refl _), ⟨_, _, _, rfl, rfl, (Rs.mono (s33.trans (s34.trans (s35.trans s38))) h32), (Mono.mono s38 h37), (by exact ⟨by first | assumption | omega, by first | omega | exact h2t.2 (by assumption), by omega⟩)⟩, ?_⟩
    rintro v46 Gs40 mc41 s40 ⟨v42, a43, us44, e_, rfl, h45, h47⟩
    cases e_
    have h48 : Rs rI Gs40 r39.2 us44 := by rw [er39]; exact h45
    have h49 : rI r39.1 Gs40 v46 := by rw [er39]; exact h47
    refine ⟨(a0_, HO.lst us44) :: (a1_, HO.lst u1_) :: cs, (List.Perm.refl _), ?_⟩
    refine rc_ixL (r := (rT K (cc rS (cc rI (c0 rI))))) (xs := others_) (i := r39.1) (u := (ixg others_ r39.1)) (rdL_cell (List.mem_cons_of_mem _ List.mem_cons_self) (Rs.mono (s2.trans (s33.trans (s34.trans (s35.trans (s38.trans s40))))) h1_)) h49 (atI_ixg (by first | (constructor <;> omega) | (simp only [List.length_cons, List.length_nil]; constructor <;> omega) | exact ix_mod (by omega) | (simp only [decide_eq_true_eq, decide_eq_false_iff_not] at *; constructor <;> omega) | (simp only [decide_eq_true_eq, decide_eq_false_iff_not, Bool.and_eq_true, Bool.or_eq_true, Bool.or_eq_false_iff, Bool.not_eq_true', Bool.not_eq_false', Bool.not_not, ne_eq, Int.not_lt, Int.not_le] at *; constructor <;> omega))) (fun v51 Gs50 s50 h52 => ?_)
    intro _
    refine letV_intro (fun like_53 elike_53 => ?_)
    have h54 : (rT K (cc rS (cc rI (c0 rI)))) like_53 Gs50 v51 := by rw [elike_53]; exact h52
    have hlk := ho _ (ixg_mem (xs := others_) ar39 br39)
    rw [← elike_53] at hlk
    have hlk1 := hlk.1
    refine letV_intro (fun r60 er60 => ?_)
    have fr60 := pick_ok (s := r39.2) (n := 4) (by first | assumption | omega) (by first | omega | exact h2t.2 (by assumption))
    rw [← er60] at fr60
    obtain ⟨lr60, ar60, br60⟩ := fr60
    refine b_setC 3 sc_law_payment.nd ?_
    refine ec_callM F_law_pick hr (by decide) ?_
    refine ac_cons ?_
    refine ec_D (P := rV (.ref a0_)) (d_var 0 (P := rV (.ref a0_)) rfl rfl) (fun v_ Gs55 s55 hv_ => ?_)
    cases hv_
    refine ac_cons ?_
    refine ec_D (P := rI 4) d_int (fun v57 Gs56 s56 h58 => ?_)
    refine ac_nil' (fun Gs59 s59 => ?_)
    refine ⟨(r39.2, 4), [(a0_, HO.lst us44)], (a1_, HO.lst u1_) :: cs, (List.Perm.refl _), ⟨_, _, _, rfl, rfl, (Rs.mono (s50.trans (s55.trans (s56.trans s59))) h48), (Mono.mono s59 h58), (by exact ⟨by first | assumption | omega, by first | omega | exact h2t.2 (by assumption), by omega⟩)⟩, ?_⟩
    rintro v67 Gs61 mc62 s61 ⟨v63, a64, us65, e_, rfl, h66, h68⟩
    cases e_
    have h69 : Rs rI Gs61 r60.2 us65 := by rw [er60]; exact h66
    have h70 : rI r60.1 Gs61 v67 := by rw [er60]; exact h68
    refine ⟨(a0_, HO.lst us65) :: (a1_, HO.lst u1_) :: cs, (List.Perm.refl _), ?_⟩
    intro _
    refine letV_intro (fun which_71 ewhich_71 => ?_)
    have h72 : rI which_71 Gs61 v67 := by rw [ewhich_71]; exact h70
    have hq_ : (v67 : V) = .int which_71 := h72
    rw [hq_]
    refine b_ifx (t_cmp op_eq (nomark _) (d_var 3 (P := rI which_71) rfl rfl) d_int fun _ _ _ _ _ _ hx hy _ q => c_eqI hx hy q) ?_ ?_
    · intro hc73 Gs74 s74
      have dhc73 := hc73
      try simp only [decide_eq_true_eq, decide_eq_false_iff_not, Bool.and_eq_true, Bool.and_eq_false_imp, Bool.or_eq_true, Bool.or_eq_false_iff, Bool.not_eq_true', Bool.not_eq_false', Bool.not_not, ne_eq, Int.not_lt, Int.not_le] at dhc73
      exact b_ret (P := (rT K (cc rS (cc rI (c0 rI)))) like_53) (d_var 2 (P := (rT K (cc rS (cc rI (c0 rI)))) like_53) rfl (Mono.mono (s55.trans (s56.trans (s59.trans (s61.trans s74)))) h54)) (fun v_ Gs75 s75 h_ => ⟨[], [(a0_, HO.lst us65), (a1_, HO.lst u1_)], (List.Perm.refl _), ⟨_, _, _, rfl, rfl, (Rs.mono (s74.trans s75) h69), h_⟩⟩)
    · intro hc73 Gs74 s74
      have dhc73 := hc73
      try simp only [decide_eq_true_eq, decide_eq_false_iff_not, Bool.and_eq_true, Bool.and_eq_false_imp, Bool.or_eq_true, Bool.or_eq_false_iff, Bool.not_eq_true', Bool.not_eq_false', Bool.not_not, ne_eq, Int.not_lt, Int.not_le] at dhc73
      refine b_ifx (t_cmp op_eq (nomark _) (d_var 3 (P := rI which_71) rfl rfl) d_int fun _ _ _ _ _ _ hx hy _ q => c_eqI hx hy q) ?_ ?_
      · intro hc76 Gs77 s77
        have dhc76 := hc76
        try simp only [decide_eq_true_eq, decide_eq_false_iff_not, Bool.and_eq_true, Bool.and_eq_false_imp, Bool.or_eq_true, Bool.or_eq_false_iff, Bool.not_eq_true', Bool.not_eq_false', Bool.not_not, ne_eq, Int.not_lt, Int.not_le] at dhc76
        refine letV_intro (fun r89 er89 => ?_)
        have fr89 := pick_ok (s := r60.2) (n := 9) (by first | assumption | omega) (by first | omega | exact h2t.2 (by assumption))
        rw [← er89] at fr89
        obtain ⟨lr89, ar89, br89⟩ := fr89
        refine b_retC ?_
        refine ec_tup ?_
        refine ac_cons ?_
        refine ec_D (P := rS like_53.1) (d_ixT (r := (cc rS (cc rI (c0 rI)))) (x := like_53) (n := 0) (P := rS like_53.1) (d_var 2 (P := (rT K (cc rS (cc rI (c0 rI)))) like_53) rfl (Mono.mono (s55.trans (s56.trans (s59.trans (s61.trans (s74.trans s77))))) h54)) d_int at_z) (fun v79 Gs78 s78 h80 => ?_)
        refine ac_cons ?_
        refine ec_bin op_add ?_
        refine ec_D (P := rI like_53.2.1) (d_ixT (r := (cc rS (cc rI (c0 rI)))) (x := like_53) (n := 1) (P := rI like_53.2.1) (d_var 2 (P := (rT K (cc rS (cc rI (c0 rI)))) like_53) rfl (Mono.mono (s55.trans (s56.trans (s59.trans (s61.trans (s74.trans (s77.trans s78)))))) h54)) d_int (at_s at_z)) (fun v82 Gs81 s81 h83 => ?_)
        refine ec_callM F_law_pick hr (by decide) ?_
        refine ac_cons ?_
        refine ec_D (P := rV (.ref a0_)) (d_var 0 (P := rV (.ref a0_)) rfl rfl) (fun v_ Gs84 s84 hv_ => ?_)
        cases hv_
        refine ac_cons ?_
        refine ec_D (P := rI 9) d_int (fun v86 Gs85 s85 h87 => ?_)
        refine ac_nil' (fun Gs88 s88 => ?_)
        refine ⟨(r60.2, 9), [(a0_, HO.lst us65)], (a1_, HO.lst u1_) :: cs, (List.Perm.refl _), ⟨_, _, _, rfl, rfl, (Rs.mono (s74.trans (s77.trans (s78.trans (s81.trans (s84.trans (s85.trans s88)))))) h69), (Mono.mono s88 h87), (by exact ⟨by first | assumption | omega, by first | omega | exact h2t.2 (by assumption), by omega⟩)⟩, ?_⟩
        rintro v96 Gs90 mc91 s90 ⟨v92, a93, us94, e_, rfl, h95, h97⟩
        cases e_
        have h98 : Rs rI Gs90 r89.2 us94 := by rw [er89]; exact h95
        have h99 : rI r89.1 Gs90 v96 := by rw [er89]; exact h97
        refine ⟨(a0_, HO.lst us94) :: (a1_, HO.lst u1_) :: cs, (List.Perm.refl _), ?_⟩
        refine rc_int (i := like_53.2.1) (j := r89.1) (Mono.mono (s84.trans (s85.trans (s88.trans s90))) h83) h99 (fun Gs100 s100 => ?_)
        have h101 : rI (like_53.2.1 + r89.1) Gs100 (.int (like_53.2.1 + r89.1)) := rfl
        refine ac_cons ?_
        refine ec_D (P := rI like_53.2.2) (d_ixT (r := (cc rS (cc rI (c0 rI)))) (x := like_53) (n := 2) (P := rI like_53.2.2) (d_var 2 (P := (rT K (cc rS (cc rI (c0 rI)))) like_53) rfl (Mono.mono (s55.trans (s56.trans (s59.trans (s61.trans (s74.trans (s77.trans (s78.trans (s81.trans (s84.trans (s85.trans (s88.trans (s90.trans s100)))))))))))) h54)) d_int (at_s (at_s at_1))) (fun v103 Gs102 s102 h104 => ?_)
        refine ac_nil' (fun Gs105 s105 => ⟨Nat.le_of_ble_eq_true rfl, fun l107 Gs106 s106 hl108 => ?_⟩)
        have h109 : (rT K (cc rS (cc rI (c0 rI)))) (like_53.1, (like_53.2.1 + r89.1), like_53.2.2) Gs106 (.ref l107) := ⟨l107, _, rfl, hl108, ⟨_, _, rfl, (Mono.mono (s81.trans (s84.trans (s85.trans (s88.trans (s90.trans (s100.trans (s102.trans (s105.trans s106)))))))) h80), ⟨_, _, rfl, (Mono.mono (s102.trans (s105.trans s106)) h101), ⟨_, rfl, (Mono.mono (s105.trans s106) h104)⟩⟩⟩⟩
        exact fun _ => ⟨[], [(a0_, HO.lst us94), (a1_, HO.lst u1_)], (List.Perm.refl _), ⟨_, _, _, rfl, rfl, (Rs.mono (s100.trans (s102.trans (s105.trans s106))) h98), h109⟩⟩
      · intro hc76 Gs77 s77
        have dhc76 := hc76
        try simp only [decide_eq_true_eq, decide_eq_false_iff_not, Bool.and_eq_true, Bool.and_eq_false_imp, Bool.or_eq_true, Bool.or_eq_false_iff, Bool.not_eq_true', Bool.not_eq_false', Bool.not_not, ne_eq, Int.not_lt, Int.not_le] at dhc76
        refine b_ifx (t_cmp op_eq (nomark _) (d_var 3 (P := rI which_71) rfl rfl) d_int fun _ _ _ _ _ _ hx hy _ q => c_eqI hx hy q) ?_ ?_
        · intro hc110 Gs111 s111
          have dhc110 := hc110
          try simp only [decide_eq_true_eq, decide_eq_false_iff_not, Bool.and_eq_true, Bool.and_eq_false_imp, Bool.or_eq_true, Bool.or_eq_false_iff, Bool.not_eq_true', Bool.not_eq_false', Bool.not_not, ne_eq, Int.not_lt, Int.not_le] at dhc110
          refine letV_intro (fun r123 er123 => ?_)
          have fr123 := pick_ok (s := r60.2) (n := 9) (by first | assumption | omega) (by first | omega | exact h2t.2 (by assumption))
          rw [← er123] at fr123
          obtain ⟨lr123, ar123, br123⟩ := fr123
          refine b_retC ?_
          refine ec_tup ?_
          refine ac_cons ?_
          refine ec_D (P := rS (like_53.1 ++ [120])) (d_cat (d_ixT (r := (cc rS (cc rI (c0 rI)))) (x := like_53) (n := 0) (P := rS like_53.1) (d_var 2 (P := (rT K (cc rS (cc rI (c0 rI)))) like_53) rfl (Mono.mono (s55.trans (s56.trans (s59.trans (s61.trans (s74.trans (s77.trans s111)))))) h54)) d_int at_z) (d_str (l := [120]) (by decide +kernel)) (by (simp only [List.length_cons, List.length_nil]; omega))) (fun v113 Gs112 s112 h114 => ?_)
          refine ac_cons ?_
          refine ec_bin op_sub ?_
          refine ec_D (P := rI like_53.2.1) (d_ixT (r := (cc rS (cc rI (c0 rI)))) (x := like_53) (n := 1) (P := rI like_53.2.1) (d_var 2 (P := (rT K (cc rS (cc rI (c0 rI)))) like_53) rfl (Mono.mono (s55.trans (s56.trans (s59.trans (s61.trans (s74.trans (s77.trans (s111.trans s112))))))) h54)) d_int (at_s at_z)) (fun v116 Gs115 s115 h117 => ?_)
          refine ec_callM F_law_pick hr (by decide) ?_
          refine ac_cons ?_
          refine ec_D (P := rV (.ref a0_)) (d_var 0 (P := rV (.ref a0_)) rfl rfl) (fun v_ Gs118 s118 hv_ => ?_)
          cases hv_
          refine ac_cons ?_
          refine ec_D (P := rI 9) d_int (fun v120 Gs119 s119 h121 => ?_)
          refine ac_nil' (fun Gs122 s122 => ?_)
          refine ⟨(r60.2, 9), [(a0_, HO.lst us65)], (a1_, HO.lst u1_) :: cs, (List.Perm.refl _), ⟨_, _, _, rfl, rfl, (Rs.mono (s74.trans (s77.trans (s111.trans (s112.trans (s115.trans (s118.trans (s119.trans s122))))))) h69), (Mono.mono s122 h121), (by exact ⟨by first | assumption | omega, by first | omega | exact h2t.2 (by assumption), by omega⟩)⟩, ?_⟩
          rintro v130 Gs124 mc125 s124 ⟨v126, a127, us128, e_, rfl, h129, h131⟩
          cases e_
          have h132 : Rs rI Gs124 r123.2 us128 := by rw [er123]; exact h129
          have h133 : rI r123.1 Gs124 v130 := by rw [er123]; exact h131
          refine ⟨(a0_, HO.lst us128) :: (a1_, HO.lst u1_) :: cs, (List.Perm.refl _), ?_⟩
          refine rc_int (i := like_53.2.1) (j := r123.1) (Mono.mono (s118.trans (s119.trans (s122.trans s124))) h117) h133 (fun Gs134 s134 => ?_)
          have h135 : rI (like_53.2.1 - r123.1) Gs134 (.int (like_53.2.1 - r123.1)) := rfl
          refine ac_cons ?_
          refine ec_D (P := rI like_53.2.2) (d_ixT (r := (cc rS (cc rI (c0 rI)))) (x := like_53) (n := 2) (P := rI like_53.2.2) (d_var 2 (P := (rT K (cc rS (cc rI (c0 rI)))) like_53) rfl (Mono.mono (s55.trans (s56.trans (s59.trans (s61.trans (s74.trans (s77.trans (s111.trans (s112.trans (s115.trans (s118.trans (s119.trans (s122.trans (s124.trans s134))))))))))))) h54)) d_int (at_s (at_s at_1))) (fun v137 Gs136 s136 h138 => ?_)
          refine ac_nil' (fun Gs139 s139 => ⟨Nat.le_of_ble_eq_true rfl, fun l141 Gs140 s140 hl142 => ?_⟩)
          have h143 : (rT K (cc rS (cc rI (c0 rI)))) ((like_53.1 ++ [120]), (like_53.2.1 - r123.1), like_53.2.2) Gs140 (.ref l141) := ⟨l141, _, rfl, hl142, ⟨_, _, rfl, (Mono.mono (s115.trans (s118.trans (s119.trans (s122.trans (s124.trans (s134.trans (s136.trans (s139.trans s140)))))))) h114), ⟨_, _, rfl, (Mono.mono (s136.trans (s139.trans s140)) h135), ⟨_, rfl, (Mono.mono (s139.trans s140) h138)⟩⟩⟩⟩
          exact fun _ => ⟨[], [(a0_, HO.lst us128), (a1_, HO.lst u1_)], (List.Perm.refl _), ⟨_, _, _, rfl, rfl, (Rs.mono (s134.trans (s136.trans (s139.trans s140))) h132), h143⟩⟩
        · intro hc110 Gs111 s111
          have dhc110 := hc110
          try simp only [decide_eq_true_eq, decide_eq_false_iff_not, Bool.and_eq_true, Bool.and_eq_false_imp, Bool.or_eq_true, Bool.or_eq_false_iff, Bool.not_eq_true', Bool.not_eq_false', Bool.not_not, ne_eq, Int.not_lt, Int.not_le] at dhc110
          exact b_ret (P := (rT K (cc rS (cc rI (c0 rI)))) (like_53.1, like_53.2.1, (0 - like_53.2.2))) (d_tup (r := (cc rS (cc rI (c0 rI)))) (x := (like_53.1, like_53.2.1, (0 - like_53.2.2))) (a_cons (P := rS like_53.1) (d_ixT (r := (cc rS (cc rI (c0 rI)))) (x := like_53) (n := 0) (P := rS like_53.1) (d_var 2 (P := (rT K (cc rS (cc rI (c0 rI)))) like_53) rfl (Mono.mono (s55.trans (s56.trans (s59.trans (s61.trans (s74.trans (s77.trans s111)))))) h54)) d_int at_z) (a_cons (P := rI like_53.2.1) (d_ixT (r := (cc rS (cc rI (c0 rI)))) (x := like_53) (n := 1) (P := rI like_53.2.1) (d_var 2 (P := (rT K (cc rS (cc rI (c0 rI)))) like_53) rfl (Mono.mono (s55.trans (s56.trans (s59.trans (s61.trans (s74.trans (s77.trans s111)))))) h54)) d_int (at_s at_z)) (a_cons (P := rI (0 - like_53.2.2)) (d_sub d_int (d_ixT (r := (cc rS (cc rI (c0 rI)))) (x := like_53) (n := 2) (P := rI like_53.2.2) (d_var 2 (P := (rT K (cc rS (cc rI (c0 rI)))) like_53) rfl (Mono.mono (s55.trans (s56.trans (s59.trans (s61.trans (s74.trans (s77.trans s111)))))) h54)) d_int (at_s (at_s at_1)))) a_nil))) (tp_c (tp_c tp_1))) (fun v_ Gs144 s144 h_ => ⟨[], [(a0_, HO.lst us65), (a1_, HO.lst u1_)], (List.Perm.refl _), ⟨_, _, _, rfl, rfl, (Rs.mono (s74.trans (s77.trans (s111.trans s144))) h69), h_⟩⟩)
  · rintro hc1 Gs2 _ s2 ⟨us31, rfl, h32⟩
    have dhc1 := hc1
    try simp only [decide_eq_true_eq, decide_eq_false_iff_not, Bool.and_eq_true, Bool.and_eq_false_imp, Bool.or_eq_true, Bool.or_eq_false_iff, Bool.not_eq_true', Bool.not_eq_false', Bool.not_not, ne_eq, Int.not_lt, Int.not_le] at dhc1
    refine letV_intro (fun r153 er153 => ?_)
    have fr153 := pick_ok (s := t3.2) (n := 5) (by first | assumption | omega) (by first | omega | exact h2t.2 (by assumption))
    rw [← er153] at fr153
    obtain ⟨lr153, ar153, br153⟩ := fr153
    refine b_setC 4 sc_law_payment.nd ?_
    refine ec_ix ix_list ?_
    refine ec_D (P := (rL K rS) [[97], [98], [97, 98], ([] : List Nat), [122, 57, 32, 47]]) (d_new (n_lst (r := rS) (xs := [[97], [98], [97, 98], ([] : List Nat), [122, 57, 32, 47]]) (a_cons (P := rS [97]) (d_str (l := [97]) (by decide +kernel)) (a_cons (P := rS [98]) (d_str (l := [98]) (by decide +kernel)) (a_cons (P := rS [97, 98]) (d_str (l := [97, 98]) (by decide +kernel)) (a_cons (P := rS ([] : List Nat)) (d_str (l := []) (by decide +kernel)) (a_cons (P := rS [122, 57, 32, 47]) (d_str (l := [122, 57, 32, 47]) (by decide +kernel)) a_nil))))) (ls_c (ls_c (ls_c (ls_c (ls_c ls_n))))))) (fun v146 Gs145 s145 h147 => ?_)
    refine ec_callM F_law_pick hr (by decide) ?_
    refine ac_cons ?_
    refine ec_D (P := rV (.ref a0_)) (d_var 0 (P := rV (.ref a0_)) rfl rfl) (fun v_ Gs148 s148 hv_ => ?_)
    cases hv_
    refine ac_cons ?_
    refine ec_D (P := rI 5) d_int (fun v150 Gs149 s149 h151 => ?_)
    refine ac_nil' (fun Gs152 s152 => ?_)
    refine ⟨(t3.2, 5), [(a0_, HO.lst us31)], (a1_, HO.lst u1_) :: cs, (List.Perm.refl _), ⟨_, _, _, rfl, rfl, (Rs.mono (s145.trans (s148.trans (s149.trans s152))) h32), (Mono.mono s152 h151), (by exact ⟨by first | assumption | omega, by first | omega | exact h2t.2 (by assumption), by omega⟩)⟩, ?_⟩
    rintro v160 Gs154 mc155 s154 ⟨v156, a157, us158, e_, rfl, h159, h161⟩
    cases e_
    have h162 : Rs rI Gs154 r153.2 us158 := by rw [er153]; exact h159
    have h163 : rI r153.1 Gs154 v160 := by rw [er153]; exact h161
    refine ⟨(a0_, HO.lst us158) :: (a1_, HO.lst u1_) :: cs, (List.Perm.refl _), ?_⟩
    refine rc_ixL (r := rS) (xs := [[97], [98], [97, 98], ([] : List Nat), [122, 57, 32, 47]]) (i := r153.1) (u := (ixg [[97], [98], [97, 98], ([] : List Nat), [122, 57, 32, 47]] r153.1)) (rdL_of (Mono.mono (s148.trans (s149.trans (s152.trans s154))) h147)) h163 (atI_ixg (by first | (constructor <;> omega) | (simp only [List.length_cons, List.length_nil]; constructor <;> omega) | exact ix_mod (by omega) | (simp only [decide_eq_true_eq, decide_eq_false_iff_not] at *; constructor <;> omega) | (simp only [decide_eq_true_eq, decide_eq_false_iff_not, Bool.and_eq_true, Bool.or_eq_true, Bool.or_eq_false_iff, Bool.not_eq_true', Bool.not_eq_false', Bool.not_not, ne_eq, Int.not_lt, Int.not_le] at *; constructor <;> omega))) (fun v165 Gs164 s164 h166 => ?_)
    intro _
    refine letV_intro (fun key_167 ekey_167 => ?_)
    have h168 : rS key_167 Gs164 v165 := by rw [ekey_167]; exact h166
    have hq_ : (v165 : V) = .str (SX.S key_167) := h168
    rw [hq_]
    refine letV_intro (fun r174 er174 => ?_)
    have fr174 := pick_ok (s := r153.2) (n := 20) (by first | assumption | omega) (by first | omega | exact h2t.2 (by assumption))
    rw [← er174] at fr174
    obtain ⟨lr174, ar174, br174⟩ := fr174
    refine letV_intro (fun r190 er190 => ?_)
    have fr190 := pick_ok (s := r174.2) (n := 36525) (by first | assumption | omega) (by first | omega | exact h2t.2 (by assumption))
    rw [← er190] at fr190
    obtain ⟨lr190, ar190, br190⟩ := fr190
    refine letV_intro (fun r211 er211 => ?_)
    have fr211 := pick_ok (s := r190.2) (n := 2) (by first | assumption | omega) (by first | omega | exact h2t.2 (by assumption))
    rw [← er211] at fr211
    obtain ⟨lr211, ar211, br211⟩ := fr211
    refine b_setC 5 sc_law_payment.nd ?_
    refine ec_ix ix_list ?_
    refine ec_lst ?_
    refine ac_cons ?_
    refine ec_callM F_law_pick hr (by decide) ?_
    refine ac_cons ?_
    refine ec_D (P := rV (.ref a0_)) (d_var 0 (P := rV (.ref a0_)) rfl rfl) (fun v_ Gs169 s169 hv_ => ?_)
    cases hv_
    refine ac_cons ?_
    refine ec_D (P := rI 20) d_int (fun v171 Gs170 s170 h172 => ?_)
    refine ac_nil' (fun Gs173 s173 => ?_)
    refine ⟨(r153.2, 20), [(a0_, HO.lst us158)], (a1_, HO.lst u1_) :: cs, (List.Perm.refl _), ⟨_, _, _, rfl, rfl, (Rs.mono (s164.trans (s169.trans (s170.trans s173))) h162), (Mono.mono s173 h172), (by exact ⟨by first | assumption | omega, by first | omega | exact h2t.2 (by assumption), by omega⟩)⟩, ?_⟩
    rintro v181 Gs175 mc176 s175 ⟨v177, a178, us179, e_, rfl, h180, h182⟩
    cases e_
    have h183 : Rs rI Gs175 r174.2 us179 := by rw [er174]; exact h180
    have h184 : rI r174.1 Gs175 v181 := by rw [er174]; exact h182
    refine ⟨(a0_, HO.lst us179) :: (a1_, HO.lst u1_) :: cs, (List.Perm.refl _), ?_⟩
    refine ac_cons ?_
    refine ec_callM F_law_pick hr (by decide) ?_
    refine ac_cons ?_
    refine ec_D (P := rV (.ref a0_)) (d_var 0 (P := rV (.ref a0_)) rfl rfl) (fun v_ Gs185 s185 hv_ => ?_)
    cases hv_
    refine ac_cons ?_
    refine ec_D (P := rI 36525) d_int (fun v187 Gs186 s186 h188 => ?_)
    refine ac_nil' (fun Gs189 s189 => ?_)
    refine ⟨(r174.2, 36525), [(a0_, HO.lst us179)], (a1_, HO.lst u1_) :: cs, (List.Perm.refl _), ⟨_, _, _, rfl, rfl, (Rs.mono (s185.trans (s186.trans s189)) h183), (Mono.mono s189 h188), (by exact ⟨by first | assumption | omega, by first | omega | exact h2t.2 (by assumption), by omega⟩)⟩, ?_⟩
    rintro v197 Gs191 mc192 s191 ⟨v193, a194, us195, e_, rfl, h196, h198⟩
    cases e_
    have h199 : Rs rI Gs191 r190.2 us195 := by rw [er190]; exact h196
    have h200 : rI r190.1 Gs191 v197 := by rw [er190]; exact h198
    refine ⟨(a0_, HO.lst us195) :: (a1_, HO.lst u1_) :: cs, (List.Perm.refl _), ?_⟩
    refine ac_nil' (fun Gs201 s201 => ⟨Nat.le_of_ble_eq_true rfl, fun l203 Gs202 s202 hl204 => ?_⟩)
    have h205 : (rL K rI) [r174.1, r190.1] Gs202 (.ref l203) := ⟨l203, _, rfl, hl204, (.cons (Mono.mono (s185.trans (s186.trans (s189.trans (s191.trans (s201.trans s202))))) h184) (.cons (Mono.mono (s201.trans s202) h200) .nil))⟩
    refine ec_callM F_law_pick hr (by decide) ?_
    refine ac_cons ?_
    refine ec_D (P := rV (.ref a0_)) (d_var 0 (P := rV (.ref a0_)) rfl rfl) (fun v_ Gs206 s206 hv_ => ?_)
    cases hv_
    refine ac_cons ?_
    refine ec_D (P := rI 2) d_int (fun v208 Gs207 s207 h209 => ?_)
    refine ac_nil' (fun Gs210 s210 => ?_)
    refine ⟨(r190.2, 2), [(a0_, HO.lst us195)], (a1_, HO.lst u1_) :: cs, (List.Perm.refl _), ⟨_, _, _, rfl, rfl, (Rs.mono (s201.trans (s202.trans (s206.trans (s207.trans s210)))) h199), (Mono.mono s210 h209), (by exact ⟨by first | assumption | omega, by first | omega | exact h2t.2 (by assumption), by omega⟩)⟩, ?_⟩
    rintro v218 Gs212 mc213 s212 ⟨v214, a215, us216, e_, rfl, h217, h219⟩
    cases e_
    have h220 : Rs rI Gs212 r211.2 us216 := by rw [er211]; exact h217
    have h221 : rI r211.1 Gs212 v218 := by rw [er211]; exact h219
    refine ⟨(a0_, HO.lst us216) :: (a1_, HO.lst u1_) :: cs, (List.Perm.refl _), ?_⟩
    refine rc_ixL (r := rI) (xs := [r174.1, r190.1]) (i := r211.1) (u := (ixg [r174.1, r190.1] r211.1)) (rdL_of (Mono.mono (s206.trans (s207.trans (s210.trans s212))) h205)) h221 (atI_ixg (by first | (constructor <;> omega) | (simp only [List.length_cons, List.length_nil]; constructor <;> omega) | exact ix_mod (by omega) | (simp only [decide_eq_true_eq, decide_eq_false_iff_not] at *; constructor <;> omega) | (simp only [decide_eq_true_eq, decide_eq_false_iff_not, Bool.and_eq_true, Bool.or_eq_true, Bool.or_eq_false_iff, Bool.not_eq_true', Bool.not_eq_false', Bool.not_not, ne_eq, Int.not_lt, Int.not_le] at *; constructor <;> omega))) (fun v223 Gs222 s222 h224 => ?_)
    intro _
    refine letV_intro (fun day_225 eday_225 => ?_)
    have h226 : rI day_225 Gs222 v223 := by rw [eday_225]; exact h224
    have hq_ : (v223 : V) = .int day_225 := h226
    rw [hq_]
    refine letV_intro (fun r235 er235 => ?_)
    have fr235 := pick_ok (s := r211.2) (n := 10) (by first | assumption | omega) (by first | omega | exact h2t.2 (by assumption))
    rw [← er235] at fr235
    obtain ⟨lr235, ar235, br235⟩ := fr235
    refine letV_intro (fun r256 er256 => ?_)
    have fr256 := pick_ok (s := r235.2) (n := 2000000000) (by first | assumption | omega) (by first | omega | exact h2t.2 (by assumption))
    rw [← er256] at fr256
    obtain ⟨lr256, ar256, br256⟩ := fr256
    refine letV_intro (fun r279 er279 => ?_)
    have fr279 := pick_ok (s := r256.2) (n := 2) (by first | assumption | omega) (by first | omega | exact h2t.2 (by assumption))
    rw [← er279] at fr279
    obtain ⟨lr279, ar279, br279⟩ := fr279
    refine b_setC 6 sc_law_payment.nd ?_
    refine ec_ix ix_list ?_
    refine ec_lst ?_
    refine ac_cons ?_
    refine ec_bin op_sub ?_
    refine ec_D (P := rI 5) d_int (fun v228 Gs227 s227 h229 => ?_)
    refine ec_callM F_law_pick hr (by decide) ?_
    refine ac_cons ?_
    refine ec_D (P := rV (.ref a0_)) (d_var 0 (P := rV (.ref a0_)) rfl rfl) (fun v_ Gs230 s230 hv_ => ?_)
    cases hv_
    refine ac_cons ?_
    refine ec_D (P := rI 10) d_int (fun v232 Gs231 s231 h233 => ?_)
    refine ac_nil' (fun Gs234 s234 => ?_)
    refine ⟨(r211.2, 10), [(a0_, HO.lst us216)], (a1_, HO.lst u1_) :: cs, (List.Perm.refl _), ⟨_, _, _, rfl, rfl, (Rs.mono (s222.trans (s227.trans (s230.trans (s231.trans s234)))) h220), (Mono.mono s234 h233), (by exact ⟨by first | assumption | omega, by first | omega | exact h2t.2 (by assumption), by omega⟩)⟩, ?_⟩
    rintro v242 Gs236 mc237 s236 ⟨v238, a239, us240, e_, rfl, h241, h243⟩
    cases e_
    have h244 : Rs rI Gs236 r235.2 us240 := by rw [er235]; exact h241
    have h245 : rI r235.1 Gs236 v242 := by rw [er235]; exact h243
    refine ⟨(a0_, HO.lst us240) :: (a1_, HO.lst u1_) :: cs, (List.Perm.refl _), ?_⟩
    refine rc_int (i := 5) (j := r235.1) (Mono.mono (s230.trans (s231.trans (s234.trans s236))) h229) h245 (fun Gs246 s246 => ?_)
    have h247 : rI (5 - r235.1) Gs246 (.int (5 - r235.1)) := rfl
    refine ac_cons ?_
    refine ec_bin op_sub ?_
    refine ec_D (P := rI 1000000000) d_int (fun v249 Gs248 s248 h250 => ?_)
    refine ec_callM F_law_pick hr (by decide) ?_
    refine ac_cons ?_
    refine ec_D (P := rV (.ref a0_)) (d_var 0 (P := rV (.ref a0_)) rfl rfl) (fun v_ Gs251 s251 hv_ => ?_)
    cases hv_
    refine ac_cons ?_
    refine ec_D (P := rI 2000000000) d_int (fun v253 Gs252 s252 h254 => ?_)
    refine ac_nil' (fun Gs255 s255 => ?_)
    refine ⟨(r235.2, 2000000000), [(a0_, HO.lst us240)], (a1_, HO.lst u1_) :: cs, (List.Perm.refl _), ⟨_, _, _, rfl, rfl, (Rs.mono (s246.trans (s248.trans (s251.trans (s252.trans s255)))) h244), (Mono.mono s255 h254), (by exact ⟨by first | assumption | omega, by first | omega | exact h2t.2 (by assumption), by omega⟩)⟩, ?_⟩
    rintro v263 Gs257 mc258 s257 ⟨v259, a260, us261, e_, rfl, h262, h264⟩
    cases e_
    have h265 : Rs rI Gs257 r256.2 us261 := by rw [er256]; exact h262
    have h266 : rI r256.1 Gs257 v263 := by rw [er256]; exact h264
    refine ⟨(a0_, HO.lst us261) :: (a1_, HO.lst u1_) :: cs, (List.Perm.refl _), ?_⟩
    refine rc_int (i := 1000000000) (j := r256.1) (Mono.mono (s251.trans (s252.trans (s255.trans s257))) h250) h266 (fun Gs267 s267 => ?_)
    have h268 : rI (1000000000 - r256.1) Gs267 (.int (1000000000 - r256.1)) := rfl
    refine ac_nil' (fun Gs269 s269 => ⟨Nat.le_of_ble_eq_true rfl, fun l271 Gs270 s270 hl272 => ?_⟩)
    have h273 : (rL K rI) [(5 - r235.1), (1000000000 - r256.1)] Gs270 (.ref l271) := ⟨l271, _, rfl, hl272, (.cons (Mono.mono (s248.trans (s251.trans (s252.trans (s255.trans (s257.trans (s267.trans (s269.trans s270))))))) h247) (.cons (Mono.mono (s269.trans s270) h268) .nil))⟩
    refine ec_callM F_law_pick hr (by decide) ?_
    refine ac_cons ?_
    refine ec_D (P := rV (.ref a0_)) (d_var 0 (P := rV (.ref a0_)) rfl rfl) (fun v_ Gs274 s274 hv_ => ?_)
    cases hv_
    refine ac_cons ?_
    refine ec_D (P := rI 2) d_int (fun v276 Gs275 s275 h277 => ?_)
    refine ac_nil' (fun Gs278 s278 => ?_)
    refine ⟨(r256.2, 2), [(a0_, HO.lst us261)], (a1_, HO.lst u1_) :: cs, (List.Perm.refl _), ⟨_, _, _, rfl, rfl, (Rs.mono (s267.trans (s269.trans (s270.trans (s274.trans (s275.trans s278))))) h265), (Mono.mono s278 h277), (by exact ⟨by first | assumption | omega, by first | omega | exact h2t.2 (by assumption), by omega⟩)⟩, ?_⟩
    rintro v286 Gs280 mc281 s280 ⟨v282, a283, us284, e_, rfl, h285, h287⟩
    cases e_
    have h288 : Rs rI Gs280 r279.2 us284 := by rw [er279]; exact h285
    have h289 : rI r279.1 Gs280 v286 := by rw [er279]; exact h287
    refine ⟨(a0_, HO.lst us284) :: (a1_, HO.lst u1_) :: cs, (List.Perm.refl _), ?_⟩
    refine rc_ixL (r := rI) (xs := [(5 - r235.1), (1000000000 - r256.1)]) (i := r279.1) (u := (ixg [(5 - r235.1), (1000000000 - r256.1)] r279.1)) (rdL_of (Mono.mono (s274.trans (s275.trans (s278.trans s280))) h273)) h289 (atI_ixg (by first | (constructor <;> omega) | (simp only [List.length_cons, List.length_nil]; constructor <;> omega) | exact ix_mod (by omega) | (simp only [decide_eq_true_eq, decide_eq_false_iff_not] at *; constructor <;> omega) | (simp only [decide_eq_true_eq, decide_eq_false_iff_not, Bool.and_eq_true, Bool.or_eq_true, Bool.or_eq_false_iff, Bool.not_eq_true', Bool.not_eq_false', Bool.not_not, ne_eq, Int.not_lt, Int.not_le] at *; constructor <;> omega))) (fun v291 Gs290 s290 h292 => ?_)
    intro _
    refine letV_intro (fun units_293 eunits_293 => ?_)
    have h294 : rI units_293 Gs290 v291 := by rw [eunits_293]; exact h292
    have hq_ : (v291 : V) = .int units_293 := h294
    rw [hq_]
    exact b_ret (P := (rT K (cc rS (cc rI (c0 rI)))) (key_167, day_225, units_293)) (d_tup (r := (cc rS (cc rI (c0 rI)))) (x := (key_167, day_225, units_293)) (a_cons (P := rS key_167) (d_var 4 (P := rS key_167) rfl rfl) (a_cons (P := rI day_225) (d_var 5 (P := rI day_225) rfl rfl) (a_cons (P := rI units_293) (d_var 6 (P := rI units_293) rfl rfl) a_nil))) (tp_c (tp_c tp_1))) (fun v_ Gs295 s295 h_ => ⟨[], [(a0_, HO.lst us284), (a1_, HO.lst u1_)], (List.Perm.refl _), ⟨_, _, _, rfl, rfl, (Rs.mono (s290.trans s295) h288), h_⟩⟩)
end Ck38

set_option synthInstance.maxSize 10000
namespace Ck38
open PySem L2 PyProof.Rows J
abbrev s_law : Stmt := PySem.Challenge.pw_corebank_k38_match_exact.main.body.getD 14 (.Pass ⟨0, 0, 0, 0⟩)
abbrev N_law : List Str := ["_law_script", "_law_ours", "_law_theirs", "_law_k", "_law_source_here", "_law_window", "_law_first", "_law_same", "_law_pair"]
theorem sc_law : FnScope ["_law_script", "_law_ours", "_law_theirs", "_law_k", "_law_source_here", "_law_window", "_law_first", "_law_same", "_law_pair"] ["_law_script"] (defScope s_law) := ⟨rfl, rfl, rfl, by decide +kernel, rfl, by decide +kernel, by decide +kernel⟩
theorem ok_law {P : Program} {w : World} {K : PySem.W.Frag} {mg : Str → Option Value} {base : Heap} {f : Addr} {fd : FuncData} (F : Fun K "law" "law" s_law f fd) (b : Binds K fd ["_law_script"] []) (hmg : mg "law" = some (.ref f)) {adr : _root_.Fin 1 → Addr} {B0 : Addr} (Er : Errs K mg nm_ adr B0) (m_len : mg "len" = none) (m_list : mg "list" = none) (m_range : mg "range" = none) (F_law_cell : Fn0 P w K mg base CX0 1 "_law_cell" 2 (sp_law_cell K)) (F_law_matched : Fn0 P w K mg base CX0 1 "_law_matched" 3 (sp_law_matched K)) (F_law_payment : Fn0 P w K mg base CX0 2 "_law_payment" 2 (sp_law_payment K)) (F_law_pick : Fn0 P w K mg base CX0 1 "_law_pick" 2 (sp_law_pick K)) (F_law_source : Fn0 P w K mg base CX0 1 "_law_source" 2 (sp_law_source K)) (F_match : Fn0 P w K mg base (L2.CX P w) 3 "match" 3 (sp_match K adr)) :
    FnOk P w K mg base CX0 4 f fd ["_law_script"] (sp_law K) := by
  have hsl := sizeLine_eq
  refine fn_ok F sc_law (fun i : ((List Int)) => b_law i) (fun i G vs h => ?_) (fun cdv A outer s H E script_ G cs vs hr hp => ?_)
  · obtain ⟨v0_, h, _⟩ := h
    rw [h]
    rfl
  obtain ⟨v0_, rfl, h0_, hpre⟩ := hp
  show B _ _ _ [some v0_, none, none, none, none, none, none, none, none] G cs _ (b_law script_)
  unfold b_law
  try dsimp only at hpre
  refine b_setN 1 sc_law.nd (n_lst (r := (rT K (cc rS (cc rI (c0 rI))))) (xs := ([] : (List ((List Nat) × Int × Int)))) a_nil ls_n) (fun l2 us3 Gs4 s4 h5 => ?_)
  refine letV_intro (fun ours_1 eours_1 => ?_)
  rw [← eours_1] at h5
  have nours_1 : ours_1.length = 0 := by rw [eours_1]; rfl
  refine b_setN 2 sc_law.nd (n_lst (r := (rT K (cc rS (cc rI (c0 rI))))) (xs := ([] : (List ((List Nat) × Int × Int)))) a_nil ls_n) (fun l7 us8 Gs9 s9 h10 => ?_)
  refine letV_intro (fun theirs_6 etheirs_6 => ?_)
  rw [← etheirs_6] at h10
  have ntheirs_6 : theirs_6.length = 0 := by rw [etheirs_6]; rfl
  refine b_for (f := (st_law_1 script_)) (s0 := (ours_1, theirs_6)) (xs := (rng 2 62)) (fun n_ (z11 : ((List ((List Nat) × Int × Int)) × (List ((List Nat) × Int × Int)))) σ_ G_ cs_ => ∃ us14 : List V, ∃ us16 : List V, ∃ o18 : Option V, ∃ o19 : Option V, ∃ o20 : Option V, ∃ o21 : Option V, ∃ o22 : Option V, ∃ o23 : Option V, σ_ = [some v0_, some (.ref l2), some (.ref l7), o18, o19, o20, o21, o22, o23] ∧ (l7, HO.lst us16) :: (l2, HO.lst us14) :: cs = cs_ ∧ Rs (rT K (cc rS (cc rI (c0 rI)))) G_ z11.1 us14 ∧ Rs (rT K (cc rS (cc rI (c0 rI)))) G_ z11.2 us16 ∧ z11.1.length ≤ ours_1.length + 1 * n_ ∧ z11.2.length ≤ theirs_6.length + 1 * n_ ∧ (PaysOk (n_ + 5) z11.1 ∧ PaysOk (n_ + 5) z11.2)) (i_rng2 m_range d_int d_int (by refine ⟨?_, ?_, ?_, ?_⟩ <;> omega)) (tg_name 3 sc_law.nd) rfl PassesOwn.never ?_ ?_ ?_ ?_
  · intro _ s110
    exact ⟨_, _, _, _, _, _, _, _, rfl, rfl, (Rs.mono (s9.trans s110) h5), (Rs.mono s110 h10), ⟨Nat.le_add_right _ _, Nat.le_add_right _ _, by (subst_vars; exact ⟨PaysOk.nil, PaysOk.nil⟩)⟩⟩
  · intro _ _ _ _ _ _
    trivial
  · intro pre_ x24 post_ z11 _ _ _ _ _ hxsz11 hrez11 s25 hNz11 s26 hSz11
    obtain ⟨us14, us16, o18, o19, o20, o21, o22, o23, rfl, rfl, h15, h17, hbz11⟩ := hNz11
    obtain ⟨v12, h13, rfl⟩ := hSz11
    have hltz11 : pre_.length < (rng 2 62).length := by rw [hxsz11, List.length_append, List.length_cons]; omega
    have hmemz11 : x24 ∈ (rng 2 62) := by rw [hxsz11]; exact List.mem_append_right _ List.mem_cons_self
    try simp only [rng_length, rng_mem, enumL_length] at hltz11 hmemz11
    show B _ _ _ _ _ _ _ (st_law_1 script_ z11 x24)
    unfold st_law_1
    cases h13
    obtain ⟨hP1, hP2⟩ := hbz11.2.2
    refine b_ifl (t_w (w_or (t_cmp op_lt (nomark _) (d_var 3 (P := rI x24) rfl rfl) (d_lenL (r := rI) m_len (D.imp (P := (rL K rI) script_) (d_var 0 (P := (rL K rI) script_) rfl (Mono.mono (s4.trans (s9.trans (s25.trans s26))) h0_)) fun _ _ => rdL_of)) fun _ _ _ _ _ _ hx hy _ q => c_lt hx hy q) fun hk30 => (w_or1 (t_cmp op_lt (nomark _) (d_var 3 (P := rI x24) rfl rfl) d_int fun _ _ _ _ _ _ hx hy _ q => c_lt hx hy q)))) ?_ ?_
    · intro hc28 Gs29 s29
      have dhc28 := hc28
      try simp only [decide_eq_true_eq, decide_eq_false_iff_not, Bool.and_eq_true, Bool.and_eq_false_imp, Bool.or_eq_true, Bool.or_eq_false_iff, Bool.not_eq_true', Bool.not_eq_false', Bool.not_not, ne_eq, Int.not_lt, Int.not_le] at dhc28
      refine letV_intro (fun r38 er38 => ?_)
      have lr38 : r38.length = 2 := by rw [er38]; exact source_len
      refine b_setC 4 sc_law.nd ?_
      refine ec_callM F_law_source hr (by decide) ?_
      refine ac_cons ?_
      refine ec_D (P := rI (m_law_cell script_ x24)) (d_callQ (P := rI (m_law_cell script_ x24)) (script_, x24) F_law_cell hr (by decide) (a_cons (P := (rL K rI) script_) (d_var 0 (P := (rL K rI) script_) rfl (Mono.mono (s4.trans (s9.trans (s25.trans (s26.trans s29)))) h0_)) (a_cons (P := rI x24) (d_var 3 (P := rI x24) rfl rfl) a_nil)) (fun _ _ s_ h => by obtain ⟨v0, w0, rfl, h0, v1, w1, rfl, h1, rfl⟩ := h; exact ⟨v0, v1, rfl, h0, h1, (by (try dsimp only); first | assumption | omega | (refine ⟨?_, ?_⟩ <;> omega) | (refine ⟨?_, ?_, ?_⟩ <;> omega) | simp_all)⟩) fun _ _ h => h) (fun v32 Gs31 s31 h33 => ?_)
      refine ac_cons ?_
      refine ec_D (P := rI x24) (d_var 3 (P := rI x24) rfl rfl) (fun v35 Gs34 s34 h36 => ?_)
      refine ac_nil' (fun Gs37 s37 => ?_)
      refine ⟨((m_law_cell script_ x24), x24), [], (l7, HO.lst us16) :: (l2, HO.lst us14) :: cs, (List.Perm.refl _), ⟨_, _, rfl, rfl, (Mono.mono (s34.trans s37) h33), (Mono.mono s37 h36)⟩, ?_⟩
      rintro _ Gs39 mc40 s39 ⟨v41, v42, l44, us45, e_, rfl, rfl, h46⟩
      cases e_
      have h47 : Rs rI Gs39 r38 us45 := by rw [er38]; exact h46
      refine ⟨(l44, HO.lst us45) :: (l7, HO.lst us16) :: (l2, HO.lst us14) :: cs, (List.Perm.refl _), ?_⟩
      intro _
      refine letV_intro (fun source_here_48 esource_here_48 => ?_)
      have h49 : Rs rI Gs39 source_here_48 us45 := by rw [esource_here_48]; exact h47
      have lsource_here_48 : source_here_48.length = 2 := by rw [esource_here_48]; assumption
      refine letV_intro (fun r57 er57 => ?_)
      have fr57 := pick_ok (s := source_here_48) (n := 2) (by first | assumption | omega) (by first | omega | exact h2t.2 (by assumption))
      rw [← er57] at fr57
      obtain ⟨lr57, ar57, br57⟩ := fr57
      refine b_iflC (fun G_ cs_ => ∃ us72 : List V, cs_ = (l44, HO.lst us72) :: (l7, HO.lst us16) :: (l2, HO.lst us14) :: cs ∧ Rs rI G_ r57.2 us72) ?_ ?_ ?_
      · refine tc_cmp op_eq (nomark _) ?_
        refine ec_callM F_law_pick hr (by decide) ?_
        refine ac_cons ?_
        refine ec_D (P := rV (.ref l44)) (d_var 4 (P := rV (.ref l44)) rfl rfl) (fun v_ Gs52 s52 hv_ => ?_)
        cases hv_
        refine ac_cons ?_
        refine ec_D (P := rI 2) d_int (fun v54 Gs53 s53 h55 => ?_)
        refine ac_nil' (fun Gs56 s56 => ?_)
        refine ⟨(source_here_48, 2), [(l44, HO.lst us45)], (l7, HO.lst us16) :: (l2, HO.lst us14) :: cs, (List.Perm.refl _), ⟨_, _, _, rfl, rfl, (Rs.mono (s52.trans (s53.trans s56)) h49), (Mono.mono s56 h55), (by exact ⟨by first | assumption | omega, by omega, by omega⟩)⟩, ?_⟩
        rintro v64 Gs58 mc59 s58 ⟨v60, a61, us62, e_, rfl, h63, h65⟩
        cases e_
        have h66 : Rs rI Gs58 r57.2 us62 := by rw [er57]; exact h63
        have h67 : rI r57.1 Gs58 v64 := by rw [er57]; exact h65
        refine ⟨(l44, HO.lst us62) :: (l7, HO.lst us16) :: (l2, HO.lst us14) :: cs, (List.Perm.refl _), ?_⟩
        refine ec_D (P := rI 0) d_int (fun v69 Gs68 s68 h70 => ?_)
        refine rc_eqI (i := r57.1) (j := 0) (Mono.mono s68 h67) h70 (fun Gs71 s71 => ?_)
        refine ⟨_, rfl, ?_⟩
        exact ⟨rfl, us62, rfl, (Rs.mono (s68.trans s71) h66)⟩
      · rintro hc50 Gs51 _ s51 ⟨us72, rfl, h73⟩
        have dhc50 := hc50
        try simp only [decide_eq_true_eq, decide_eq_false_iff_not, Bool.and_eq_true, Bool.and_eq_false_imp, Bool.or_eq_true, Bool.or_eq_false_iff, Bool.not_eq_true', Bool.not_eq_false', Bool.not_not, ne_eq, Int.not_lt, Int.not_le] at dhc50
        refine letV_intro (fun r77 er77 => ?_)
        have fr77 := payment_ok (s := r57.2) (o := z11.2) (by assumption) (by assumption) (by omega)
        rw [← er77] at fr77
        obtain ⟨lr77, ar77⟩ := fr77
        refine b_appC (d_var 1 (P := rV (.ref l2)) rfl rfl) ⟨us14, (List.mem_cons_of_mem _ (List.mem_cons_of_mem _ List.mem_cons_self))⟩ ?_
        refine ec_callM F_law_payment hr (by decide) ?_
        refine ac_cons ?_
        refine ec_D (P := rV (.ref l44)) (d_var 4 (P := rV (.ref l44)) rfl rfl) (fun v_ Gs74 s74 hv_ => ?_)
        cases hv_
        refine ac_cons ?_
        refine ec_D (P := rV (.ref l7)) (d_var 2 (P := rV (.ref l7)) rfl rfl) (fun v_ Gs75 s75 hv_ => ?_)
        cases hv_
        refine ac_nil' (fun Gs76 s76 => ?_)
        refine ⟨((r57.2, z11.2), [(l7, HO.lst us16)]), [(l44, HO.lst us72), (l7, HO.lst us16)], (l2, HO.lst us14) :: cs, (List.Perm.refl _), ⟨_, _, _, _, rfl, rfl, rfl, (Rs.mono (s74.trans (s75.trans s76)) h73), (Rs.mono (s26.trans (s29.trans (s31.trans (s34.trans (s37.trans (s39.trans (s51.trans (s74.trans (s75.trans s76))))))))) h17), (by first | exact ⟨by assumption, hP2.up (by omega), by dsimp only; omega⟩ | exact ⟨by assumption, hP1.up (by omega), by dsimp only; omega⟩)⟩, ?_⟩
        rintro v84 Gs78 mc79 s78 ⟨a80, us81, a83, e_, rfl, h82, h85⟩
        cases e_
        have h86 : Rs rI Gs78 r77.2 us81 := by rw [er77]; exact h82
        have h87 : (rT K (cc rS (cc rI (c0 rI)))) r77.1 Gs78 v84 := by rw [er77]; exact h85
        refine ⟨(l44, HO.lst us81) :: (l7, HO.lst us16) :: (l2, HO.lst us14) :: cs, (List.Perm.refl _), ?_⟩
        refine ⟨2, us14, rfl, (by have hq := Rs.length h15; omega), fun _ => ?_⟩
        have h89 := Rs.snoc h87 (Rs.mono (s26.trans (s29.trans (s31.trans (s34.trans (s37.trans (s39.trans (s51.trans (s74.trans (s75.trans (s76.trans s78)))))))))) h15)
        refine letV_intro (fun ours_88 eours_88 => ?_)
        rw [← eours_88] at h89
        have nours_88 : ours_88.length = z11.1.length + 1 := by rw [eours_88, List.length_append]; rfl
        have hzs90 := h86
        refine b_freeze 0 rfl (fun s90 h91 => ?_)
        have kh91 : (rL K rI) r77.2 _ (.ref l44) := ⟨_, _, rfl, SqL.of h91, Rs.mono s90 hzs90⟩
        exact b_nil (by refine ⟨_, _, _, _, _, _, _, _, rfl, rfl, (Rs.mono s90 h89), (Rs.mono (s26.trans (s29.trans (s31.trans (s34.trans (s37.trans (s39.trans (s51.trans (s74.trans (s75.trans (s76.trans (s78.trans s90))))))))))) h17), ⟨by first | omega | (simp only [List.length_append, List.length_cons, List.length_nil] at *; omega), by first | omega | (simp only [List.length_append, List.length_cons, List.length_nil] at *; omega), by first | exact ⟨hP1.up (by omega), hP2.up (by omega)⟩ | exact ⟨by rw [eours_88]; exact PaysOk.snoc (hP1.up (by omega)) (ar77.up (by omega)), hP2.up (by omega)⟩ | exact ⟨hP1.up (by omega), by rw [etheirs_106]; exact PaysOk.snoc (hP2.up (by omega)) (ar95.up (by omega))⟩⟩⟩)
      · rintro hc50 Gs51 _ s51 ⟨us72, rfl, h73⟩
        have dhc50 := hc50
        try simp only [decide_eq_true_eq, decide_eq_false_iff_not, Bool.and_eq_true, Bool.and_eq_false_imp, Bool.or_eq_true, Bool.or_eq_false_iff, Bool.not_eq_true', Bool.not_eq_false', Bool.not_not, ne_eq, Int.not_lt, Int.not_le] at dhc50
        refine letV_intro (fun r95 er95 => ?_)
        have fr95 := payment_ok (s := r57.2) (o := z11.1) (by assumption) (by assumption) (by omega)
        rw [← er95] at fr95
        obtain ⟨lr95, ar95⟩ := fr95
        refine b_appC (d_var 2 (P := rV (.ref l7)) rfl rfl) ⟨us16, (List.mem_cons_of_mem _ List.mem_cons_self)⟩ ?_
        refine ec_callM F_law_payment hr (by decide) ?_
        refine ac_cons ?_
        refine ec_D (P := rV (.ref l44)) (d_var 4 (P := rV (.ref l44)) rfl rfl) (fun v_ Gs92 s92 hv_ => ?_)
        cases hv_
        refine ac_cons ?_
        refine ec_D (P := rV (.ref l2)) (d_var 1 (P := rV (.ref l2)) rfl rfl) (fun v_ Gs93 s93 hv_ => ?_)
        cases hv_
        refine ac_nil' (fun Gs94 s94 => ?_)
        refine ⟨((r57.2, z11.1), [(l2, HO.lst us14)]), [(l44, HO.lst us72), (l2, HO.lst us14)], (l7, HO.lst us16) :: cs, (perm_to (k := 0) rfl (perm_to (k := 1) rfl (List.Perm.refl _))), ⟨_, _, _, _, rfl, rfl, rfl, (Rs.mono (s92.trans (s93.trans s94)) h73), (Rs.mono (s26.trans (s29.trans (s31.trans (s34.trans (s37.trans (s39.trans (s51.trans (s92.trans (s93.trans s94))))))))) h15), (by first | exact ⟨by assumption, hP2.up (by omega), by dsimp only; omega⟩ | exact ⟨by assumption, hP1.up (by omega), by dsimp only; omega⟩)⟩, ?_⟩
        rintro v102 Gs96 mc97 s96 ⟨a98, us99, a101, e_, rfl, h100, h103⟩
        cases e_
        have h104 : Rs rI Gs96 r95.2 us99 := by rw [er95]; exact h100
        have h105 : (rT K (cc rS (cc rI (c0 rI)))) r95.1 Gs96 v102 := by rw [er95]; exact h103
        refine ⟨(l44, HO.lst us99) :: (l7, HO.lst us16) :: (l2, HO.lst us14) :: cs, (perm_to (k := 0) rfl (perm_to (k := 1) rfl (List.Perm.refl _))), ?_⟩
        refine ⟨1, us16, rfl, (by have hq := Rs.length h17; omega), fun _ => ?_⟩
        have h107 := Rs.snoc h105 (Rs.mono (s26.trans (s29.trans (s31.trans (s34.trans (s37.trans (s39.trans (s51.trans (s92.trans (s93.trans (s94.trans s96)))))))))) h17)
        refine letV_intro (fun theirs_106 etheirs_106 => ?_)
        rw [← etheirs_106] at h107
        have ntheirs_106 : theirs_106.length = z11.2.length + 1 := by rw [etheirs_106, List.length_append]; rfl
        have hzs108 := h104
        refine b_freeze 0 rfl (fun s108 h109 => ?_)
        have kh109 : (rL K rI) r95.2 _ (.ref l44) := ⟨_, _, rfl, SqL.of h109, Rs.mono s108 hzs108⟩
        exact b_nil (by refine ⟨_, _, _, _, _, _, _, _, rfl, rfl, (Rs.mono (s26.trans (s29.trans (s31.trans (s34.trans (s37.trans (s39.trans (s51.trans (s92.trans (s93.trans (s94.trans (s96.trans s108))))))))))) h15), (Rs.mono s108 h107), ⟨by first | omega | (simp only [List.length_append, List.length_cons, List.length_nil] at *; omega), by first | omega | (simp only [List.length_append, List.length_cons, List.length_nil] at *; omega), by first | exact ⟨hP1.up (by omega), hP2.up (by omega)⟩ | exact ⟨by rw [eours_88]; exact PaysOk.snoc (hP1.up (by omega)) (ar77.up (by omega)), hP2.up (by omega)⟩ | exact ⟨hP1.up (by omega), by rw [etheirs_106]; exact PaysOk.snoc (hP2.up (by omega)) (ar95.up (by omega))⟩⟩⟩)
    · intro hc28 Gs29 s29
      have dhc28 := hc28
      try simp only [decide_eq_true_eq, decide_eq_false_iff_not, Bool.and_eq_true, Bool.and_eq_false_imp, Bool.or_eq_true, Bool.or_eq_false_iff, Bool.not_eq_true', Bool.not_eq_false', Bool.not_not, ne_eq, Int.not_lt, Int.not_le] at dhc28
      exact b_nil (by refine ⟨_, _, _, _, _, _, _, _, rfl, rfl, (Rs.mono (s26.trans s29) h15), (Rs.mono (s26.trans s29) h17), ⟨by first | omega | (simp only [List.length_append, List.length_cons, List.length_nil] at *; omega), by first | omega | (simp only [List.length_append, List.length_cons, List.length_nil] at *; omega), by first | exact ⟨hP1.up (by omega), hP2.up (by omega)⟩ | exact ⟨by rw [eours_88]; exact PaysOk.snoc (hP1.up (by omega)) (ar77.up (by omega)), hP2.up (by omega)⟩ | exact ⟨hP1.up (by omega), by rw [etheirs_106]; exact PaysOk.snoc (hP2.up (by omega)) (ar95.up (by omega))⟩⟩⟩)
  · intro n_ z11 _ _ _ hnz11 s111 hNz11 hfz11
    obtain ⟨us14, us16, o18, o19, o20, o21, o22, o23, rfl, rfl, h15, h17, hbz11⟩ := hNz11
    try simp only [rng_length, enumL_length] at hnz11
    obtain ⟨hL1, hL2, hO1, hO2⟩ := hbz11
    have hO1 := hO1.up (m := 1000) (by omega)
    have hO2 := hO2.up (m := 1000) (by omega)
    have hl1 : z11.1.length ≤ 1000 := by omega
    have hl2 : z11.2.length ≤ 1000 := by omega
    have hzs112 := h15
    refine b_freeze 1 rfl (fun s112 h113 => ?_)
    have kh113 : (rL K (rT K (cc rS (cc rI (c0 rI))))) z11.1 _ (.ref l2) := ⟨_, _, rfl, SqL.of h113, Rs.mono s112 hzs112⟩
    have hzs114 := (Rs.mono s112 h17)
    refine b_freeze 0 rfl (fun s114 h115 => ?_)
    have kh115 : (rL K (rT K (cc rS (cc rI (c0 rI))))) z11.2 _ (.ref l7) := ⟨_, _, rfl, SqL.of h115, Rs.mono s114 hzs114⟩
    refine letV_intro (fun r123 er123 => ?_)
    have lr123 : r123.length = 2 := by rw [er123]; exact source_len
    refine b_setC 4 sc_law.nd ?_
    refine ec_callM F_law_source hr (by decide) ?_
    refine ac_cons ?_
    refine ec_D (P := rI (m_law_cell script_ 0)) (d_callQ (P := rI (m_law_cell script_ 0)) (script_, 0) F_law_cell hr (by decide) (a_cons (P := (rL K rI) script_) (d_var 0 (P := (rL K rI) script_) rfl (Mono.mono (s4.trans (s9.trans (s111.trans (s112.trans s114)))) h0_)) (a_cons (P := rI 0) d_int a_nil)) (fun _ _ s_ h => by obtain ⟨v0, w0, rfl, h0, v1, w1, rfl, h1, rfl⟩ := h; exact ⟨v0, v1, rfl, h0, h1, (by (try dsimp only); first | assumption | omega | (refine ⟨?_, ?_⟩ <;> omega) | (refine ⟨?_, ?_, ?_⟩ <;> omega) | simp_all)⟩) fun _ _ h => h) (fun v117 Gs116 s116 h118 => ?_)
    refine ac_cons ?_
    refine ec_D (P := rI 0) d_int (fun v120 Gs119 s119 h121 => ?_)
    refine ac_nil' (fun Gs122 s122 => ?_)
    refine ⟨((m_law_cell script_ 0), 0), [], cs, (List.Perm.refl _), ⟨_, _, rfl, rfl, (Mono.mono (s119.trans s122) h118), (Mono.mono s122 h121)⟩, ?_⟩
    rintro _ Gs124 mc125 s124 ⟨v126, v127, l129, us130, e_, rfl, rfl, h131⟩
    cases e_
    have h132 : Rs rI Gs124 r123 us130 := by rw [er123]; exact h131
    refine ⟨(l129, HO.lst us130) :: cs, (List.Perm.refl _), ?_⟩
    intro _
    refine letV_intro (fun source_here_133 esource_here_133 => ?_)
    have h134 : Rs rI Gs124 source_here_133 us130 := by rw [esource_here_133]; exact h132
    have lsource_here_133 : source_here_133.length = 2 := by rw [esource_here_133]; assumption
    refine letV_intro (fun r146 er146 => ?_)
    have fr146 := pick_ok (s := source_here_133) (n := 41) (by first | assumption | omega) (by first | omega | exact h2t.2 (by assumption))
    rw [← er146] at fr146
    obtain ⟨lr146, ar146, br146⟩ := fr146
    refine letV_intro (fun r162 er162 => ?_)
    have fr162 := pick_ok (s := r146.2) (n := 40000) (by first | assumption | omega) (by first | omega | exact h2t.2 (by assumption))
    rw [← er162] at fr162
    obtain ⟨lr162, ar162, br162⟩ := fr162
    refine letV_intro (fun r183 er183 => ?_)
    have fr183 := pick_ok (s := r162.2) (n := 4) (by first | assumption | omega) (by first | omega | exact h2t.2 (by assumption))
    rw [← er183] at fr183
    obtain ⟨lr183, ar183, br183⟩ := fr183
    refine b_setC 5 sc_law.nd ?_
    refine ec_ix ix_list ?_
    refine ec_lst ?_
    refine ac_cons ?_
    refine ec_D (P := rI 0) d_int (fun v136 Gs135 s135 h137 => ?_)
    refine ac_cons ?_
    refine ec_D (P := rI 1) d_int (fun v139 Gs138 s138 h140 => ?_)
    refine ac_cons ?_
    refine ec_callM F_law_pick hr (by decide) ?_
    refine ac_cons ?_
    refine ec_D (P := rV (.ref l129)) (d_var 4 (P := rV (.ref l129)) rfl rfl) (fun v_ Gs141 s141 hv_ => ?_)
    cases hv_
    refine ac_cons ?_
    refine ec_D (P := rI 41) d_int (fun v143 Gs142 s142 h144 => ?_)
    refine ac_nil' (fun Gs145 s145 => ?_)
    refine ⟨(source_here_133, 41), [(l129, HO.lst us130)], cs, (List.Perm.refl _), ⟨_, _, _, rfl, rfl, (Rs.mono (s135.trans (s138.trans (s141.trans (s142.trans s145)))) h134), (Mono.mono s145 h144), (by exact ⟨by first | assumption | omega, by omega, by omega⟩)⟩, ?_⟩
    rintro v153 Gs147 mc148 s147 ⟨v149, a150, us151, e_, rfl, h152, h154⟩
    cases e_
    have h155 : Rs rI Gs147 r146.2 us151 := by rw [er146]; exact h152
    have h156 : rI r146.1 Gs147 v153 := by rw [er146]; exact h154
    refine ⟨(l129, HO.lst us151) :: cs, (List.Perm.refl _), ?_⟩
    refine ac_cons ?_
    refine ec_callM F_law_pick hr (by decide) ?_
    refine ac_cons ?_
    refine ec_D (P := rV (.ref l129)) (d_var 4 (P := rV (.ref l129)) rfl rfl) (fun v_ Gs157 s157 hv_ => ?_)
    cases hv_
    refine ac_cons ?_
    refine ec_D (P := rI 40000) d_int (fun v159 Gs158 s158 h160 => ?_)
    refine ac_nil' (fun Gs161 s161 => ?_)
    refine ⟨(r146.2, 40000), [(l129, HO.lst us151)], cs, (List.Perm.refl _), ⟨_, _, _, rfl, rfl, (Rs.mono (s157.trans (s158.trans s161)) h155), (Mono.mono s161 h160), (by exact ⟨by first | assumption | omega, by omega, by omega⟩)⟩, ?_⟩
    rintro v169 Gs163 mc164 s163 ⟨v165, a166, us167, e_, rfl, h168, h170⟩
    cases e_
    have h171 : Rs rI Gs163 r162.2 us167 := by rw [er162]; exact h168
    have h172 : rI r162.1 Gs163 v169 := by rw [er162]; exact h170
    refine ⟨(l129, HO.lst us167) :: cs, (List.Perm.refl _), ?_⟩
    refine ac_nil' (fun Gs173 s173 => ⟨Nat.le_of_ble_eq_true rfl, fun l175 Gs174 s174 hl176 => ?_⟩)
    have h177 : (rL K rI) [0, 1, r146.1, r162.1] Gs174 (.ref l175) := ⟨l175, _, rfl, hl176, (.cons (Mono.mono (s138.trans (s141.trans (s142.trans (s145.trans (s147.trans (s157.trans (s158.trans (s161.trans (s163.trans (s173.trans s174)))))))))) h137) (.cons (Mono.mono (s141.trans (s142.trans (s145.trans (s147.trans (s157.trans (s158.trans (s161.trans (s163.trans (s173.trans s174))))))))) h140) (.cons (Mono.mono (s157.trans (s158.trans (s161.trans (s163.trans (s173.trans s174))))) h156) (.cons (Mono.mono (s173.trans s174) h172) .nil))))⟩
    refine ec_callM F_law_pick hr (by decide) ?_
    refine ac_cons ?_
    refine ec_D (P := rV (.ref l129)) (d_var 4 (P := rV (.ref l129)) rfl rfl) (fun v_ Gs178 s178 hv_ => ?_)
    cases hv_
    refine ac_cons ?_
    refine ec_D (P := rI 4) d_int (fun v180 Gs179 s179 h181 => ?_)
    refine ac_nil' (fun Gs182 s182 => ?_)
    refine ⟨(r162.2, 4), [(l129, HO.lst us167)], cs, (List.Perm.refl _), ⟨_, _, _, rfl, rfl, (Rs.mono (s173.trans (s174.trans (s178.trans (s179.trans s182)))) h171), (Mono.mono s182 h181), (by exact ⟨by first | assumption | omega, by omega, by omega⟩)⟩, ?_⟩
    rintro v190 Gs184 mc185 s184 ⟨v186, a187, us188, e_, rfl, h189, h191⟩
    cases e_
    have h192 : Rs rI Gs184 r183.2 us188 := by rw [er183]; exact h189
    have h193 : rI r183.1 Gs184 v190 := by rw [er183]; exact h191
    refine ⟨(l129, HO.lst us188) :: cs, (List.Perm.refl _), ?_⟩
    refine rc_ixL (r := rI) (xs := [0, 1, r146.1, r162.1]) (i := r183.1) (u := (ixg [0, 1, r146.1, r162.1] r183.1)) (rdL_of (Mono.mono (s178.trans (s179.trans (s182.trans s184))) h177)) h193 (atI_ixg (by first | (constructor <;> omega) | (simp only [List.length_cons, List.length_nil]; constructor <;> omega))) (fun v195 Gs194 s194 h196 => ?_)
    intro _
    refine letV_intro (fun window_197 ewindow_197 => ?_)
    have h198 : rI window_197 Gs194 v195 := by rw [ewindow_197]; exact h196
    have hq_ : (v195 : V) = .int window_197 := h198
    rw [hq_]
    have hw : 0 ≤ window_197 := by rw [ewindow_197]; exact win_ok (by omega) (by omega) (by omega) (by omega)
    refine letV_intro (fun first_199 efirst_199 => ?_)
    refine b_setT (P := rMt K Gs194 first_199) 6 sc_law.nd (by rw [efirst_199]; exact (d_callS (adr := adr) (P := rMt K Gs194 (okV (m_match z11.1 z11.2 window_197))) (o := okV (m_match z11.1 z11.2 window_197)) ((z11.1, z11.2, window_197), _) F_match (by first | (rw [match_eq hw]; rfl) | (rw [match_eq (Int.le_refl 0)]; rfl)) hr (by decide) (a_cons (P := (rL K (rT K (cc rS (cc rI (c0 rI))))) z11.1) (d_var 1 (P := (rL K (rT K (cc rS (cc rI (c0 rI))))) z11.1) rfl (Mono.mono (s114.trans (s116.trans (s119.trans (s122.trans (s124.trans (s135.trans (s138.trans (s141.trans (s142.trans (s145.trans (s147.trans (s157.trans (s158.trans (s161.trans (s163.trans (s173.trans (s174.trans (s178.trans (s179.trans (s182.trans (s184.trans s194))))))))))))))))))))) kh113)) (a_cons (P := (rL K (rT K (cc rS (cc rI (c0 rI))))) z11.2) (d_var 2 (P := (rL K (rT K (cc rS (cc rI (c0 rI))))) z11.2) rfl (Mono.mono (s116.trans (s119.trans (s122.trans (s124.trans (s135.trans (s138.trans (s141.trans (s142.trans (s145.trans (s147.trans (s157.trans (s158.trans (s161.trans (s163.trans (s173.trans (s174.trans (s178.trans (s179.trans (s182.trans (s184.trans s194)))))))))))))))))))) kh115)) (a_cons (P := rI window_197) (d_var 5 (P := rI window_197) rfl rfl) a_nil))) (fun _ _ s_ h => by obtain ⟨v0, w0, rfl, h0, v1, w1, rfl, h1, v2, w2, rfl, h2, rfl⟩ := h; exact ⟨v0, v1, v2, rfl, h0, h1, h2, s_, (by exact ⟨by dsimp only; omega, by dsimp only; omega⟩)⟩) fun _ _ h => h)) (fun v_ G1_ s1_ hM => ?_)
    have hGd := (match_ok (o := z11.1) (t := z11.2) hw).2
    rw [← efirst_199] at hGd
    have hp1 := hGd.p1.length_eq
    simp only [List.length_append, List.length_map, rng_length] at hp1
    have hM2 := rMt_rep hM
    obtain ⟨t_, l0_, u0_, l1_, u1_, v2_, rfl, ht_, ha0, hb0, hc0, ha1, hb1, hc1, hne, hv2⟩ := hM
    obtain ⟨sT_, dT_⟩ := thaw2 s1_ hb0 ha0 hb1 ha1 hne
    refine ⟨_, _, sT_, dT_ _, ?_⟩
    have hbk := same_back ha0 ha1 hne
    have hMv := Mono.mono hbk hM2
    have sV_ := s1_.trans hbk
    have hq0 := Rs.length hc0
    have hq1 := Rs.length hc1
    have ht2_ := sqT_del2 ha0 ha1 hne ht_
    refine b_ifx (t_view 0 rfl fun _ _ => t_view 0 rfl fun _ _ => (t_neD (K := K) (r := (rT K (cc (rL K (rT K (cc rI (c0 rI)))) (cc (rL K rI) (c0 (rL K rI)))))) hr (d_var 6 (P := (rT K (cc (rL K (rT K (cc rI (c0 rI)))) (cc (rL K rI) (c0 (rL K rI))))) first_199) rfl hMv) (d_callQ (P := (rT K (cc (rL K (rT K (cc rI (c0 rI)))) (cc (rL K rI) (c0 (rL K rI))))) (m_law_matched z11.1 z11.2 window_197)) (z11.1, z11.2, window_197) F_law_matched hr (by decide) (a_cons (P := (rL K (rT K (cc rS (cc rI (c0 rI))))) z11.1) (d_var 1 (P := (rL K (rT K (cc rS (cc rI (c0 rI))))) z11.1) rfl (Mono.mono (s114.trans (s116.trans (s119.trans (s122.trans (s124.trans (s135.trans (s138.trans (s141.trans (s142.trans (s145.trans (s147.trans (s157.trans (s158.trans (s161.trans (s163.trans (s173.trans (s174.trans (s178.trans (s179.trans (s182.trans (s184.trans (s194.trans sV_)))))))))))))))))))))) kh113)) (a_cons (P := (rL K (rT K (cc rS (cc rI (c0 rI))))) z11.2) (d_var 2 (P := (rL K (rT K (cc rS (cc rI (c0 rI))))) z11.2) rfl (Mono.mono (s116.trans (s119.trans (s122.trans (s124.trans (s135.trans (s138.trans (s141.trans (s142.trans (s145.trans (s147.trans (s157.trans (s158.trans (s161.trans (s163.trans (s173.trans (s174.trans (s178.trans (s179.trans (s182.trans (s184.trans (s194.trans sV_))))))))))))))))))))) kh115)) (a_cons (P := rI window_197) (d_var 5 (P := rI window_197) rfl rfl) a_nil))) (fun _ _ s_ h => by obtain ⟨v0, w0, rfl, h0, v1, w1, rfl, h1, v2, w2, rfl, h2, rfl⟩ := h; exact ⟨v0, v1, v2, rfl, h0, h1, h2, (by exact ⟨by dsimp only; omega, by dsimp only; omega⟩)⟩) fun _ _ h => h) (by exact ⟨(fun _ _ => (by exact ⟨trivial, trivial⟩)), ⟨(fun _ _ => trivial), (fun _ _ => trivial)⟩⟩) (by exact ⟨(fun _ _ => (by exact ⟨trivial, trivial⟩)), ⟨(fun _ _ => trivial), (fun _ _ => trivial)⟩⟩))) ?_ ?_
    · intro hc200 Gs201 s201
      exact b_ret (P := rB false) d_bl (fun _ _ _ h => ⟨⟨[(l1_, HO.lst u1_), (l0_, HO.lst u0_), (l129, HO.lst us188)], rfl⟩, h⟩)
    · intro hc200 Gs201 s201
      refine b_app 1 (P := (rT K (cc rI (c0 rI))) (0, 0)) rfl (d_ixV (n := 0) (d_var 6 (P := rV (.ref t_)) rfl rfl) (seqT s201 ht2_) d_int) (d_tup (r := (cc rI (c0 rI))) (x := (0, 0)) (a_cons (P := rI 0) d_int (a_cons (P := rI 0) d_int a_nil)) (tp_c tp_1)) (by omega) (fun v202 Gs203 s203 h204 => ?_)
      refine b_app 0 (P := rI 0) rfl (d_ixV (n := 1) (d_var 6 (P := rV (.ref t_)) rfl rfl) (seqT (s201.trans s203) ht2_) d_int) d_int (by omega) (fun v205 Gs206 s206 h207 => ?_)
      refine b_drop [(l1_, HO.lst (u1_ ++ [v205])), (l0_, HO.lst (u0_ ++ [v202]))] ?_
      refine b_ifx (t_neD (K := K) (r := (rT K (cc (rL K (rT K (cc rI (c0 rI)))) (cc (rL K rI) (c0 (rL K rI)))))) hr (d_callS (adr := adr) (P := (rT K (cc (rL K (rT K (cc rI (c0 rI)))) (cc (rL K rI) (c0 (rL K rI))))) (okV (m_match z11.2 z11.1 0))) (o := okV (m_match z11.2 z11.1 0)) ((z11.2, z11.1, 0), _) F_match (by first | (rw [match_eq hw]; rfl) | (rw [match_eq (Int.le_refl 0)]; rfl)) hr (by decide) (a_cons (P := (rL K (rT K (cc rS (cc rI (c0 rI))))) z11.2) (d_var 2 (P := (rL K (rT K (cc rS (cc rI (c0 rI))))) z11.2) rfl (Mono.mono (s116.trans (s119.trans (s122.trans (s124.trans (s135.trans (s138.trans (s141.trans (s142.trans (s145.trans (s147.trans (s157.trans (s158.trans (s161.trans (s163.trans (s173.trans (s174.trans (s178.trans (s179.trans (s182.trans (s184.trans (s194.trans (sT_.trans (s201.trans (s203.trans s206)))))))))))))))))))))))) kh115)) (a_cons (P := (rL K (rT K (cc rS (cc rI (c0 rI))))) z11.1) (d_var 1 (P := (rL K (rT K (cc rS (cc rI (c0 rI))))) z11.1) rfl (Mono.mono (s114.trans (s116.trans (s119.trans (s122.trans (s124.trans (s135.trans (s138.trans (s141.trans (s142.trans (s145.trans (s147.trans (s157.trans (s158.trans (s161.trans (s163.trans (s173.trans (s174.trans (s178.trans (s179.trans (s182.trans (s184.trans (s194.trans (sT_.trans (s201.trans (s203.trans s206))))))))))))))))))))))))) kh113)) (a_cons (P := rI 0) d_int a_nil))) (fun _ _ s_ h => by obtain ⟨v0, w0, rfl, h0, v1, w1, rfl, h1, v2, w2, rfl, h2, rfl⟩ := h; exact ⟨v0, v1, v2, rfl, h0, h1, h2, s_, (by exact ⟨by dsimp only; omega, by dsimp only; omega⟩)⟩) fun _ _ h => rMt_rep h) (d_callQ (P := (rT K (cc (rL K (rT K (cc rI (c0 rI)))) (cc (rL K rI) (c0 (rL K rI))))) (m_law_matched z11.2 z11.1 0)) (z11.2, z11.1, 0) F_law_matched hr (by decide) (a_cons (P := (rL K (rT K (cc rS (cc rI (c0 rI))))) z11.2) (d_var 2 (P := (rL K (rT K (cc rS (cc rI (c0 rI))))) z11.2) rfl (Mono.mono (s116.trans (s119.trans (s122.trans (s124.trans (s135.trans (s138.trans (s141.trans (s142.trans (s145.trans (s147.trans (s157.trans (s158.trans (s161.trans (s163.trans (s173.trans (s174.trans (s178.trans (s179.trans (s182.trans (s184.trans (s194.trans (sT_.trans (s201.trans (s203.trans s206)))))))))))))))))))))))) kh115)) (a_cons (P := (rL K (rT K (cc rS (cc rI (c0 rI))))) z11.1) (d_var 1 (P := (rL K (rT K (cc rS (cc rI (c0 rI))))) z11.1) rfl (Mono.mono (s114.trans (s116.trans (s119.trans (s122.trans (s124.trans (s135.trans (s138.trans (s141.trans (s142.trans (s145.trans (s147.trans (s157.trans (s158.trans (s161.trans (s163.trans (s173.trans (s174.trans (s178.trans (s179.trans (s182.trans (s184.trans (s194.trans (sT_.trans (s201.trans (s203.trans s206))))))))))))))))))))))))) kh113)) (a_cons (P := rI 0) d_int a_nil))) (fun _ _ s_ h => by obtain ⟨v0, w0, rfl, h0, v1, w1, rfl, h1, v2, w2, rfl, h2, rfl⟩ := h; exact ⟨v0, v1, v2, rfl, h0, h1, h2, (by exact ⟨by dsimp only; omega, by dsimp only; omega⟩)⟩) fun _ _ h => h) (by exact ⟨(fun _ _ => (by exact ⟨trivial, trivial⟩)), ⟨(fun _ _ => trivial), (fun _ _ => trivial)⟩⟩) (by exact ⟨(fun _ _ => (by exact ⟨trivial, trivial⟩)), ⟨(fun _ _ => trivial), (fun _ _ => trivial)⟩⟩)) ?_ ?_
      · intro hc208 Gs209 s209
        have dhc208 := hc208
        try simp only [decide_eq_true_eq, decide_eq_false_iff_not, Bool.and_eq_true, Bool.and_eq_false_imp, Bool.or_eq_true, Bool.or_eq_false_iff, Bool.not_eq_true', Bool.not_eq_false', Bool.not_not, ne_eq, Int.not_lt, Int.not_le] at dhc208
        exact b_ret (P := rB false) d_bl (fun _ _ _ h => ⟨⟨[(l129, HO.lst us188)], rfl⟩, h⟩)
      · intro hc208 Gs209 s209
        have dhc208 := hc208
        try simp only [decide_eq_true_eq, decide_eq_false_iff_not, Bool.and_eq_true, Bool.and_eq_false_imp, Bool.or_eq_true, Bool.or_eq_false_iff, Bool.not_eq_true', Bool.not_eq_false', Bool.not_not, ne_eq, Int.not_lt, Int.not_le] at dhc208
        refine b_setV (r := (rT K (cc (rL K (rT K (cc rI (c0 rI)))) (cc (rL K rI) (c0 (rL K rI)))))) 7 sc_law.nd (d_callS (adr := adr) (P := (rT K (cc (rL K (rT K (cc rI (c0 rI)))) (cc (rL K rI) (c0 (rL K rI))))) (okV (m_match z11.1 z11.1 window_197))) (o := okV (m_match z11.1 z11.1 window_197)) ((z11.1, z11.1, window_197), _) F_match (by first | (rw [match_eq hw]; rfl) | (rw [match_eq (Int.le_refl 0)]; rfl)) hr (by decide) (a_cons (P := (rL K (rT K (cc rS (cc rI (c0 rI))))) z11.1) (d_var 1 (P := (rL K (rT K (cc rS (cc rI (c0 rI))))) z11.1) rfl (Mono.mono (s114.trans (s116.trans (s119.trans (s122.trans (s124.trans (s135.trans (s138.trans (s141.trans (s142.trans (s145.trans (s147.trans (s157.trans (s158.trans (s161.trans (s163.trans (s173.trans (s174.trans (s178.trans (s179.trans (s182.trans (s184.trans (s194.trans (sT_.trans (s201.trans (s203.trans (s206.trans s209)))))))))))))))))))))))))) kh113)) (a_cons (P := (rL K (rT K (cc rS (cc rI (c0 rI))))) z11.1) (d_new (n_listL (r := (rT K (cc rS (cc rI (c0 rI))))) m_list (D.imp (P := (rL K (rT K (cc rS (cc rI (c0 rI))))) z11.1) (d_var 1 (P := (rL K (rT K (cc rS (cc rI (c0 rI))))) z11.1) rfl (Mono.mono (s114.trans (s116.trans (s119.trans (s122.trans (s124.trans (s135.trans (s138.trans (s141.trans (s142.trans (s145.trans (s147.trans (s157.trans (s158.trans (s161.trans (s163.trans (s173.trans (s174.trans (s178.trans (s179.trans (s182.trans (s184.trans (s194.trans (sT_.trans (s201.trans (s203.trans (s206.trans s209)))))))))))))))))))))))))) kh113)) fun _ _ => rdL_of))) (a_cons (P := rI window_197) (d_var 5 (P := rI window_197) rfl rfl) a_nil))) (fun _ _ s_ h => by obtain ⟨v0, w0, rfl, h0, v1, w1, rfl, h1, v2, w2, rfl, h2, rfl⟩ := h; exact ⟨v0, v1, v2, rfl, h0, h1, h2, s_, (by exact ⟨by dsimp only; omega, by dsimp only; omega⟩)⟩) fun _ _ h => rMt_rep h) (fun same_210 esame_210 v212 Gs211 s211 h213 => ?_)
        have hs : same_210 = ((rng 0 (z11.1.length : Int)).map (fun k => (k, k)), [], []) := by rw [esame_210, match_self hw]; rfl
        refine b_ifx (t_w (w_or (t_neD (K := K) (r := (rL K rI)) hr (d_ixT (r := (cc (rL K (rT K (cc rI (c0 rI)))) (cc (rL K rI) (c0 (rL K rI))))) (x := same_210) (n := 1) (P := (rL K rI) same_210.2.1) (d_var 7 (P := (rT K (cc (rL K (rT K (cc rI (c0 rI)))) (cc (rL K rI) (c0 (rL K rI))))) same_210) rfl h213) d_int (at_s at_z)) (d_new (n_lst (r := rI) (xs := ([] : (List Int))) a_nil ls_n)) (fun _ _ => trivial) (fun _ _ => trivial)) fun hk217 => (w_or (t_neD (K := K) (r := (rL K rI)) hr (d_ixT (r := (cc (rL K (rT K (cc rI (c0 rI)))) (cc (rL K rI) (c0 (rL K rI))))) (x := same_210) (n := 2) (P := (rL K rI) same_210.2.2) (d_var 7 (P := (rT K (cc (rL K (rT K (cc rI (c0 rI)))) (cc (rL K rI) (c0 (rL K rI))))) same_210) rfl h213) d_int (at_s (at_s at_1))) (d_new (n_lst (r := rI) (xs := ([] : (List Int))) a_nil ls_n)) (fun _ _ => trivial) (fun _ _ => trivial)) fun hk216 => (w_or1 (t_cmp op_ne (nomark _) (d_lenL (r := (rT K (cc rI (c0 rI)))) m_len (D.imp (P := (rL K (rT K (cc rI (c0 rI)))) same_210.1) (d_ixT (r := (cc (rL K (rT K (cc rI (c0 rI)))) (cc (rL K rI) (c0 (rL K rI))))) (x := same_210) (n := 0) (P := (rL K (rT K (cc rI (c0 rI)))) same_210.1) (d_var 7 (P := (rT K (cc (rL K (rT K (cc rI (c0 rI)))) (cc (rL K rI) (c0 (rL K rI))))) same_210) rfl h213) d_int at_z) fun _ _ => rdL_of)) (d_lenL (r := (rT K (cc rS (cc rI (c0 rI))))) m_len (D.imp (P := (rL K (rT K (cc rS (cc rI (c0 rI))))) z11.1) (d_var 1 (P := (rL K (rT K (cc rS (cc rI (c0 rI))))) z11.1) rfl (Mono.mono (s114.trans (s116.trans (s119.trans (s122.trans (s124.trans (s135.trans (s138.trans (s141.trans (s142.trans (s145.trans (s147.trans (s157.trans (s158.trans (s161.trans (s163.trans (s173.trans (s174.trans (s178.trans (s179.trans (s182.trans (s184.trans (s194.trans (sT_.trans (s201.trans (s203.trans (s206.trans (s209.trans s211))))))))))))))))))))))))))) kh113)) fun _ _ => rdL_of)) fun _ _ _ _ _ _ hx hy _ q => c_neI hx hy q))))) ?_ ?_
        · intro hc214 Gs215 s215
          have dhc214 := hc214
          try simp only [decide_eq_true_eq, decide_eq_false_iff_not, Bool.and_eq_true, Bool.and_eq_false_imp, Bool.or_eq_true, Bool.or_eq_false_iff, Bool.not_eq_true', Bool.not_eq_false', Bool.not_not, ne_eq, Int.not_lt, Int.not_le] at dhc214
          exact b_ret (P := rB false) d_bl (fun _ _ _ h => ⟨⟨[(l129, HO.lst us188)], rfl⟩, h⟩)
        · intro hc214 Gs215 s215
          have dhc214 := hc214
          try simp only [decide_eq_true_eq, decide_eq_false_iff_not, Bool.and_eq_true, Bool.and_eq_false_imp, Bool.or_eq_true, Bool.or_eq_false_iff, Bool.not_eq_true', Bool.not_eq_false', Bool.not_not, ne_eq, Int.not_lt, Int.not_le] at dhc214
          refine b_for (f := (st_law_2 z11)) (s0 := ()) (xs := same_210.1) (fun n_ (z218 : Unit) σ_ G_ cs_ => ∃ o221 : Option V, ∃ o222 : Option V, ∃ o223 : Option V, σ_ = [some v0_, some (.ref l2), some (.ref l7), o221, some (.ref l129), some (.int window_197), o222, some v212, o223] ∧ (l129, HO.lst us188) :: cs = cs_) (i_listF (r := (rT K (cc rI (c0 rI)))) (d_ixT (r := (cc (rL K (rT K (cc rI (c0 rI)))) (cc (rL K rI) (c0 (rL K rI))))) (x := same_210) (n := 0) (P := (rL K (rT K (cc rI (c0 rI)))) same_210.1) (d_var 7 (P := (rT K (cc (rL K (rT K (cc rI (c0 rI)))) (cc (rL K rI) (c0 (rL K rI))))) same_210) rfl (Mono.mono s215 h213)) d_int at_z)) (tg_name 8 sc_law.nd) rfl PassesOwn.never ?_ ?_ ?_ ?_
          · intro _ s230
            exact ⟨_, _, _, rfl, rfl⟩
          · intro _ _ _ _ _ _
            trivial
          · intro pre_ x224 post_ z218 _ _ _ _ _ hxsz218 hrez218 s225 hNz218 s226 hSz218
            obtain ⟨o221, o222, o223, rfl, rfl⟩ := hNz218
            obtain ⟨v219, h220, rfl⟩ := hSz218
            have hltz218 : pre_.length < same_210.1.length := by rw [hxsz218, List.length_append, List.length_cons]; omega
            have hmemz218 : x224 ∈ same_210.1 := by rw [hxsz218]; exact List.mem_append_right _ List.mem_cons_self
            try simp only [rng_length, rng_mem, enumL_length] at hltz218 hmemz218
            show B _ _ _ _ _ _ _ (st_law_2 z11 z218 x224)
            unfold st_law_2
            have hq := hmemz218
            rw [hs] at hq
            obtain ⟨k_, hk_, ek_⟩ := List.mem_map.mp hq
            have hk2 := rng_mem.mp hk_
            have hx1 : x224.1 = k_ := by rw [← ek_]
            have hx2 : x224.2 = k_ := by rw [← ek_]
            refine b_ifx (t_cmp op_ne (nomark _) (d_ixT (r := (cc rS (cc rI (c0 rI)))) (x := (ixg z11.1 x224.1)) (n := 0) (P := rS ((ixg z11.1 x224.1).1)) (d_ixL (r := (rT K (cc rS (cc rI (c0 rI))))) (xs := z11.1) (i := x224.1) (x := (ixg z11.1 x224.1)) (D.imp (P := (rL K (rT K (cc rS (cc rI (c0 rI))))) z11.1) (d_var 1 (P := (rL K (rT K (cc rS (cc rI (c0 rI))))) z11.1) rfl (Mono.mono (s114.trans (s116.trans (s119.trans (s122.trans (s124.trans (s135.trans (s138.trans (s141.trans (s142.trans (s145.trans (s147.trans (s157.trans (s158.trans (s161.trans (s163.trans (s173.trans (s174.trans (s178.trans (s179.trans (s182.trans (s184.trans (s194.trans (sT_.trans (s201.trans (s203.trans (s206.trans (s209.trans (s211.trans (s215.trans (s225.trans s226)))))))))))))))))))))))))))))) kh113)) fun _ _ => rdL_of) (d_ixT (r := (cc rI (c0 rI))) (x := x224) (n := 0) (P := rI x224.1) (d_var 8 (P := (rT K (cc rI (c0 rI))) x224) rfl h220) d_int at_z) (atI_ixg (by first | (constructor <;> omega) | (simp only [List.length_cons, List.length_nil]; constructor <;> omega)))) d_int at_z) (d_ixT (r := (cc rS (cc rI (c0 rI)))) (x := (ixg z11.1 x224.2)) (n := 0) (P := rS ((ixg z11.1 x224.2).1)) (d_ixL (r := (rT K (cc rS (cc rI (c0 rI))))) (xs := z11.1) (i := x224.2) (x := (ixg z11.1 x224.2)) (D.imp (P := (rL K (rT K (cc rS (cc rI (c0 rI))))) z11.1) (d_var 1 (P := (rL K (rT K (cc rS (cc rI (c0 rI))))) z11.1) rfl (Mono.mono (s114.trans (s116.trans (s119.trans (s122.trans (s124.trans (s135.trans (s138.trans (s141.trans (s142.trans (s145.trans (s147.trans (s157.trans (s158.trans (s161.trans (s163.trans (s173.trans (s174.trans (s178.trans (s179.trans (s182.trans (s184.trans (s194.trans (sT_.trans (s201.trans (s203.trans (s206.trans (s209.trans (s211.trans (s215.trans (s225.trans s226)))))))))))))))))))))))))))))) kh113)) fun _ _ => rdL_of) (d_ixT (r := (cc rI (c0 rI))) (x := x224) (n := 1) (P := rI x224.2) (d_var 8 (P := (rT K (cc rI (c0 rI))) x224) rfl h220) d_int (at_s at_1)) (atI_ixg (by first | (constructor <;> omega) | (simp only [List.length_cons, List.length_nil]; constructor <;> omega)))) d_int at_z) fun _ _ _ _ _ _ hx hy _ q => c_neS hx hy q) ?_ ?_
            · intro hc228 Gs229 s229
              have dhc228 := hc228
              try simp only [decide_eq_true_eq, decide_eq_false_iff_not, Bool.and_eq_true, Bool.and_eq_false_imp, Bool.or_eq_true, Bool.or_eq_false_iff, Bool.not_eq_true', Bool.not_eq_false', Bool.not_not, ne_eq, Int.not_lt, Int.not_le] at dhc228
              exact b_ret (P := rB false) d_bl (fun _ _ _ h => ⟨⟨[(l129, HO.lst us188)], rfl⟩, h⟩)
            · intro hc228 Gs229 s229
              have dhc228 := hc228
              try simp only [decide_eq_true_eq, decide_eq_false_iff_not, Bool.and_eq_true, Bool.and_eq_false_imp, Bool.or_eq_true, Bool.or_eq_false_iff, Bool.not_eq_true', Bool.not_eq_false', Bool.not_not, ne_eq, Int.not_lt, Int.not_le] at dhc228
              exact b_nil (by refine ⟨_, _, _, rfl, rfl⟩)
          · intro n_ z218 _ _ _ hnz218 s231 hNz218 hfz218
            obtain ⟨o221, o222, o223, rfl, rfl⟩ := hNz218
            try simp only [rng_length, enumL_length] at hnz218
            exact b_ret (P := rB (decide ((okV (m_match z11.1 z11.2 window_197)) = (m_law_matched z11.1 z11.2 window_197)))) (d_eqD (K := K) (r := (rT K (cc (rL K (rT K (cc rI (c0 rI)))) (cc (rL K rI) (c0 (rL K rI)))))) hr (d_callS (adr := adr) (P := (rT K (cc (rL K (rT K (cc rI (c0 rI)))) (cc (rL K rI) (c0 (rL K rI))))) (okV (m_match z11.1 z11.2 window_197))) (o := okV (m_match z11.1 z11.2 window_197)) ((z11.1, z11.2, window_197), _) F_match (by first | (rw [match_eq hw]; rfl) | (rw [match_eq (Int.le_refl 0)]; rfl)) hr (by decide) (a_cons (P := (rL K (rT K (cc rS (cc rI (c0 rI))))) z11.1) (d_var 1 (P := (rL K (rT K (cc rS (cc rI (c0 rI))))) z11.1) rfl (Mono.mono (s114.trans (s116.trans (s119.trans (s122.trans (s124.trans (s135.trans (s138.trans (s141.trans (s142.trans (s145.trans (s147.trans (s157.trans (s158.trans (s161.trans (s163.trans (s173.trans (s174.trans (s178.trans (s179.trans (s182.trans (s184.trans (s194.trans (sT_.trans (s201.trans (s203.trans (s206.trans (s209.trans (s211.trans (s215.trans s231))))))))))))))))))))))))))))) kh113)) (a_cons (P := (rL K (rT K (cc rS (cc rI (c0 rI))))) z11.2) (d_var 2 (P := (rL K (rT K (cc rS (cc rI (c0 rI))))) z11.2) rfl (Mono.mono (s116.trans (s119.trans (s122.trans (s124.trans (s135.trans (s138.trans (s141.trans (s142.trans (s145.trans (s147.trans (s157.trans (s158.trans (s161.trans (s163.trans (s173.trans (s174.trans (s178.trans (s179.trans (s182.trans (s184.trans (s194.trans (sT_.trans (s201.trans (s203.trans (s206.trans (s209.trans (s211.trans (s215.trans s231)))))))))))))))))))))))))))) kh115)) (a_cons (P := rI window_197) (d_var 5 (P := rI window_197) rfl rfl) a_nil))) (fun _ _ s_ h => by obtain ⟨v0, w0, rfl, h0, v1, w1, rfl, h1, v2, w2, rfl, h2, rfl⟩ := h; exact ⟨v0, v1, v2, rfl, h0, h1, h2, s_, (by exact ⟨by dsimp only; omega, by dsimp only; omega⟩)⟩) fun _ _ h => rMt_rep h) (d_callQ (P := (rT K (cc (rL K (rT K (cc rI (c0 rI)))) (cc (rL K rI) (c0 (rL K rI))))) (m_law_matched z11.1 z11.2 window_197)) (z11.1, z11.2, window_197) F_law_matched hr (by decide) (a_cons (P := (rL K (rT K (cc rS (cc rI (c0 rI))))) z11.1) (d_var 1 (P := (rL K (rT K (cc rS (cc rI (c0 rI))))) z11.1) rfl (Mono.mono (s114.trans (s116.trans (s119.trans (s122.trans (s124.trans (s135.trans (s138.trans (s141.trans (s142.trans (s145.trans (s147.trans (s157.trans (s158.trans (s161.trans (s163.trans (s173.trans (s174.trans (s178.trans (s179.trans (s182.trans (s184.trans (s194.trans (sT_.trans (s201.trans (s203.trans (s206.trans (s209.trans (s211.trans (s215.trans s231))))))))))))))))))))))))))))) kh113)) (a_cons (P := (rL K (rT K (cc rS (cc rI (c0 rI))))) z11.2) (d_var 2 (P := (rL K (rT K (cc rS (cc rI (c0 rI))))) z11.2) rfl (Mono.mono (s116.trans (s119.trans (s122.trans (s124.trans (s135.trans (s138.trans (s141.trans (s142.trans (s145.trans (s147.trans (s157.trans (s158.trans (s161.trans (s163.trans (s173.trans (s174.trans (s178.trans (s179.trans (s182.trans (s184.trans (s194.trans (sT_.trans (s201.trans (s203.trans (s206.trans (s209.trans (s211.trans (s215.trans s231)))))))))))))))))))))))))))) kh115)) (a_cons (P := rI window_197) (d_var 5 (P := rI window_197) rfl rfl) a_nil))) (fun _ _ s_ h => by obtain ⟨v0, w0, rfl, h0, v1, w1, rfl, h1, v2, w2, rfl, h2, rfl⟩ := h; exact ⟨v0, v1, v2, rfl, h0, h1, h2, (by exact ⟨by dsimp only; omega, by dsimp only; omega⟩)⟩) fun _ _ h => h) (by exact ⟨(fun _ _ => (by exact ⟨trivial, trivial⟩)), ⟨(fun _ _ => trivial), (fun _ _ => trivial)⟩⟩) (by exact ⟨(fun _ _ => (by exact ⟨trivial, trivial⟩)), ⟨(fun _ _ => trivial), (fun _ _ => trivial)⟩⟩)) (fun _ _ _ h => ⟨⟨[(l129, HO.lst us188)], rfl⟩, h⟩)
end Ck38

set_option synthInstance.maxSize 10000
namespace Ck38
open PySem L2 PyProof.Rows J
theorem all_mk {l : PySem.W.OpenLaw} {w : World} {K : PySem.W.Frag} {h : Heap} {mg : Str → Option Value} {fa f1 f2 f3 f4 f5 f6 f7 f8 f9 f10 : Addr} (X : K.In h) (G : h.Ns mainGlobals mg) (hfa : mg "law" = some (.ref fa))
    {od1 an1 od2 an2 od3 an3 od4 an4 od5 an5 od6 an6 od7 an7 od8 an8 od9 an9 od10 an10 : Option Addr} {sl1 sl2 sl3 sl4 sl5 sl6 sl7 sl8 sl9 sl10 : Array (Option Value)} {oc1 kV1 dc1 pm1 cd1 ct1 oc2 kV2 dc2 pm2 cd2 ct2 oc3 kV3 dc3 pm3 cd3 ct3 oc4 kV4 dc4 pm4 cd4 ct4 oc5 kV5 dc5 pm5 cd5 ct5 oc6 kV6 dc6 pm6 cd6 ct6 oc7 kV7 dc7 pm7 cd7 ct7 oc8 kV8 dc8 pm8 cd8 ct8 oc9 kV9 dc9 pm9 cd9 ct9 oc10 kV10 dc10 pm10 cd10 ct10 : Value}
    (a1 : PySem.W.nsIn K mainGlobals "_law_source" = some (some (.ref f1))) (l1 : K.lookup f1 = some ⟨oc1, od1, .func (PySem.W.fnOf "_law_source" "_law_source" (defArgs s_law_source) (defBody s_law_source) (defScope s_law_source) .none kV1 dc1 pm1 an1 cd1 ct1), sl1⟩) (c1 : PySem.W.codeIn K cd1 "_law_source" = true) (k1 : PySem.W.keepIn K (.ref f1) = true)
    (a2 : PySem.W.nsIn K mainGlobals "same_key" = some (some (.ref f2))) (l2 : K.lookup f2 = some ⟨oc2, od2, .func (PySem.W.fnOf "same_key" "same_key" (defArgs s_same_key) (defBody s_same_key) (defScope s_same_key) .none kV2 dc2 pm2 an2 cd2 ct2), sl2⟩) (c2 : PySem.W.codeIn K cd2 "same_key" = true) (k2 : PySem.W.keepIn K (.ref f2) = true)
    (a3 : PySem.W.nsIn K mainGlobals "near_day" = some (some (.ref f3))) (l3 : K.lookup f3 = some ⟨oc3, od3, .func (PySem.W.fnOf "near_day" "near_day" (defArgs s_near_day) (defBody s_near_day) (defScope s_near_day) .none kV3 dc3 pm3 an3 cd3 ct3), sl3⟩) (c3 : PySem.W.codeIn K cd3 "near_day" = true) (k3 : PySem.W.keepIn K (.ref f3) = true)
    (a4 : PySem.W.nsIn K mainGlobals "first_partner" = some (some (.ref f4))) (l4 : K.lookup f4 = some ⟨oc4, od4, .func (PySem.W.fnOf "first_partner" "first_partner" (defArgs s_first_partner) (defBody s_first_partner) (defScope s_first_partner) .none kV4 dc4 pm4 an4 cd4 ct4), sl4⟩) (c4 : PySem.W.codeIn K cd4 "first_partner" = true) (k4 : PySem.W.keepIn K (.ref f4) = true)
    (a5 : PySem.W.nsIn K mainGlobals "match" = some (some (.ref f5))) (l5 : K.lookup f5 = some ⟨oc5, od5, .func (PySem.W.fnOf "match" "match" (defArgs s_match) (defBody s_match) (defScope s_match) .none kV5 dc5 pm5 an5 cd5 ct5), sl5⟩) (c5 : PySem.W.codeIn K cd5 "match" = true) (k5 : PySem.W.keepIn K (.ref f5) = true)
    (a6 : PySem.W.nsIn K mainGlobals "_law_cell" = some (some (.ref f6))) (l6 : K.lookup f6 = some ⟨oc6, od6, .func (PySem.W.fnOf "_law_cell" "_law_cell" (defArgs s_law_cell) (defBody s_law_cell) (defScope s_law_cell) .none kV6 dc6 pm6 an6 cd6 ct6), sl6⟩) (c6 : PySem.W.codeIn K cd6 "_law_cell" = true) (k6 : PySem.W.keepIn K (.ref f6) = true)
    (a7 : PySem.W.nsIn K mainGlobals "_law_pick" = some (some (.ref f7))) (l7 : K.lookup f7 = some ⟨oc7, od7, .func (PySem.W.fnOf "_law_pick" "_law_pick" (defArgs s_law_pick) (defBody s_law_pick) (defScope s_law_pick) .none kV7 dc7 pm7 an7 cd7 ct7), sl7⟩) (c7 : PySem.W.codeIn K cd7 "_law_pick" = true) (k7 : PySem.W.keepIn K (.ref f7) = true)
    (a8 : PySem.W.nsIn K mainGlobals "_law_matched" = some (some (.ref f8))) (l8 : K.lookup f8 = some ⟨oc8, od8, .func (PySem.W.fnOf "_law_matched" "_law_matched" (defArgs s_law_matched) (defBody s_law_matched) (defScope s_law_matched) .none kV8 dc8 pm8 an8 cd8 ct8), sl8⟩) (c8 : PySem.W.codeIn K cd8 "_law_matched" = true) (k8 : PySem.W.keepIn K (.ref f8) = true)
    (a9 : PySem.W.nsIn K mainGlobals "_law_payment" = some (some (.ref f9))) (l9 : K.lookup f9 = some ⟨oc9, od9, .func (PySem.W.fnOf "_law_payment" "_law_payment" (defArgs s_law_payment) (defBody s_law_payment) (defScope s_law_payment) .none kV9 dc9 pm9 an9 cd9 ct9), sl9⟩) (c9 : PySem.W.codeIn K cd9 "_law_payment" = true) (k9 : PySem.W.keepIn K (.ref f9) = true)
    (a10 : PySem.W.nsIn K mainGlobals "law" = some (some (.ref f10))) (l10 : K.lookup f10 = some ⟨oc10, od10, .func (PySem.W.fnOf "law" "law" (defArgs s_law) (defBody s_law) (defScope s_law) .none kV10 dc10 pm10 an10 cd10 ct10), sl10⟩) (c10 : PySem.W.codeIn K cd10 "law" = true) (k10 : PySem.W.keepIn K (.ref f10) = true)
    (z_abs : PySem.W.nsIn K mainGlobals "abs" = some none)
    (z_int : PySem.W.nsIn K mainGlobals "int" = some none)
    (z_len : PySem.W.nsIn K mainGlobals "len" = some none)
    (z_list : PySem.W.nsIn K mainGlobals "list" = some none)
    (z_range : PySem.W.nsIn K mainGlobals "range" = some none)
    {eB e0 : Addr} (bB : PySem.W.nsIn K mainGlobals "BankError" = some (some (.ref eB))) (bB1 : PySem.W.subIn K (.ref eB) (.type "BaseException") = some true) (bB2 : PySem.W.hasDictIn K eB = true) (bB3 : PySem.W.typeIn K (.ref eB) = some (.type "type"))
    (ea0 : PySem.W.nsIn K mainGlobals "BadValue" = some (some (.ref e0))) (ex0 : PySem.W.excIn K e0 [.type "ValueError", .type "Exception", .type "BaseException", .type "object"] "ValueError.__new__" = true) (ek0 : PySem.W.keepIn K (.ref e0) = true) (eb0 : PySem.W.subIn K (.ref e0) (.type "BaseException") = some true) (et0 : PySem.W.typeIn K (.ref e0) = some (.type "type"))
    (eg0 : PySem.W.findIn K (.ref e0) "__getattribute__" = some (some (.builtin "BaseException.__getattribute__"))) (eh0 : PySem.W.findIn K (.ref e0) "__getattr__" = some none) (ed0 : PySem.W.hasDictIn K e0 = true) (ec0 : PySem.W.findIn K (.ref e0) "__class__" = some (some (.builtin "object.__class__"))) (em0 : PySem.W.mroIn K e0 (.type "object") = some true) (ey0 : PySem.W.subIn K (.ref e0) (.ref eB) = some true)
    (eq0_0 : PySem.W.subIn K (.ref e0) (.ref e0) = some true)
    (eN : PySem.W.specialIn K (.builtin "object.__class__") "__get__" = some (some (.builtin "getset_descriptor.__get__"))) (eT : PySem.W.takesIn K (.builtin "object.__class__") = some true)
    : ∃ fd : FuncData, (∀ (s : Shared) (v : Value), BindsTo s fd ⟨[v], []⟩ [("_law_script", v)]) ∧ ∀ base : Heap, K.In base → base.Ns mainGlobals mg → FnOk l.prog w K mg base CX0 4 fa fd ["_law_script"] (sp_law K) := by
  have e := hfa.symm.trans (PySem.W.mg_of X G a10)
  cases e
  have F1 := fun_mk (st := s_law_source) l1 c1 k1
  have b1 := F1.binds (ps := ["_law_cell_here", "_law_k"]) fun _ _ _ _ _ _ us hl => match us, hl with | [_, _], _ => rfl
  have g1 := PySem.W.mg_of X G a1
  have F2 := fun_mk (st := s_same_key) l2 c2 k2
  have b2 := F2.binds (ps := ["one", "other", "window"]) fun _ _ _ _ _ _ us hl => match us, hl with | [_, _, _], _ => rfl
  have g2 := PySem.W.mg_of X G a2
  have F3 := fun_mk (st := s_near_day) l3 c3 k3
  have b3 := F3.binds (ps := ["one", "other", "window"]) fun _ _ _ _ _ _ us hl => match us, hl with | [_, _, _], _ => rfl
  have g3 := PySem.W.mg_of X G a3
  have F4 := fun_mk (st := s_first_partner) l4 c4 k4
  have b4 := F4.binds (ps := ["payment", "theirs", "left", "window", "fits"]) fun _ _ _ _ _ _ us hl => match us, hl with | [_, _, _, _, _], _ => rfl
  have g4 := PySem.W.mg_of X G a4
  have F5 := fun_mk (st := s_match) l5 c5 k5
  have b5 := F5.binds (ps := ["ours", "theirs", "window"]) fun _ _ _ _ _ _ us hl => match us, hl with | [_, _, _], _ => rfl
  have g5 := PySem.W.mg_of X G a5
  have F6 := fun_mk (st := s_law_cell) l6 c6 k6
  have b6 := F6.binds (ps := ["_law_script", "_law_k"]) fun _ _ _ _ _ _ us hl => match us, hl with | [_, _], _ => rfl
  have g6 := PySem.W.mg_of X G a6
  have F7 := fun_mk (st := s_law_pick) l7 c7 k7
  have b7 := F7.binds (ps := ["_law_source_here", "_law_many"]) fun _ _ _ _ _ _ us hl => match us, hl with | [_, _], _ => rfl
  have g7 := PySem.W.mg_of X G a7
  have F8 := fun_mk (st := s_law_matched) l8 c8 k8
  have b8 := F8.binds (ps := ["_law_ours", "_law_theirs", "_law_window"]) fun _ _ _ _ _ _ us hl => match us, hl with | [_, _, _], _ => rfl
  have g8 := PySem.W.mg_of X G a8
  have F9 := fun_mk (st := s_law_payment) l9 c9 k9
  have b9 := F9.binds (ps := ["_law_source_here", "_law_others"]) fun _ _ _ _ _ _ us hl => match us, hl with | [_, _], _ => rfl
  have g9 := PySem.W.mg_of X G a9
  have F10 := fun_mk (st := s_law) l10 c10 k10
  have b10 := F10.binds (ps := ["_law_script"]) fun _ _ _ _ _ _ us hl => match us, hl with | [_], _ => rfl
  have g10 := PySem.W.mg_of X G a10
  have m_abs := PySem.W.mg_none_of X G z_abs
  have m_int := PySem.W.mg_none_of X G z_int
  have m_len := PySem.W.mg_none_of X G z_len
  have m_list := PySem.W.mg_none_of X G z_list
  have m_range := PySem.W.mg_none_of X G z_range
  let adr : _root_.Fin 1 → Addr := fun i => match i with | 0 => e0
  have Er : Errs K mg nm_ adr eB := ⟨fun i => match i with | 0 => ⟨ex0, PySem.W.mg_of X G ea0, ek0, eb0, et0, ⟨eg0, eh0, eb0, ed0, ec0, eN, eT, em0⟩, PySem.W.exm_ref bB1 bB2 bB3 ey0⟩, fun i j => match i, j with | 0, 0 => kit_ref ed0 et0 eq0_0 eq0_0, PySem.W.mg_of X G bB⟩
  have O_law_source := fun base : Heap => ok_law_source (P := l.prog) (w := w) (base := base) F1 b1 g1 Er m_int
  have O_same_key := fun base : Heap => ok_same_key (P := l.prog) (w := w) (base := base) F2 b2 g2 Er
  have O_near_day := fun base : Heap => ok_near_day (P := l.prog) (w := w) (base := base) F3 b3 g3 Er m_abs
  have O_first_partner := fun base : Heap => ok_first_partner (P := l.prog) (w := w) (base := base) F4 b4 g4 Er (O_near_day base) (O_same_key base)
  have O_match := fun base : Heap => ok_match (P := l.prog) (w := w) (base := base) F5 b5 g5 Er m_len m_list m_range (O_first_partner base) (O_near_day base) (O_same_key base)
  have O_law_cell := fun base : Heap => ok_law_cell (P := l.prog) (w := w) (base := base) F6 b6 g6 Er m_len
  have O_law_pick := fun base : Heap => ok_law_pick (P := l.prog) (w := w) (base := base) F7 b7 g7 Er m_int
  have O_law_matched := fun base : Heap => ok_law_matched (P := l.prog) (w := w) (base := base) F8 b8 g8 Er m_abs m_len m_range
  have O_law_payment := fun base : Heap => ok_law_payment (P := l.prog) (w := w) (base := base) F9 b9 g9 Er m_len (O_law_pick base)
  exact ⟨PySem.W.fnOf "law" "law" (defArgs s_law) (defBody s_law) (defScope s_law) .none kV10 dc10 pm10 an10 cd10 ct10, fun s v => .of_eq rfl, fun base _ _ => ok_law F10 b10 g10 Er m_len m_list m_range (O_law_cell base) (O_law_matched base) (O_law_payment base) (O_law_pick base) (O_law_source base) (O_match base)⟩
theorem walk {l : PySem.W.OpenLaw} {q : Program} {loose : List Str} {XP : (Str → Option Value) → Heap → Prop} {YP : World → Heap → Prop} {d : DefRec} {K : Params → PySem.W.Frag} (hn : l.most = some 63) (hdf : d.params.defaults = [])
    (hY : ∀ (w : World) (h : Heap), YP w h → (K w.params).In h)
    (F : ∀ (w : World) (mg : Str → Option Value) (fa : Addr) (h : Heap), (K w.params).In h → h.Ns mainGlobals mg → mg d.name = some (.ref fa) →
      ∃ fd : FuncData, (∀ (s : Shared) (u : Value), BindsTo s fd ⟨[u], []⟩ [("_law_script", u)]) ∧ ∀ base : Heap, (K w.params).In base → base.Ns mainGlobals mg → FnOk l.prog w (K w.params) mg base CX0 4 fa fd ["_law_script"] (sp_law (K w.params))) :
    PySem.W.WalkO q loose XP YP l.row.toRowW d [] (fun f vs => PySem.call f vs) :=
  L2.walk_of (n := 63) (k := 4) (x := "_law_script") (CX := fun _ => CX0) (sp := fun w => sp_law (K w.params)) hn (by decide) hdf ⟨rfl, by decide, by decide⟩ hY F
    (fun w H a ns hl _ hS => ⟨ns, H, [], Desc.refl H, ⟨.ref a, rfl, ⟨a, ns.map V.int, rfl, hS, Rs.of_map (fun _ => rfl) ns⟩, hl⟩, fun v _ _ _ _ hv => hv.trans (congrArg V.bl (law_true ns))⟩) fun _ _ _ _ _ z => z
end Ck38
open PySem PySem.W PyProof.Rows in
set_option maxRecDepth 100000 in
set_option maxHeartbeats 0 in
theorem PySem.Challenge.cw_corebank_k38_match_exact_holds : PySem.Challenge.rw_corebank_k38_match_exact.Holds := by
  w_on; o_law; k_head; (case hw => w_witness2)
  k_fill
  refine Ck38.walk (l := PySem.Challenge.rw_corebank_k38_match_exact) rfl rfl (fun w h Y => PySem.W.kIn_of Y) ?F
  case F =>
    intro w mg fa h KX G hmg
    refine' Ck38.all_mk KX G hmg ?a1 ?l1 ?c1 ?k1 ?a2 ?l2 ?c2 ?k2 ?a3 ?l3 ?c3 ?k3 ?a4 ?l4 ?c4 ?k4 ?a5 ?l5 ?c5 ?k5 ?a6 ?l6 ?c6 ?k6 ?a7 ?l7 ?c7 ?k7 ?a8 ?l8 ?c8 ?k8 ?a9 ?l9 ?c9 ?k9 ?a10 ?l10 ?c10 ?k10 ?z_abs ?z_int ?z_len ?z_list ?z_range ?bB ?bB1 ?bB2 ?bB3 ?ea0 ?ex0 ?ek0 ?eb0 ?et0 ?eg0 ?eh0 ?ed0 ?ec0 ?em0 ?ey0 ?eq0_0 ?eN ?eT
    (case a1 => k_is)
    (case l1 => k_is)
    (case c1 => k_is)
    (case k1 => k_is)
    (case a2 => k_is)
    (case l2 => k_is)
    (case c2 => k_is)
    (case k2 => k_is)
    (case a3 => k_is)
    (case l3 => k_is)
    (case c3 => k_is)
    (case k3 => k_is)
    (case a4 => k_is)
    (case l4 => k_is)
    (case c4 => k_is)
    (case k4 => k_is)
    (case a5 => k_is)
    (case l5 => k_is)
    (case c5 => k_is)
    (case k5 => k_is)
    (case a6 => k_is)
    (case l6 => k_is)
    (case c6 => k_is)
    (case k6 => k_is)
    (case a7 => k_is)
    (case l7 => k_is)
    (case c7 => k_is)
    (case k7 => k_is)
    (case a8 => k_is)
    (case l8 => k_is)
    (case c8 => k_is)
    (case k8 => k_is)
    (case a9 => k_is)
    (case l9 => k_is)
    (case c9 => k_is)
    (case k9 => k_is)
    (case a10 => k_is)
    (case l10 => k_is)
    (case c10 => k_is)
    (case k10 => k_is)
    (case z_abs => k_is)
    (case z_int => k_is)
    (case z_len => k_is)
    (case z_list => k_is)
    (case z_range => k_is)
    (case bB => k_is)
    (case bB1 => k_is)
    (case bB2 => k_is)
    (case bB3 => k_is)
    (case ea0 => k_is)
    (case ex0 => k_exc)
    (case ek0 => k_is)
    (case eb0 => k_is)
    (case et0 => k_is)
    (case eg0 => k_is)
    (case eh0 => k_is)
    (case ed0 => k_is)
    (case ec0 => k_is)
    (case em0 => k_is)
    (case ey0 => k_is)
    (case eN => k_is)
    (case eT => k_is)
    (case eq0_0 => first | rfl | k_is)

